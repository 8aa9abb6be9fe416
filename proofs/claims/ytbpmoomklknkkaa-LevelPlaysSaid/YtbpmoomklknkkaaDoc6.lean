/- The document's arena: a Take of all that an order has. -/
import Derived.Test.YtbpmoomklknkkaaDoc5
namespace Go.Proofs.Ytbpmoomklknkkaa
open Go.RowKit

section
variable {w w' : World} {B pb ub : Nat} {qa : Option Addr} {qk room : Nat} {U A : List (List Ent)} {V : Nat → Option Addr × Nat}
set_option maxHeartbeats 2000000 in
theorem dtake_all (h : RA w B pb ub qa qk room A A V) (hf : Fit A) (hsl : ∀ (n j : Nat) (L : List Ent) (e : Ent), A[n]? = some L → L[j]? = some e → e.slot < room) (hB : B ≤ w.heap.size) (i qty : Int) {n j : Nat} {e : Ent} (hfa : findA A i = some (n, j, e)) (hqe : e.qty = qty) :
    Calls Try.prog 31 #[.pointer (some ⟨pb, 0, none⟩), .int .i64 i, .int .i64 qty] w fun x w' => x = .returned (.int .i64 0) ∧ (∃ V', RA w' B pb ub qa qk room (A.set n ((A.getD n []).eraseIdx j)) (A.set n ((A.getD n []).eraseIdx j)) V') ∧ Keeps (RF pb ub qa A V) w w' := by
  obtain ⟨L, qb, g, c, h1, h2, h3, hn, hj, rfl, cq, hV, hg, e0, e1, e2, e3⟩ := h.found hfa
  have c1 := h.c1
  have hn' : (n : Int) < (A.length : Int) := by omega
  have hj' : (j : Int) < (L.length : Int) := by omega
  have heq := hf.qty n j L e h1 h2
  have HN := Lib.hid (h.ent h1 (by rw [hV]) h2 (k := 2) (by omega) (.int .i64 (0)) (e' := { e with qty := 0 }) rfl)
  have HTK : Hid (∀ i, Taken (A.set n (L.set j { e with qty := 0 })) i ↔ Taken A i) := Lib.hid (taken_turn h1 h2 (e' := { e with qty := 0 }) rfl)
  have hrow := h.row n hn
  have hrow2 : RowD w B (.slice (some ⟨g, 0, none⟩) L.length c) L := by unfold vd at hrow; rw [hV, getD_of h1] at hrow; exact hrow
  have fz : w.frozen? ⟨g, j * 4 + 2, none⟩ = false := World.ownsRow.frozenAt hrow2 _
  have hgp : pb ≠ g := h.hp.tyd.ne (own_tyd hrow2 g rfl) (by decide)
  have hgq : qb ≠ g := (own_tyd h.hq qb rfl).ne (own_tyd hrow2 g rfl) (by decide)
  have s4 : IntKind.i64.wrap (e.qty - qty) = 0 := by rw [hqe, Int.sub_self]; exact IntWalk.i64_in _ (by omega)
  have hq3 : ¬ qty < 1 := by omega
  have hq4 : ¬ e.qty < qty := by omega
  have hslot := hsl n j L e h1 h2
  have hLs := hf.short n L h1
  have hslot' : (e.slot : Int) < (room : Int) := by omega
  have HGONE := Lib.hid (taken_gone hf.apart h1 h2)
  have H := Lib.hid h
  have HF := Lib.hid hf
  have HT := Lib.hid (atT_some hfa)
  rw [getD_of h1]
  have C1 := Lib.hid (HN.out.1.c1)
  have CQ := Lib.hid (HN.out.1.cq (i := n) (by rw [List.length_set]; exact hn))
  have HLN : Hid ((A.set n (L.set j { e with qty := 0 })).length = A.length) := Lib.hid List.length_set
  have HVD : Hid (vd (A.set n (L.set j { e with qty := 0 })) V n = .slice (some ⟨g, 0, none⟩) L.length c) := Lib.hid (by unfold vd; rw [hV, getD_set_self hn, List.length_set])
  have hrow3 := HN.out.1.row n (by rw [List.length_set]; exact hn)
  rw [HVD.out, getD_set_self hn] at hrow3
  obtain ⟨z0, z1, z2, z3⟩ := hrow3.ents (j := j) (e := { e with qty := 0 }) (by rw [List.getElem?_set_self hj])
  replace C1 := C1.out
  replace CQ := CQ.out
  rw [HLN.out] at C1
  rw [HVD.out] at CQ
  replace z2 : (w.setCell ⟨g, j * 4 + 2, none⟩ (.int .i64 (0))).cell? ⟨g, j * 4 + 2, none⟩ = some (.int .i64 (0)) := z2
  subst h3
  clear hqe h hf hfa hsl h1 h2 hV hrow hrow2 hrow3 z0 z1 z3 heq e0 e1 e3
  go_enter Try.func31, Try.ntmps31
  go_wp2_with (go_at_call 37; refine (at_any H.out HF.out (e.slot : Int)).mono ?_; rintro e w1 ⟨rfl, rfl⟩; rw [HT.out])
  refine wp_region_E (S := fun w' => w'.cell? ⟨pb, 1, none⟩ = some (.slice (some ⟨qb, 0, none⟩) A.length qk) ∧ w'.cell? ⟨qb, n, none⟩ = some (.slice (some ⟨g, 0, none⟩) L.length c) ∧ w'.cell? ⟨g, j * 4 + 2, none⟩ = some (.int .i64 e.qty)) (by kernel_rfl) ⟨c1, cq, e2⟩ (fun hHeld => ?_)
  refine wpE_take (i := 0) (oi := ?oi1) (v := ?v1) ?hi1 (by kernel_rfl) (by kernel_rfl) (by kernel_rfl) (by kernel_rfl) ?hQ1 ?hy1 (by assumption) ?rest1
  case hi1 => (simp only [List.getElem?_toArray, List.getElem?_cons_zero]; rfl)
  case hQ1 => exact fun _ _ _ h => h
  case hy1 => exact Or.inl ⟨by rfl, by (intro w hSw; (try dsimp only at hSw); go_simp; try with_reducible rfl)⟩
  try simp only [Act.put, List.setIfInBounds_toArray, List.set_cons_zero, List.set_cons_succ]
  refine wpE_take (i := 1) (oi := ?oi2) (v := ?v2) ?hi2 (by kernel_rfl) (by kernel_rfl) (by kernel_rfl) (by kernel_rfl) ?hQ2 ?hy2 (by assumption) ?rest2
  case hi2 => (simp only [List.getElem?_toArray, List.getElem?_cons_succ, List.getElem?_cons_zero]; rfl)
  case hQ2 => exact fun _ _ _ h => h
  case hy2 => exact Or.inl ⟨by rfl, by (intro w hSw; (try dsimp only at hSw); go_simp; try with_reducible rfl)⟩
  try simp only [Act.put, List.setIfInBounds_toArray, List.set_cons_zero, List.set_cons_succ]
  refine wpE_take (i := 2) (oi := ?oi3) (v := ?v3) ?hi3 (by kernel_rfl) (by kernel_rfl) (by kernel_rfl) (by kernel_rfl) ?hQ3 ?hy3 (by assumption) ?rest3
  case hi3 => (simp only [List.getElem?_toArray, List.getElem?_cons_succ, List.getElem?_cons_zero]; rfl)
  case hQ3 => exact fun _ _ _ h => h
  case hy3 => exact Or.inl ⟨by rfl, by (intro w hSw; (try dsimp only at hSw); go_simp; try with_reducible rfl)⟩
  try simp only [Act.put, List.setIfInBounds_toArray, List.set_cons_zero, List.set_cons_succ]
  refine wpE_take (i := 3) (oi := ?oi4) (v := ?v4) ?hi4 (by kernel_rfl) (by kernel_rfl) (by kernel_rfl) (by kernel_rfl) ?hQ4 ?hy4 (by assumption) ?rest4
  case hi4 => (simp only [List.getElem?_toArray, List.getElem?_cons_succ, List.getElem?_cons_zero]; rfl)
  case hQ4 => exact fun _ _ _ h => h
  case hy4 => exact Or.inl ⟨by rfl, by (intro w hSw; (try dsimp only at hSw); go_simp; try with_reducible rfl)⟩
  try simp only [Act.put, List.setIfInBounds_toArray, List.set_cons_zero, List.set_cons_succ]
  refine wpE_take (i := 4) (oi := ?oi5) (v := ?v5) ?hi5 (by kernel_rfl) (by kernel_rfl) (by kernel_rfl) (by kernel_rfl) ?hQ5 ?hy5 (by assumption) ?rest5
  case hi5 => (simp only [List.getElem?_toArray, List.getElem?_cons_succ, List.getElem?_cons_zero]; rfl)
  case hQ5 => exact fun _ _ _ h => h
  case hy5 => exact Or.inl ⟨by rfl, by (intro w hSw; (try dsimp only at hSw); go_simp; try with_reducible rfl)⟩
  try simp only [Act.put, List.setIfInBounds_toArray, List.set_cons_zero, List.set_cons_succ]
  refine wpE_take (i := 5) (oi := ?oi6) (v := ?v6) ?hi6 (by kernel_rfl) (by kernel_rfl) (by kernel_rfl) (by kernel_rfl) ?hQ6 ?hy6 (by assumption) ?rest6
  case hi6 => (simp only [List.getElem?_toArray, List.getElem?_cons_succ, List.getElem?_cons_zero]; rfl)
  case hQ6 => exact fun _ _ _ h => h
  case hy6 => exact Or.inl ⟨by rfl, by (intro w hSw; (try dsimp only at hSw); go_simp; try with_reducible rfl)⟩
  try simp only [Act.put, List.setIfInBounds_toArray, List.set_cons_zero, List.set_cons_succ]
  refine wpE_take (i := 6) (oi := ?oi7) (v := ?v7) ?hi7 (by kernel_rfl) (by kernel_rfl) (by kernel_rfl) (by kernel_rfl) ?hQ7 ?hy7 (by assumption) ?rest7
  case hi7 => (simp only [List.getElem?_toArray, List.getElem?_cons_succ, List.getElem?_cons_zero]; rfl)
  case hQ7 => exact fun _ _ _ h => h
  case hy7 => exact Or.inl ⟨by rfl, by (intro w hSw; (try dsimp only at hSw); go_simp; try with_reducible rfl)⟩
  try simp only [Act.put, List.setIfInBounds_toArray, List.set_cons_zero, List.set_cons_succ]
  refine wpE_take (i := 7) (oi := ?oi8) (v := ?v8) ?hi8 (by kernel_rfl) (by kernel_rfl) (by kernel_rfl) (by kernel_rfl) ?hQ8 ?hy8 (by assumption) ?rest8
  case hi8 => (simp only [List.getElem?_toArray, List.getElem?_cons_succ, List.getElem?_cons_zero]; rfl)
  case hQ8 => exact fun _ _ _ h => h
  case hy8 => exact Or.inl ⟨by rfl, by (intro w hSw; (try dsimp only at hSw); go_simp; try with_reducible rfl)⟩
  try simp only [Act.put, List.setIfInBounds_toArray, List.set_cons_zero, List.set_cons_succ]
  refine wpE_take (i := 8) (oi := ?oi9) (v := ?v9) ?hi9 (by kernel_rfl) (by kernel_rfl) (by kernel_rfl) (by kernel_rfl) ?hQ9 ?hy9 (by assumption) ?rest9
  case hi9 => (simp only [List.getElem?_toArray, List.getElem?_cons_succ, List.getElem?_cons_zero]; rfl)
  case hQ9 => exact fun _ _ _ h => h
  case hy9 => exact Or.inl ⟨by rfl, by (intro w hSw; (try dsimp only at hSw); go_simp; try with_reducible rfl)⟩
  try simp only [Act.put, List.setIfInBounds_toArray, List.set_cons_zero, List.set_cons_succ]
  refine wpE_take (i := 9) (oi := ?oi10) (v := ?v10) ?hi10 (by kernel_rfl) (by kernel_rfl) (by kernel_rfl) (by kernel_rfl) ?hQ10 ?hy10 (by assumption) ?rest10
  case hi10 => (simp only [List.getElem?_toArray, List.getElem?_cons_succ, List.getElem?_cons_zero]; rfl)
  case hQ10 => exact fun _ _ _ h => h
  case hy10 => exact Or.inl ⟨by rfl, by (intro w hSw; (try dsimp only at hSw); go_simp; try with_reducible rfl)⟩
  try simp only [Act.put, List.setIfInBounds_toArray, List.set_cons_zero, List.set_cons_succ]
  refine wpE_take (i := 10) (oi := ?oi11) (v := ?v11) ?hi11 (by kernel_rfl) (by kernel_rfl) (by kernel_rfl) (by kernel_rfl) ?hQ11 ?hy11 (by assumption) ?rest11
  case hi11 => (simp only [List.getElem?_toArray, List.getElem?_cons_succ, List.getElem?_cons_zero]; rfl)
  case hQ11 => exact fun _ _ _ h => h
  case hy11 => exact Or.inl ⟨by rfl, by (intro w hSw; (try dsimp only at hSw); go_simp; try with_reducible rfl)⟩
  try simp only [Act.put, List.setIfInBounds_toArray, List.set_cons_zero, List.set_cons_succ]
  refine wpE_take (i := 11) (oi := ?oi12) (v := ?v12) ?hi12 (by kernel_rfl) (by kernel_rfl) (by kernel_rfl) (by kernel_rfl) ?hQ12 ?hy12 (by assumption) ?rest12
  case hi12 => (simp only [List.getElem?_toArray, List.getElem?_cons_succ, List.getElem?_cons_zero]; rfl)
  case hQ12 => exact fun _ _ _ h => h
  case hy12 => exact Or.inl ⟨by rfl, by (intro w hSw; (try dsimp only at hSw); go_simp; try with_reducible rfl)⟩
  try simp only [Act.put, List.setIfInBounds_toArray, List.set_cons_zero, List.set_cons_succ]
  refine wpE_take (i := 12) (oi := ?oi13) (v := ?v13) ?hi13 (by kernel_rfl) (by kernel_rfl) (by kernel_rfl) (by kernel_rfl) ?hQ13 ?hy13 (by assumption) ?rest13
  case hi13 => (simp only [List.getElem?_toArray, List.getElem?_cons_succ, List.getElem?_cons_zero]; rfl)
  case hQ13 => exact fun _ _ _ h => h
  case hy13 => exact Or.inl ⟨by rfl, by (intro w hSw; (try dsimp only at hSw); go_simp; try with_reducible rfl)⟩
  try simp only [Act.put, List.setIfInBounds_toArray, List.set_cons_zero, List.set_cons_succ]
  refine wpE_take (i := 13) (oi := ?oi14) (v := ?v14) ?hi14 (by kernel_rfl) (by kernel_rfl) (by kernel_rfl) (by kernel_rfl) ?hQ14 ?hy14 (by assumption) ?rest14
  case hi14 => (simp only [List.getElem?_toArray, List.getElem?_cons_succ, List.getElem?_cons_zero]; rfl)
  case hQ14 => exact fun _ _ _ h => h
  case hy14 => exact Or.inl ⟨by rfl, by (intro w hSw; (try dsimp only at hSw); go_simp; try with_reducible rfl)⟩
  try simp only [Act.put, List.setIfInBounds_toArray, List.set_cons_zero, List.set_cons_succ]
  refine wpE_take (i := 14) (oi := ?oi15) (v := ?v15) ?hi15 (by kernel_rfl) (by kernel_rfl) (by kernel_rfl) (by kernel_rfl) ?hQ15 ?hy15 (by assumption) ?rest15
  case hi15 => (simp only [List.getElem?_toArray, List.getElem?_cons_succ, List.getElem?_cons_zero]; rfl)
  case hQ15 => exact fun _ _ _ h => h
  case hy15 => exact Or.inl ⟨by rfl, by (intro w hSw; (try dsimp only at hSw); go_simp; try with_reducible rfl)⟩
  try simp only [Act.put, List.setIfInBounds_toArray, List.set_cons_zero, List.set_cons_succ]
  refine wpE_take (i := 15) (oi := ?oi16) (v := ?v16) ?hi16 (by kernel_rfl) (by kernel_rfl) (by kernel_rfl) (by kernel_rfl) ?hQ16 ?hy16 (by assumption) ?rest16
  case hi16 => (simp only [List.getElem?_toArray, List.getElem?_cons_succ, List.getElem?_cons_zero]; rfl)
  case hQ16 => exact fun _ _ _ h => h
  case hy16 => exact Or.inl ⟨by rfl, by (intro w hSw; (try dsimp only at hSw); go_simp; try with_reducible rfl)⟩
  try simp only [Act.put, List.setIfInBounds_toArray, List.set_cons_zero, List.set_cons_succ]
  refine wpE_take (i := 16) (oi := ?oi17) (v := ?v17) ?hi17 (by kernel_rfl) (by kernel_rfl) (by kernel_rfl) (by kernel_rfl) ?hQ17 ?hy17 (by assumption) ?rest17
  case hi17 => (simp only [List.getElem?_toArray, List.getElem?_cons_succ, List.getElem?_cons_zero]; rfl)
  case hQ17 => exact fun _ _ _ h => h
  case hy17 => exact Or.inl ⟨by rfl, by (intro w hSw; (try dsimp only at hSw); go_simp; try with_reducible rfl)⟩
  try simp only [Act.put, List.setIfInBounds_toArray, List.set_cons_zero, List.set_cons_succ]
  refine wpE_take (i := 17) (oi := ?oi18) (v := ?v18) ?hi18 (by kernel_rfl) (by kernel_rfl) (by kernel_rfl) (by kernel_rfl) ?hQ18 ?hy18 (by assumption) ?rest18
  case hi18 => (simp only [List.getElem?_toArray, List.getElem?_cons_succ, List.getElem?_cons_zero]; rfl)
  case hQ18 => exact fun _ _ _ h => h
  case hy18 => exact Or.inl ⟨by rfl, by (intro w hSw; (try dsimp only at hSw); go_simp; try with_reducible rfl)⟩
  try simp only [Act.put, List.setIfInBounds_toArray, List.set_cons_zero, List.set_cons_succ]
  refine wpE_take (i := 18) (oi := ?oi19) (v := ?v19) ?hi19 (by kernel_rfl) (by kernel_rfl) (by kernel_rfl) (by kernel_rfl) ?hQ19 ?hy19 (by assumption) ?rest19
  case hi19 => (simp only [List.getElem?_toArray, List.getElem?_cons_succ, List.getElem?_cons_zero]; rfl)
  case hQ19 => exact fun _ _ _ h => h
  case hy19 => exact Or.inl ⟨by rfl, by (intro w hSw; (try dsimp only at hSw); go_simp; try with_reducible rfl)⟩
  try simp only [Act.put, List.setIfInBounds_toArray, List.set_cons_zero, List.set_cons_succ]
  refine wpE_take (i := 19) (oi := ?oi20) (v := ?v20) ?hi20 (by kernel_rfl) (by kernel_rfl) (by kernel_rfl) (by kernel_rfl) ?hQ20 ?hy20 (by assumption) ?rest20
  case hi20 => (simp only [List.getElem?_toArray, List.getElem?_cons_succ, List.getElem?_cons_zero]; rfl)
  case hQ20 => exact fun _ _ _ h => h
  case hy20 => exact Or.inl ⟨by rfl, by (intro w hSw; (try dsimp only at hSw); go_simp; try with_reducible rfl)⟩
  try simp only [Act.put, List.setIfInBounds_toArray, List.set_cons_zero, List.set_cons_succ]
  refine wpE_take (i := 20) (oi := ?oi21) (v := ?v21) ?hi21 (by kernel_rfl) (by kernel_rfl) (by kernel_rfl) (by kernel_rfl) ?hQ21 ?hy21 (by assumption) ?rest21
  case hi21 => (simp only [List.getElem?_toArray, List.getElem?_cons_succ, List.getElem?_cons_zero]; rfl)
  case hQ21 => exact fun _ _ _ h => h
  case hy21 => exact Or.inl ⟨by rfl, by (intro w hSw; (try dsimp only at hSw); go_simp; try with_reducible rfl)⟩
  try simp only [Act.put, List.setIfInBounds_toArray, List.set_cons_zero, List.set_cons_succ]
  refine wpE_take (i := 21) (oi := ?oi22) (v := ?v22) ?hi22 (by kernel_rfl) (by kernel_rfl) (by kernel_rfl) (by kernel_rfl) ?hQ22 ?hy22 (by assumption) ?rest22
  case hi22 => (simp only [List.getElem?_toArray, List.getElem?_cons_succ, List.getElem?_cons_zero]; rfl)
  case hQ22 => exact fun _ _ _ h => h
  case hy22 => exact Or.inl ⟨by rfl, by (intro w hSw; (try dsimp only at hSw); go_simp; try with_reducible rfl)⟩
  try simp only [Act.put, List.setIfInBounds_toArray, List.set_cons_zero, List.set_cons_succ]
  refine wpE_take (i := 22) (oi := ?oi23) (v := ?v23) ?hi23 (by kernel_rfl) (by kernel_rfl) (by kernel_rfl) (by kernel_rfl) ?hQ23 ?hy23 (by assumption) ?rest23
  case hi23 => (simp only [List.getElem?_toArray, List.getElem?_cons_succ, List.getElem?_cons_zero]; rfl)
  case hQ23 => exact fun _ _ _ h => h
  case hy23 => exact Or.inl ⟨by rfl, by (intro w hSw; (try dsimp only at hSw); go_simp; try with_reducible rfl)⟩
  try simp only [Act.put, List.setIfInBounds_toArray, List.set_cons_zero, List.set_cons_succ]
  refine wpE_last (i := 23) (o := ?o52) ?ho52 (by kernel_rfl) (by kernel_rfl) (by kernel_rfl) (fun K hK => ?_)
  case ho52 => (simp only [List.getElem?_toArray, List.getElem?_cons_succ, List.getElem?_cons_zero]; rfl)
  go_simp
  refine hK.out _ _ ?_
  clear hK K hHeld c1 cq e2 fz
  have HZ := Lib.hid HN.out.1
  have HKZ := Lib.hid HN.out.2
  clear HN hg
  generalize w.setCell ⟨g, j * 4 + 2, none⟩ (.int .i64 0) = wz at *
  have hrow3 := HZ.out.row n (by rw [List.length_set]; exact hn)
  rw [HVD.out, getD_set_self hn] at hrow3
  go_wp2_with fail
  have HRD := Lib.hid (RowD.rd (L := L.set j { e with qty := 0 }) hrow3)
  obtain ⟨Lz, hLz⟩ : ∃ Lz, Lz = L.set j { e with qty := 0 } := ⟨_, rfl⟩
  rw [← hLz] at hrow3
  have hll : Lz.length = L.length := by rw [hLz, List.length_set]
  have hrow4 : RowD wz B (.slice (some ⟨g, 0, none⟩) Lz.length c) Lz := by rw [hll]; exact hrow3
  have hrd := Lib.hid hrow4.rd0
  have hcl : L.length ≤ c := by
    rcases hrow3.2 with ⟨h1, _⟩ | ⟨g, cap, cur, h1, _, _, h2, _⟩
    · injection h1 with h1; cases h1
    · injection h1 with _ _ h3; rw [h3, ← hll]; exact h2
  have HLZ := Lib.hid hLz
  have HLL := Lib.hid hll
  have hplt := HZ.out.lt pb (.inl rfl)
  have hqlt := HZ.out.lt qb (.inr (.inr (.inl rfl)))
  have hwB : B ≤ wz.heap.size := by have := HKZ.out.size; omega
  have hpq : qb ≠ pb := (own_tyd HZ.out.hq qb rfl).ne HZ.out.hp.tyd (by decide)
  clear z2 hrow3 hrow4 hLz hll HRD
  have hjc : j ≤ c := by omega
  have hj1 : j + 1 ≤ L.length := by omega
  have hj2 : j + 1 ≤ c := by omega
  have HBA : Hid (Below wz.heap.size wz (wz.alloc (.cells #[] 77)).drew.drew) := Lib.hid (((Below.refl _ _).alloc (Nat.le_refl _) _).drew.drew)
  have HOE : Hid (RowD (wz.alloc (.cells #[] 77)).drew.drew B (.slice (some ⟨wz.heap.size, 0, none⟩) 0 0) []) :=
    Lib.hid ⟨rfl, .inr ⟨wz.heap.size, 0, #[], rfl, hwB, heap_alloc_new wz _, Nat.le_refl _, by omega, rfl, rfl⟩⟩
  have HSZ : Hid ((wz.alloc (.cells #[] 77)).drew.drew.heap.size = wz.heap.size + 1) := Lib.hid (by simp)
  have HTA : Hid ((Lz.take j).length = j) := Lib.hid (by rw [List.length_take, HLL.out]; omega)
  have HDR : Hid ((Lz.drop (j + 1)).length = L.length - (j + 1)) := Lib.hid (by rw [List.length_drop, HLL.out])
  have HER : Hid ([] ++ Lz.take j ++ Lz.drop (j + 1) = L.eraseIdx j) := Lib.hid (by rw [List.nil_append, HLZ.out]; exact erase_app L j _)
  have HEL : Hid ((L.eraseIdx j).length = L.length - 1) := Lib.hid (by rw [List.length_eraseIdx, if_pos hj])
  have fq := HZ.out.fq n
  have i1 : IntKind.i64.wrap ((j : Int) + 1) = (j : Int) + 1 := IntWalk.i64_in _ (by omega)
  have i2 : 0 ≤ (j : Int) + 1 := by omega
  have i3 : ((j : Int) + 1).toNat = j + 1 := by omega
  have i4 : (j : Int) + 1 ≤ (L.length : Int) := by omega
  have i5 : (j : Int) ≤ (j : Int) + 1 := by omega
  obtain ⟨off2, hoff⟩ : ∃ off2, off2 = (if c = j + 1 then 0 else (j + 1) * 4) := ⟨_, rfl⟩
  have hadr : (if c = j + 1 then (some ⟨g, 0, none⟩ : Option Addr) else some ⟨g, (j + 1) * 4, none⟩) = some ⟨g, off2, none⟩ := by
    rw [hoff]; split <;> rfl
  have HRD2 : Hid (∀ w1, Below wz.heap.size wz w1 → Rd w1 (some ⟨g, off2, none⟩) (Lz.drop (j + 1))) := Lib.hid (by
    intro w1 hbw1
    rw [hoff]
    by_cases hcap : c = j + 1
    · rw [if_pos hcap]
      have h0 : Lz.drop (j + 1) = [] := List.eq_nil_of_length_eq_zero (by rw [HDR.out]; omega)
      rw [h0]; intro j e' hj; simp at hj
    · rw [if_neg hcap]
      have h0 := (hrd.out.below hbw1).drop (j + 1)
      rw [Nat.zero_add] at h0; exact h0)
  clear hoff
  refine wp_region_E (S := fun w' => w'.cell? ⟨pb, 1, none⟩ = some (.slice (some ⟨qb, 0, none⟩) A.length qk) ∧ w'.cell? ⟨qb, n, none⟩ = some (.slice (some ⟨g, 0, none⟩) L.length c)) (by kernel_rfl) ⟨C1, CQ⟩ (fun hHeld => ?_)
  refine wpE_take (i := 0) (oi := ?oi24) (v := ?v24) ?hi24 (by kernel_rfl) (by kernel_rfl) (by kernel_rfl) (by kernel_rfl) ?hQ24 ?hy24 (by assumption) ?rest24
  case hi24 => (simp only [List.getElem?_toArray, List.getElem?_cons_zero]; rfl)
  case hQ24 => exact fun _ _ _ h => h
  case hy24 => exact Or.inl ⟨by rfl, by (intro w hSw; (try dsimp only at hSw); go_simp; try with_reducible rfl)⟩
  try simp only [Act.put, List.setIfInBounds_toArray, List.set_cons_zero, List.set_cons_succ]
  refine wpE_take (i := 1) (oi := ?oi25) (v := ?v25) ?hi25 (by kernel_rfl) (by kernel_rfl) (by kernel_rfl) (by kernel_rfl) ?hQ25 ?hy25 (by assumption) ?rest25
  case hi25 => (simp only [List.getElem?_toArray, List.getElem?_cons_succ, List.getElem?_cons_zero]; rfl)
  case hQ25 => exact fun _ _ _ h => h
  case hy25 => exact Or.inl ⟨by rfl, by (intro w hSw; (try dsimp only at hSw); go_simp; try with_reducible rfl)⟩
  try simp only [Act.put, List.setIfInBounds_toArray, List.set_cons_zero, List.set_cons_succ]
  refine wpE_take (i := 2) (oi := ?oi26) (v := ?v26) ?hi26 (by kernel_rfl) (by kernel_rfl) (by kernel_rfl) (by kernel_rfl) ?hQ26 ?hy26 (by assumption) ?rest26
  case hi26 => (simp only [List.getElem?_toArray, List.getElem?_cons_succ, List.getElem?_cons_zero]; rfl)
  case hQ26 => exact fun _ _ _ h => h
  case hy26 => exact Or.inl ⟨by rfl, by (intro w hSw; (try dsimp only at hSw); go_simp; try with_reducible rfl)⟩
  try simp only [Act.put, List.setIfInBounds_toArray, List.set_cons_zero, List.set_cons_succ]
  refine wpE_take (i := 3) (oi := ?oi27) (v := ?v27) ?hi27 (by kernel_rfl) (by kernel_rfl) (by kernel_rfl) (by kernel_rfl) ?hQ27 ?hy27 (by assumption) ?rest27
  case hi27 => (simp only [List.getElem?_toArray, List.getElem?_cons_succ, List.getElem?_cons_zero]; rfl)
  case hQ27 => exact fun _ _ _ h => h
  case hy27 => exact Or.inl ⟨by rfl, by (intro w hSw; (try dsimp only at hSw); go_simp; try with_reducible rfl)⟩
  try simp only [Act.put, List.setIfInBounds_toArray, List.set_cons_zero, List.set_cons_succ]
  refine wpE_take (i := 4) (oi := ?oi28) (v := ?v28) ?hi28 (by kernel_rfl) (by kernel_rfl) (by kernel_rfl) (by kernel_rfl) ?hQ28 ?hy28 (by assumption) ?rest28
  case hi28 => (simp only [List.getElem?_toArray, List.getElem?_cons_succ, List.getElem?_cons_zero]; rfl)
  case hQ28 => exact fun _ _ _ h => h
  case hy28 => exact Or.inl ⟨by rfl, by (intro w hSw; (try dsimp only at hSw); go_simp; try with_reducible rfl)⟩
  try simp only [Act.put, List.setIfInBounds_toArray, List.set_cons_zero, List.set_cons_succ]
  refine wpE_take (i := 6) (oi := ?oi29) (v := ?v29) ?hi29 (by kernel_rfl) (by kernel_rfl) (by kernel_rfl) (by kernel_rfl) ?hQ29 ?hy29 (by assumption) ?rest29
  case hi29 => (simp only [List.getElem?_toArray, List.getElem?_cons_succ, List.getElem?_cons_zero]; rfl)
  case hQ29 => exact fun _ _ _ h => h
  case hy29 => exact Or.inl ⟨by rfl, by (intro w hSw; (try dsimp only at hSw); go_simp; try with_reducible rfl)⟩
  try simp only [Act.put, List.setIfInBounds_toArray, List.set_cons_zero, List.set_cons_succ]
  refine wpE_take (i := 7) (oi := ?oi30) (v := ?v30) ?hi30 (by kernel_rfl) (by kernel_rfl) (by kernel_rfl) (by kernel_rfl) ?hQ30 ?hy30 (by assumption) ?rest30
  case hi30 => (simp only [List.getElem?_toArray, List.getElem?_cons_succ, List.getElem?_cons_zero]; rfl)
  case hQ30 => exact fun _ _ _ h => h
  case hy30 => exact Or.inl ⟨by rfl, by (intro w hSw; (try dsimp only at hSw); go_simp; try with_reducible rfl)⟩
  try simp only [Act.put, List.setIfInBounds_toArray, List.set_cons_zero, List.set_cons_succ]
  refine wpE_take (i := 8) (oi := ?oi31) (v := ?v31) ?hi31 (by kernel_rfl) (by kernel_rfl) (by kernel_rfl) (by kernel_rfl) ?hQ31 ?hy31 (by assumption) ?rest31
  case hi31 => (simp only [List.getElem?_toArray, List.getElem?_cons_succ, List.getElem?_cons_zero]; rfl)
  case hQ31 => exact fun _ _ _ h => h
  case hy31 => exact Or.inl ⟨by rfl, by (intro w hSw; (try dsimp only at hSw); go_simp; try with_reducible rfl)⟩
  try simp only [Act.put, List.setIfInBounds_toArray, List.set_cons_zero, List.set_cons_succ]
  refine wpE_take (i := 9) (oi := ?oi32) (v := ?v32) ?hi32 (by kernel_rfl) (by kernel_rfl) (by kernel_rfl) (by kernel_rfl) ?hQ32 ?hy32 (by assumption) ?rest32
  case hi32 => (simp only [List.getElem?_toArray, List.getElem?_cons_succ, List.getElem?_cons_zero]; rfl)
  case hQ32 => exact fun _ _ _ h => h
  case hy32 => exact Or.inl ⟨by rfl, by (intro w hSw; (try dsimp only at hSw); go_simp; try with_reducible rfl)⟩
  try simp only [Act.put, List.setIfInBounds_toArray, List.set_cons_zero, List.set_cons_succ]
  refine wpE_take (i := 10) (oi := ?oi33) (v := ?v33) ?hi33 (by kernel_rfl) (by kernel_rfl) (by kernel_rfl) (by kernel_rfl) ?hQ33 ?hy33 (by assumption) ?rest33
  case hi33 => (simp only [List.getElem?_toArray, List.getElem?_cons_succ, List.getElem?_cons_zero]; rfl)
  case hQ33 => exact fun _ _ _ h => h
  case hy33 => exact Or.inl ⟨by rfl, by (intro w hSw; (try dsimp only at hSw); go_simp; try with_reducible rfl)⟩
  try simp only [Act.put, List.setIfInBounds_toArray, List.set_cons_zero, List.set_cons_succ]
  refine wpE_take (i := 11) (oi := ?oi34) (v := ?v34) ?hi34 (by kernel_rfl) (by kernel_rfl) (by kernel_rfl) (by kernel_rfl) ?hQ34 ?hy34 (by assumption) ?rest34
  case hi34 => (simp only [List.getElem?_toArray, List.getElem?_cons_succ, List.getElem?_cons_zero]; rfl)
  case hQ34 => exact fun _ _ _ h => h
  case hy34 => exact Or.inl ⟨by rfl, by (intro w hSw; (try dsimp only at hSw); go_simp; try with_reducible rfl)⟩
  try simp only [Act.put, List.setIfInBounds_toArray, List.set_cons_zero, List.set_cons_succ]
  refine wpE_take (i := 12) (oi := ?oi35) (v := ?v35) ?hi35 (by kernel_rfl) (by kernel_rfl) (by kernel_rfl) (by kernel_rfl) ?hQ35 ?hy35 (by assumption) ?rest35
  case hi35 => (simp only [List.getElem?_toArray, List.getElem?_cons_succ, List.getElem?_cons_zero]; rfl)
  case hQ35 => exact fun _ _ _ h => h
  case hy35 => exact Or.inl ⟨by rfl, by (intro w hSw; (try dsimp only at hSw); go_simp; try with_reducible rfl)⟩
  try simp only [Act.put, List.setIfInBounds_toArray, List.set_cons_zero, List.set_cons_succ]
  refine wpE_take (i := 13) (oi := ?oi36) (v := ?v36) ?hi36 (by kernel_rfl) (by kernel_rfl) (by kernel_rfl) (by kernel_rfl) ?hQ36 ?hy36 (by assumption) ?rest36
  case hi36 => (simp only [List.getElem?_toArray, List.getElem?_cons_succ, List.getElem?_cons_zero]; rfl)
  case hQ36 => exact fun _ _ _ h => h
  case hy36 => exact Or.inl ⟨by rfl, by (intro w hSw; (try dsimp only at hSw); go_simp; try with_reducible rfl)⟩
  try simp only [Act.put, List.setIfInBounds_toArray, List.set_cons_zero, List.set_cons_succ]
  refine wpE_take (i := 14) (oi := ?oi37) (v := ?v37) ?hi37 (by kernel_rfl) (by kernel_rfl) (by kernel_rfl) (by kernel_rfl) ?hQ37 ?hy37 (by assumption) ?rest37
  case hi37 => (simp only [List.getElem?_toArray, List.getElem?_cons_succ, List.getElem?_cons_zero]; rfl)
  case hQ37 => exact fun _ _ _ h => h
  case hy37 => exact Or.inl ⟨by rfl, by (intro w hSw; (try dsimp only at hSw); go_simp; try with_reducible rfl)⟩
  try simp only [Act.put, List.setIfInBounds_toArray, List.set_cons_zero, List.set_cons_succ]
  refine wpE_take (i := 16) (oi := ?oi38) (v := ?v38) ?hi38 (by kernel_rfl) (by kernel_rfl) (by kernel_rfl) (by kernel_rfl) ?hQ38 ?hy38 (by assumption) ?rest38
  case hi38 => (simp only [List.getElem?_toArray, List.getElem?_cons_succ, List.getElem?_cons_zero]; rfl)
  case hQ38 => exact fun _ _ _ h => h
  case hy38 => exact Or.inl ⟨by rfl, by (intro w hSw; (try dsimp only at hSw); go_simp; try with_reducible rfl)⟩
  try simp only [Act.put, List.setIfInBounds_toArray, List.set_cons_zero, List.set_cons_succ]
  refine wpE_take (i := 17) (oi := ?oi39) (v := ?v39) ?hi39 (by kernel_rfl) (by kernel_rfl) (by kernel_rfl) (by kernel_rfl) ?hQ39 ?hy39 (by assumption) ?rest39
  case hi39 => (simp only [List.getElem?_toArray, List.getElem?_cons_succ, List.getElem?_cons_zero]; rfl)
  case hQ39 => exact fun _ _ _ h => h
  case hy39 => exact Or.inl ⟨by rfl, by (intro w hSw; (try dsimp only at hSw); go_simp; try with_reducible rfl)⟩
  try simp only [Act.put, List.setIfInBounds_toArray, List.set_cons_zero, List.set_cons_succ]
  refine wpE_take (i := 18) (oi := ?oi40) (v := ?v40) ?hi40 (by kernel_rfl) (by kernel_rfl) (by kernel_rfl) (by kernel_rfl) ?hQ40 ?hy40 (by assumption) ?rest40
  case hi40 => (simp only [List.getElem?_toArray, List.getElem?_cons_succ, List.getElem?_cons_zero]; rfl)
  case hQ40 => exact fun _ _ _ h => h
  case hy40 => exact Or.inl ⟨by rfl, by (intro w hSw; (try dsimp only at hSw); go_simp; try with_reducible rfl)⟩
  try simp only [Act.put, List.setIfInBounds_toArray, List.set_cons_zero, List.set_cons_succ]
  refine wpE_take (i := 19) (oi := ?oi41) (v := ?v41) ?hi41 (by kernel_rfl) (by kernel_rfl) (by kernel_rfl) (by kernel_rfl) ?hQ41 ?hy41 (by assumption) ?rest41
  case hi41 => (simp only [List.getElem?_toArray, List.getElem?_cons_succ, List.getElem?_cons_zero]; rfl)
  case hQ41 => exact fun _ _ _ h => h
  case hy41 => exact Or.inl ⟨by rfl, by (intro w hSw; (try dsimp only at hSw); go_simp; try with_reducible rfl)⟩
  try simp only [Act.put, List.setIfInBounds_toArray, List.set_cons_zero, List.set_cons_succ]
  refine wpE_take (i := 20) (oi := ?oi42) (v := ?v42) ?hi42 (by kernel_rfl) (by kernel_rfl) (by kernel_rfl) (by kernel_rfl) ?hQ42 ?hy42 (by assumption) ?rest42
  case hi42 => (simp only [List.getElem?_toArray, List.getElem?_cons_succ, List.getElem?_cons_zero]; rfl)
  case hQ42 => exact fun _ _ _ h => h
  case hy42 => exact Or.inl ⟨by rfl, by (intro w hSw; (try dsimp only at hSw); go_simp; try with_reducible rfl)⟩
  try simp only [Act.put, List.setIfInBounds_toArray, List.set_cons_zero, List.set_cons_succ]
  refine wpE_take (i := 21) (oi := ?oi43) (v := ?v43) ?hi43 (by kernel_rfl) (by kernel_rfl) (by kernel_rfl) (by kernel_rfl) ?hQ43 ?hy43 (by assumption) ?rest43
  case hi43 => (simp only [List.getElem?_toArray, List.getElem?_cons_succ, List.getElem?_cons_zero]; rfl)
  case hQ43 => exact fun _ _ _ h => h
  case hy43 => exact Or.inl ⟨by rfl, by (intro w hSw; (try dsimp only at hSw); go_simp; try with_reducible rfl)⟩
  try simp only [Act.put, List.setIfInBounds_toArray, List.set_cons_zero, List.set_cons_succ]
  refine wpE_take (i := 22) (oi := ?oi44) (v := ?v44) ?hi44 (by kernel_rfl) (by kernel_rfl) (by kernel_rfl) (by kernel_rfl) ?hQ44 ?hy44 (by assumption) ?rest44
  case hi44 => (simp only [List.getElem?_toArray, List.getElem?_cons_succ, List.getElem?_cons_zero]; rfl)
  case hQ44 => exact fun _ _ _ h => h
  case hy44 => exact Or.inl ⟨by rfl, by (intro w hSw; (try dsimp only at hSw); go_simp; try with_reducible rfl)⟩
  try simp only [Act.put, List.setIfInBounds_toArray, List.set_cons_zero, List.set_cons_succ]
  refine wpE_take (i := 23) (oi := ?oi45) (v := ?v45) ?hi45 (by kernel_rfl) (by kernel_rfl) (by kernel_rfl) (by kernel_rfl) ?hQ45 ?hy45 (by assumption) ?rest45
  case hi45 => (simp only [List.getElem?_toArray, List.getElem?_cons_succ, List.getElem?_cons_zero]; rfl)
  case hQ45 => exact fun _ _ _ h => h
  case hy45 => exact Or.inl ⟨by rfl, by (intro w hSw; (try dsimp only at hSw); go_simp; try with_reducible rfl)⟩
  try simp only [Act.put, List.setIfInBounds_toArray, List.set_cons_zero, List.set_cons_succ]
  refine wpE_take (i := 24) (oi := ?oi46) (v := ?v46) ?hi46 (by kernel_rfl) (by kernel_rfl) (by kernel_rfl) (by kernel_rfl) ?hQ46 ?hy46 (by assumption) ?rest46
  case hi46 => (simp only [List.getElem?_toArray, List.getElem?_cons_succ, List.getElem?_cons_zero]; rfl)
  case hQ46 => exact fun _ _ _ h => h
  case hy46 => exact Or.inl ⟨by rfl, by (intro w hSw; (try dsimp only at hSw); go_simp; try with_reducible rfl)⟩
  try simp only [Act.put, List.setIfInBounds_toArray, List.set_cons_zero, List.set_cons_succ]
  refine wpE_take (i := 25) (oi := ?oi47) (v := ?v47) ?hi47 (by kernel_rfl) (by kernel_rfl) (by kernel_rfl) (by kernel_rfl) ?hQ47 ?hy47 (by assumption) ?rest47
  case hi47 => (simp only [List.getElem?_toArray, List.getElem?_cons_succ, List.getElem?_cons_zero]; rfl)
  case hQ47 => exact fun _ _ _ h => h
  case hy47 => exact Or.inl ⟨by rfl, by (intro w hSw; (try dsimp only at hSw); go_simp; try with_reducible rfl)⟩
  try simp only [Act.put, List.setIfInBounds_toArray, List.set_cons_zero, List.set_cons_succ]
  refine wpE_one (i := 5) (o := ?o49) ?ho49 (by kernel_rfl) (fun K hK => ?_)
  case ho49 => (simp only [List.getElem?_toArray, List.getElem?_cons_succ, List.getElem?_cons_zero]; rfl)
  go_simp
  refine hK.out _ _ ⟨(HBA.out.cell (p := ⟨pb, 1, none⟩) hplt).trans C1, (HBA.out.cell (p := ⟨qb, n, none⟩) hqlt).trans CQ⟩ (fun hHeld => ?_)
  clear hK K
  refine wpE_one (i := 15) (o := ?o50) ?ho50 (by kernel_rfl) (fun K hK => ?_)
  case ho50 => (simp only [List.getElem?_toArray, List.getElem?_cons_succ, List.getElem?_cons_zero]; rfl)
  refine step_append_docs (by rfl) (.tmp 76) (.tmp 85) (by rfl) B (some ⟨wz.heap.size, 0, none⟩) 0 0 j [] rfl (by rfl) HOE.out g 0 c (Lz.take j) HTA.out (by rfl) ((hrd.out.below HBA.out).take j) (.inl (by simp)) j (by omega) (by omega) (by rw [HSZ.out]; omega) ?_
  intro g1 cap1 w1 hr1 hgr1 hat1
  have hbw1 : Below wz.heap.size wz w1 := grown_below hgr1 HBA.out (fun y hy => by have h0 : some wz.heap.size = some y := hy; injection h0 with h0; omega)
  have HR1 := Lib.hid hr1
  have HBW1 := Lib.hid hbw1
  have hg1 : wz.heap.size ≤ g1 := by
    rcases hat1 with hat1 | hat1
    · injection hat1 with hat1; injection hat1 with hat1; omega
    · rw [HSZ.out] at hat1; omega
  clear hr1 hgr1 hbw1 hat1
  refine hK.out _ _ ⟨(HBW1.out.cell (p := ⟨pb, 1, none⟩) hplt).trans C1, (HBW1.out.cell (p := ⟨qb, n, none⟩) hqlt).trans CQ⟩ (fun hHeld => ?_)
  clear hK K
  refine wpE_one (i := 26) (o := ?o51) ?ho51 (by kernel_rfl) (fun K hK => ?_)
  case ho51 => (simp only [List.getElem?_toArray, List.getElem?_cons_succ, List.getElem?_cons_zero]; rfl)
  refine step_append_docs (by rfl) (.tmp 86) (.tmp 96) (by rfl) B (some ⟨g1, 0, none⟩) cap1 j (L.length - (j + 1)) ([] ++ Lz.take j) HTA.out (by rfl) HR1.out g off2 (c - (j + 1)) (Lz.drop (j + 1)) HDR.out (by rfl) (HRD2.out w1 HBW1.out) (.inl (by simp)) (L.length - 1) (by omega) (by omega) (by have := HBW1.out.size; omega) ?_
  intro g3 cap3 w3 hr3 hgr3 hat3
  have hbw3 : Below wz.heap.size wz w3 := grown_below hgr3 HBW1.out (fun y hy => by have h0 : some g1 = some y := hy; injection h0 with h0; omega)
  have cq3 : w3.cell? ⟨qb, n, none⟩ = some (.slice (some ⟨g, 0, none⟩) L.length c) := (hbw3.cell (p := ⟨qb, n, none⟩) hqlt).trans CQ
  have fq3 : w3.frozen? ⟨qb, n, none⟩ = false := (hbw3.frozen (p := ⟨qb, n, none⟩) hqlt).trans fq
  have HR3 := Lib.hid hr3
  have HBW3 := Lib.hid hbw3
  have hg3 : wz.heap.size ≤ g3 := by
    rcases hat3 with hat3 | hat3
    · injection hat3 with hat3; injection hat3 with hat3; omega
    · have := HBW1.out.size; omega
  clear hr3 hgr3 hbw3 hat3
  refine hK.out _ _ ⟨(HBW3.out.cell (p := ⟨pb, 1, none⟩) hplt).trans C1, cq3⟩ (fun hHeld => ?_)
  clear hK K
  refine wpE_take (i := 27) (oi := ?oi48) (v := ?v48) ?hi48 (by kernel_rfl) (by kernel_rfl) (by kernel_rfl) (by kernel_rfl) ?hQ48 ?hy48 (by assumption) ?rest48
  case hi48 => (simp only [List.getElem?_toArray, List.getElem?_cons_succ, List.getElem?_cons_zero]; rfl)
  case hQ48 => exact fun _ _ _ h => h
  case hy48 => exact Or.inl ⟨by rfl, by (intro w hSw; (try dsimp only at hSw); go_simp; try with_reducible rfl)⟩
  try simp only [Act.put, List.setIfInBounds_toArray, List.set_cons_zero, List.set_cons_succ]
  refine wpE_last (i := 28) (o := ?o53) ?ho53 (by kernel_rfl) (by kernel_rfl) (by kernel_rfl) (fun K hK => ?_)
  case ho53 => (simp only [List.getElem?_toArray, List.getElem?_cons_succ, List.getElem?_cons_zero]; rfl)
  go_simp
  refine hK.out _ _ ?_
  clear hK K hHeld cq3 fq3 fq C1 CQ
  have hfin : RA (w3.setCell ⟨qb, n, none⟩ (.slice (some ⟨g3, 0, none⟩) (L.length - 1) cap3)) B pb ub (some ⟨qb, 0, none⟩) qk room A (A.set n (L.eraseIdx j)) (upd V n (some ⟨g3, 0, none⟩, cap3)) := by
    have hr := HR3.out
    rw [HER.out] at hr
    have hgn : wz.grownBy w3 none := ⟨HBW3.out.os, HBW3.out.tape, HBW3.out.output, HBW3.out.size, fun k hk _ => HBW3.out.block k hk⟩
    have h0 : RowD w3 B (.slice (some ⟨g3, 0, none⟩) (L.eraseIdx j).length cap3) (L.eraseIdx j) := by rw [HEL.out]; exact hr
    have := HZ.out.row_new (n := n) (by rw [List.length_set]; exact hn) hgn (.inl rfl) h0 (.inr (.inr ⟨g3, rfl, hg3⟩))
    rw [List.set_set, HEL.out] at this
    exact this
  have hkfin : Keeps (RF pb ub (some ⟨qb, 0, none⟩) A V) w (w3.setCell ⟨qb, n, none⟩ (.slice (some ⟨g3, 0, none⟩) (L.length - 1) cap3)) :=
    (HKZ.out.trans (Below.keeps (F := RF pb ub (some ⟨qb, 0, none⟩) A V) HBW3.out)).setCell (p := ⟨qb, n, none⟩) (fun _ => .inr (.inr (.inl rfl))) _
  have HF9 := Lib.hid hfin
  have HK9 := Lib.hid hkfin
  clear hfin hkfin
  generalize w3.setCell ⟨qb, n, none⟩ (.slice (some ⟨g3, 0, none⟩) (L.length - 1) cap3) = w9 at *
  have c0 := HF9.out.c0
  have fu : w9.frozen? ⟨ub, e.slot, none⟩ = false := HF9.out.hu.frozen e.slot
  have cu := HF9.out.cu hslot
  go_wp2_with fail
  go_ret
  refine ⟨by trivial, ⟨_, HF9.out.use (T := A.set n (L.eraseIdx j)) (fun k => ?_)⟩, HK9.out.setCell (p := ⟨ub, e.slot, none⟩) (fun _ => .inr (.inl rfl)) _⟩
  by_cases hk : k = e.slot
  · subst hk
    rw [if_pos rfl]
    exact tk_false fun hx => ((HGONE.out _).1 hx).2 rfl
  · rw [if_neg hk]
    exact tk_eq ⟨fun hx => ((HGONE.out k).1 hx).1, fun hx => (HGONE.out k).2 ⟨hx, hk⟩⟩
end
end Go.Proofs.Ytbpmoomklknkkaa
