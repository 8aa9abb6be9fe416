/- The document's arena: Push in all its ways; Take. -/
import Derived.Test.YtbpmoomklknkkaaDoc4
namespace Go.Proofs.Ytbpmoomklknkkaa
open Go.RowKit

section
variable {w w' : World} {B pb ub : Nat} {qa : Option Addr} {qk room : Nat} {U A : List (List Ent)} {V : Nat → Option Addr × Nat}
theorem RowD.ents {g m c : Nat} {L : List Ent} (h : RowD w B (.slice (some ⟨g, 0, none⟩) m c) L) {j : Nat} {e : Ent} (hj : L[j]? = some e) : EntAt w g (j * 4) e := by
  obtain ⟨g', cap, hv, _, he⟩ := h.at_ j e hj
  injection hv with hv
  injection hv with hv
  injection hv with hv
  subst hv
  exact he
theorem dpush_any (h : RA w B pb ub qa qk room A A V) (hf : Fit A) (n id qty : Int) (top : Bool) (hr : room ≤ 4096) (hB : B ≤ w.heap.size) :
    Calls Try.prog 30 #[.pointer (some ⟨pb, 0, none⟩), .int .i64 n, .int .i64 id, .int .i64 qty, .bool top] w fun e w' => e = .returned (.tuple #[.int .i64 (pushA room A n id qty top).2.1, .int .i64 (pushA room A n id qty top).2.2]) ∧ (∃ V', RA w' B pb ub qa qk room (pushA room A n id qty top).1 (pushA room A n id qty top).1 V') ∧ Keeps (RF pb ub qa A V) w w' := by
  unfold pushA
  by_cases hn : n < 0 ∨ (A.length : Int) ≤ n
  · rw [if_pos hn]
    refine (dpush_no h n id qty top hn).mono ?_
    rintro e w' ⟨rfl, rfl⟩
    exact ⟨rfl, ⟨V, h⟩, Keeps.refl _ _⟩
  · rw [if_neg hn]
    obtain ⟨n, rfl⟩ := Int.eq_ofNat_of_zero_le (show 0 ≤ n by omega)
    have hnl : n < A.length := by omega
    by_cases hq : qty < 1 ∨ 1000000 < qty
    · rw [if_pos hq]
      refine (dpush_qty h n id qty top hnl hq).mono ?_
      rintro e w' ⟨rfl, rfl⟩
      exact ⟨rfl, ⟨V, h⟩, Keeps.refl _ _⟩
    · rw [if_neg hq]
      obtain ⟨L, hL⟩ : ∃ L, A[n]? = some L := ⟨_, List.getElem?_eq_getElem hnl⟩
      cases hlf : leastFree room A with
      | none =>
        refine (dpush_full h n id qty top hnl (by omega) (by omega) hr hlf).mono ?_
        rintro e w' ⟨rfl, rfl⟩
        exact ⟨rfl, ⟨V, h⟩, Keeps.refl _ _⟩
      | some r =>
        refine (dpush_yes h hf n L id qty top hL (by omega) (by omega) hr r hlf hB).mono ?_
        rintro e w' ⟨rfl, hra, hk⟩
        simp only [Int.toNat_natCast, getD_of hL]
        exact ⟨by trivial, hra, hk⟩

set_option maxHeartbeats 1000000 in
theorem dtake_no (h : RA w B pb ub qa qk room A A V) (hf : Fit A) (i qty : Int) (hfa : findA A i = none) :
    Calls Try.prog 31 #[.pointer (some ⟨pb, 0, none⟩), .int .i64 i, .int .i64 qty] w fun e w' => e = .returned (.int .i64 26) ∧ w = w' := by
  have H := Lib.hid h
  have HF := Lib.hid hf
  have HT := Lib.hid (atT_none hfa)
  clear h hf hfa
  go_enter Try.func31, Try.ntmps31
  go_wp2_with (go_at_call 37; refine (at_any H.out HF.out i).mono ?_; rintro e w1 ⟨rfl, rfl⟩; rw [HT.out])
  go_ret
  exact ⟨by trivial, by trivial⟩
set_option maxHeartbeats 1000000 in
theorem dtake_qty (h : RA w B pb ub qa qk room A A V) (hf : Fit A) (i qty : Int) {n j : Nat} {e : Ent} (hfa : findA A i = some (n, j, e)) (hq : qty < 1 ∨ e.qty < qty) :
    Calls Try.prog 31 #[.pointer (some ⟨pb, 0, none⟩), .int .i64 i, .int .i64 qty] w fun e w' => e = .returned (.int .i64 24) ∧ w = w' := by
  obtain ⟨L, qb, g, c, h1, h2, h3, hn, hj, rfl, cq, hV, hg, e0, e1, e2, e3⟩ := h.found hfa
  have c1 := h.c1
  have hn' : (n : Int) < (A.length : Int) := by omega
  have hj' : (j : Int) < (L.length : Int) := by omega
  have H := Lib.hid h
  have HF := Lib.hid hf
  have HT := Lib.hid (atT_some hfa)
  clear h hf hfa h1 h2 h3 hV
  by_cases h0 : qty < 1
  · clear hq
    go_enter Try.func31, Try.ntmps31
    go_wp2_with (go_at_call 37; refine (at_any H.out HF.out i).mono ?_; rintro e w1 ⟨rfl, rfl⟩; rw [HT.out])
    go_ret
    exact ⟨by trivial, by trivial⟩
  · have hq' : e.qty < qty := by omega
    clear hq
    go_enter Try.func31, Try.ntmps31
    go_wp2_with (go_at_call 37; refine (at_any H.out HF.out i).mono ?_; rintro e w1 ⟨rfl, rfl⟩; rw [HT.out])
    go_ret
    exact ⟨by trivial, by trivial⟩

set_option maxHeartbeats 2000000 in
theorem dtake_less (h : RA w B pb ub qa qk room A A V) (hf : Fit A) (i qty : Int) {n j : Nat} {e : Ent} (hfa : findA A i = some (n, j, e)) (hq1 : 1 ≤ qty) (hq2 : qty < e.qty) :
    Calls Try.prog 31 #[.pointer (some ⟨pb, 0, none⟩), .int .i64 i, .int .i64 qty] w fun x w' => x = .returned (.int .i64 0) ∧ RA w' B pb ub qa qk room (A.set n ((A.getD n []).set j { e with qty := e.qty - qty })) (A.set n ((A.getD n []).set j { e with qty := e.qty - qty })) V ∧ Keeps (RF pb ub qa A V) w w' := by
  obtain ⟨L, qb, g, c, h1, h2, h3, hn, hj, rfl, cq, hV, hg, e0, e1, e2, e3⟩ := h.found hfa
  have c1 := h.c1
  have hn' : (n : Int) < (A.length : Int) := by omega
  have hj' : (j : Int) < (L.length : Int) := by omega
  have heq := hf.qty n j L e h1 h2
  have HN := Lib.hid (h.ent h1 (by rw [hV]) h2 (k := 2) (by omega) (.int .i64 (e.qty - qty)) (e' := { e with qty := e.qty - qty }) rfl)
  have HTK := Lib.hid (taken_turn h1 h2 (e' := { e with qty := e.qty - qty }) rfl)
  have hrow := h.row n hn
  have hrow2 : RowD w B (.slice (some ⟨g, 0, none⟩) L.length c) L := by unfold vd at hrow; rw [hV, getD_of h1] at hrow; exact hrow
  have fz : w.frozen? ⟨g, j * 4 + 2, none⟩ = false := World.ownsRow.frozenAt hrow2 _
  have hgp : pb ≠ g := h.hp.tyd.ne (own_tyd hrow2 g rfl) (by decide)
  have hgq : qb ≠ g := (own_tyd h.hq qb rfl).ne (own_tyd hrow2 g rfl) (by decide)
  have s4 : IntKind.i64.wrap (e.qty - qty) = e.qty - qty := IntWalk.i64_in _ (by omega)
  have hz0 : (e.qty - qty == 0) = false := by rw [beq_eq_false_iff_ne]; omega
  have hq3 : ¬ qty < 1 := by omega
  have hq4 : ¬ e.qty < qty := by omega
  have H := Lib.hid h
  have HF := Lib.hid hf
  have HT := Lib.hid (atT_some hfa)
  rw [getD_of h1]
  have C1 := Lib.hid (HN.out.1.c1)
  have CQ := Lib.hid (HN.out.1.cq (i := n) (by rw [List.length_set]; exact hn))
  have HLN : Hid ((A.set n (L.set j { e with qty := e.qty - qty })).length = A.length) := Lib.hid List.length_set
  have HVD : Hid (vd (A.set n (L.set j { e with qty := e.qty - qty })) V n = .slice (some ⟨g, 0, none⟩) L.length c) := Lib.hid (by unfold vd; rw [hV, getD_set_self hn, List.length_set])
  have hrow3 := HN.out.1.row n (by rw [List.length_set]; exact hn)
  rw [HVD.out, getD_set_self hn] at hrow3
  obtain ⟨z0, z1, z2, z3⟩ := hrow3.ents (j := j) (e := { e with qty := e.qty - qty }) (by rw [List.getElem?_set_self hj])
  replace C1 := C1.out
  replace CQ := CQ.out
  rw [HLN.out] at C1
  rw [HVD.out] at CQ
  replace z2 : (w.setCell ⟨g, j * 4 + 2, none⟩ (.int .i64 (e.qty - qty))).cell? ⟨g, j * 4 + 2, none⟩ = some (.int .i64 (e.qty - qty)) := z2
  clear h hf hfa h1 h2 h3 hV hrow hrow2 hrow3 z0 z1 z3 heq e0 e1 e3
  go_enter Try.func31, Try.ntmps31
  go_wp2_with (go_at_call 37; refine (at_any H.out HF.out i).mono ?_; rintro e w1 ⟨rfl, rfl⟩; rw [HT.out])
  refine wp_region_E (S := fun w' => w'.cell? ⟨pb, 1, none⟩ = some (.slice (some ⟨qb, 0, none⟩) A.length qk) ∧ w'.cell? ⟨qb, n, none⟩ = some (.slice (some ⟨g, 0, none⟩) L.length c) ∧ w'.cell? ⟨g, j * 4 + 2, none⟩ = some (.int .i64 e.qty)) (by kernel_rfl) ⟨c1, cq, e2⟩ (fun hHeld => ?_)
  refine wpE_take (i := 0) (oi := ?oi1) (v := ?v1) ?hi1 (by kernel_rfl) (by kernel_rfl) (by kernel_rfl) (by kernel_rfl) ?hQ1 ?hy1 (by assumption) ?rest1
  case hi1 => (simp only [List.getElem?_toArray, List.getElem?_cons_zero]; rfl)
  case hQ1 => exact fun _ _ _ h => h
  case hy1 => exact Or.inl ⟨by rfl, by (intro w hSw; (try dsimp only at hSw); go_simp; try with_reducible rfl)⟩
  try simp only [Act.put, List.setIfInBounds_toArray, List.set_cons_zero, List.set_cons_succ]
  refine wpE_take (i := 1) (oi := ?oi2) (v := ?v2) ?hi2 (by kernel_rfl) (by kernel_rfl) (by kernel_rfl) (by kernel_rfl) ?hQ2 ?hy2 (by assumption) ?rest2
  case hi2 => (simp only [List.getElem?_toArray, List.getElem?_cons_succ, List.getElem?_cons_zero]; rfl)
  case hQ2 => exact fun _ _ _ h => h
  case hy2 => exact Or.inl ⟨by rfl, by (intro w hSw; (try dsimp only at hSw); go_simp; try with_reducible rfl)⟩
  try simp only [Act.put, List.setIfInBounds_toArray, List.set_cons_zero, List.set_cons_succ]
  refine wpE_take (i := 2) (oi := ?oi3) (v := ?v3) ?hi3 (by kernel_rfl) (by kernel_rfl) (by kernel_rfl) (by kernel_rfl) ?hQ3 ?hy3 (by assumption) ?rest3
  case hi3 => (simp only [List.getElem?_toArray, List.getElem?_cons_succ, List.getElem?_cons_zero]; rfl)
  case hQ3 => exact fun _ _ _ h => h
  case hy3 => exact Or.inl ⟨by rfl, by (intro w hSw; (try dsimp only at hSw); go_simp; try with_reducible rfl)⟩
  try simp only [Act.put, List.setIfInBounds_toArray, List.set_cons_zero, List.set_cons_succ]
  refine wpE_take (i := 3) (oi := ?oi4) (v := ?v4) ?hi4 (by kernel_rfl) (by kernel_rfl) (by kernel_rfl) (by kernel_rfl) ?hQ4 ?hy4 (by assumption) ?rest4
  case hi4 => (simp only [List.getElem?_toArray, List.getElem?_cons_succ, List.getElem?_cons_zero]; rfl)
  case hQ4 => exact fun _ _ _ h => h
  case hy4 => exact Or.inl ⟨by rfl, by (intro w hSw; (try dsimp only at hSw); go_simp; try with_reducible rfl)⟩
  try simp only [Act.put, List.setIfInBounds_toArray, List.set_cons_zero, List.set_cons_succ]
  refine wpE_take (i := 4) (oi := ?oi5) (v := ?v5) ?hi5 (by kernel_rfl) (by kernel_rfl) (by kernel_rfl) (by kernel_rfl) ?hQ5 ?hy5 (by assumption) ?rest5
  case hi5 => (simp only [List.getElem?_toArray, List.getElem?_cons_succ, List.getElem?_cons_zero]; rfl)
  case hQ5 => exact fun _ _ _ h => h
  case hy5 => exact Or.inl ⟨by rfl, by (intro w hSw; (try dsimp only at hSw); go_simp; try with_reducible rfl)⟩
  try simp only [Act.put, List.setIfInBounds_toArray, List.set_cons_zero, List.set_cons_succ]
  refine wpE_take (i := 5) (oi := ?oi6) (v := ?v6) ?hi6 (by kernel_rfl) (by kernel_rfl) (by kernel_rfl) (by kernel_rfl) ?hQ6 ?hy6 (by assumption) ?rest6
  case hi6 => (simp only [List.getElem?_toArray, List.getElem?_cons_succ, List.getElem?_cons_zero]; rfl)
  case hQ6 => exact fun _ _ _ h => h
  case hy6 => exact Or.inl ⟨by rfl, by (intro w hSw; (try dsimp only at hSw); go_simp; try with_reducible rfl)⟩
  try simp only [Act.put, List.setIfInBounds_toArray, List.set_cons_zero, List.set_cons_succ]
  refine wpE_take (i := 6) (oi := ?oi7) (v := ?v7) ?hi7 (by kernel_rfl) (by kernel_rfl) (by kernel_rfl) (by kernel_rfl) ?hQ7 ?hy7 (by assumption) ?rest7
  case hi7 => (simp only [List.getElem?_toArray, List.getElem?_cons_succ, List.getElem?_cons_zero]; rfl)
  case hQ7 => exact fun _ _ _ h => h
  case hy7 => exact Or.inl ⟨by rfl, by (intro w hSw; (try dsimp only at hSw); go_simp; try with_reducible rfl)⟩
  try simp only [Act.put, List.setIfInBounds_toArray, List.set_cons_zero, List.set_cons_succ]
  refine wpE_take (i := 7) (oi := ?oi8) (v := ?v8) ?hi8 (by kernel_rfl) (by kernel_rfl) (by kernel_rfl) (by kernel_rfl) ?hQ8 ?hy8 (by assumption) ?rest8
  case hi8 => (simp only [List.getElem?_toArray, List.getElem?_cons_succ, List.getElem?_cons_zero]; rfl)
  case hQ8 => exact fun _ _ _ h => h
  case hy8 => exact Or.inl ⟨by rfl, by (intro w hSw; (try dsimp only at hSw); go_simp; try with_reducible rfl)⟩
  try simp only [Act.put, List.setIfInBounds_toArray, List.set_cons_zero, List.set_cons_succ]
  refine wpE_take (i := 8) (oi := ?oi9) (v := ?v9) ?hi9 (by kernel_rfl) (by kernel_rfl) (by kernel_rfl) (by kernel_rfl) ?hQ9 ?hy9 (by assumption) ?rest9
  case hi9 => (simp only [List.getElem?_toArray, List.getElem?_cons_succ, List.getElem?_cons_zero]; rfl)
  case hQ9 => exact fun _ _ _ h => h
  case hy9 => exact Or.inl ⟨by rfl, by (intro w hSw; (try dsimp only at hSw); go_simp; try with_reducible rfl)⟩
  try simp only [Act.put, List.setIfInBounds_toArray, List.set_cons_zero, List.set_cons_succ]
  refine wpE_take (i := 9) (oi := ?oi10) (v := ?v10) ?hi10 (by kernel_rfl) (by kernel_rfl) (by kernel_rfl) (by kernel_rfl) ?hQ10 ?hy10 (by assumption) ?rest10
  case hi10 => (simp only [List.getElem?_toArray, List.getElem?_cons_succ, List.getElem?_cons_zero]; rfl)
  case hQ10 => exact fun _ _ _ h => h
  case hy10 => exact Or.inl ⟨by rfl, by (intro w hSw; (try dsimp only at hSw); go_simp; try with_reducible rfl)⟩
  try simp only [Act.put, List.setIfInBounds_toArray, List.set_cons_zero, List.set_cons_succ]
  refine wpE_take (i := 10) (oi := ?oi11) (v := ?v11) ?hi11 (by kernel_rfl) (by kernel_rfl) (by kernel_rfl) (by kernel_rfl) ?hQ11 ?hy11 (by assumption) ?rest11
  case hi11 => (simp only [List.getElem?_toArray, List.getElem?_cons_succ, List.getElem?_cons_zero]; rfl)
  case hQ11 => exact fun _ _ _ h => h
  case hy11 => exact Or.inl ⟨by rfl, by (intro w hSw; (try dsimp only at hSw); go_simp; try with_reducible rfl)⟩
  try simp only [Act.put, List.setIfInBounds_toArray, List.set_cons_zero, List.set_cons_succ]
  refine wpE_take (i := 11) (oi := ?oi12) (v := ?v12) ?hi12 (by kernel_rfl) (by kernel_rfl) (by kernel_rfl) (by kernel_rfl) ?hQ12 ?hy12 (by assumption) ?rest12
  case hi12 => (simp only [List.getElem?_toArray, List.getElem?_cons_succ, List.getElem?_cons_zero]; rfl)
  case hQ12 => exact fun _ _ _ h => h
  case hy12 => exact Or.inl ⟨by rfl, by (intro w hSw; (try dsimp only at hSw); go_simp; try with_reducible rfl)⟩
  try simp only [Act.put, List.setIfInBounds_toArray, List.set_cons_zero, List.set_cons_succ]
  refine wpE_take (i := 12) (oi := ?oi13) (v := ?v13) ?hi13 (by kernel_rfl) (by kernel_rfl) (by kernel_rfl) (by kernel_rfl) ?hQ13 ?hy13 (by assumption) ?rest13
  case hi13 => (simp only [List.getElem?_toArray, List.getElem?_cons_succ, List.getElem?_cons_zero]; rfl)
  case hQ13 => exact fun _ _ _ h => h
  case hy13 => exact Or.inl ⟨by rfl, by (intro w hSw; (try dsimp only at hSw); go_simp; try with_reducible rfl)⟩
  try simp only [Act.put, List.setIfInBounds_toArray, List.set_cons_zero, List.set_cons_succ]
  refine wpE_take (i := 13) (oi := ?oi14) (v := ?v14) ?hi14 (by kernel_rfl) (by kernel_rfl) (by kernel_rfl) (by kernel_rfl) ?hQ14 ?hy14 (by assumption) ?rest14
  case hi14 => (simp only [List.getElem?_toArray, List.getElem?_cons_succ, List.getElem?_cons_zero]; rfl)
  case hQ14 => exact fun _ _ _ h => h
  case hy14 => exact Or.inl ⟨by rfl, by (intro w hSw; (try dsimp only at hSw); go_simp; try with_reducible rfl)⟩
  try simp only [Act.put, List.setIfInBounds_toArray, List.set_cons_zero, List.set_cons_succ]
  refine wpE_take (i := 14) (oi := ?oi15) (v := ?v15) ?hi15 (by kernel_rfl) (by kernel_rfl) (by kernel_rfl) (by kernel_rfl) ?hQ15 ?hy15 (by assumption) ?rest15
  case hi15 => (simp only [List.getElem?_toArray, List.getElem?_cons_succ, List.getElem?_cons_zero]; rfl)
  case hQ15 => exact fun _ _ _ h => h
  case hy15 => exact Or.inl ⟨by rfl, by (intro w hSw; (try dsimp only at hSw); go_simp; try with_reducible rfl)⟩
  try simp only [Act.put, List.setIfInBounds_toArray, List.set_cons_zero, List.set_cons_succ]
  refine wpE_take (i := 15) (oi := ?oi16) (v := ?v16) ?hi16 (by kernel_rfl) (by kernel_rfl) (by kernel_rfl) (by kernel_rfl) ?hQ16 ?hy16 (by assumption) ?rest16
  case hi16 => (simp only [List.getElem?_toArray, List.getElem?_cons_succ, List.getElem?_cons_zero]; rfl)
  case hQ16 => exact fun _ _ _ h => h
  case hy16 => exact Or.inl ⟨by rfl, by (intro w hSw; (try dsimp only at hSw); go_simp; try with_reducible rfl)⟩
  try simp only [Act.put, List.setIfInBounds_toArray, List.set_cons_zero, List.set_cons_succ]
  refine wpE_take (i := 16) (oi := ?oi17) (v := ?v17) ?hi17 (by kernel_rfl) (by kernel_rfl) (by kernel_rfl) (by kernel_rfl) ?hQ17 ?hy17 (by assumption) ?rest17
  case hi17 => (simp only [List.getElem?_toArray, List.getElem?_cons_succ, List.getElem?_cons_zero]; rfl)
  case hQ17 => exact fun _ _ _ h => h
  case hy17 => exact Or.inl ⟨by rfl, by (intro w hSw; (try dsimp only at hSw); go_simp; try with_reducible rfl)⟩
  try simp only [Act.put, List.setIfInBounds_toArray, List.set_cons_zero, List.set_cons_succ]
  refine wpE_take (i := 17) (oi := ?oi18) (v := ?v18) ?hi18 (by kernel_rfl) (by kernel_rfl) (by kernel_rfl) (by kernel_rfl) ?hQ18 ?hy18 (by assumption) ?rest18
  case hi18 => (simp only [List.getElem?_toArray, List.getElem?_cons_succ, List.getElem?_cons_zero]; rfl)
  case hQ18 => exact fun _ _ _ h => h
  case hy18 => exact Or.inl ⟨by rfl, by (intro w hSw; (try dsimp only at hSw); go_simp; try with_reducible rfl)⟩
  try simp only [Act.put, List.setIfInBounds_toArray, List.set_cons_zero, List.set_cons_succ]
  refine wpE_take (i := 18) (oi := ?oi19) (v := ?v19) ?hi19 (by kernel_rfl) (by kernel_rfl) (by kernel_rfl) (by kernel_rfl) ?hQ19 ?hy19 (by assumption) ?rest19
  case hi19 => (simp only [List.getElem?_toArray, List.getElem?_cons_succ, List.getElem?_cons_zero]; rfl)
  case hQ19 => exact fun _ _ _ h => h
  case hy19 => exact Or.inl ⟨by rfl, by (intro w hSw; (try dsimp only at hSw); go_simp; try with_reducible rfl)⟩
  try simp only [Act.put, List.setIfInBounds_toArray, List.set_cons_zero, List.set_cons_succ]
  refine wpE_take (i := 19) (oi := ?oi20) (v := ?v20) ?hi20 (by kernel_rfl) (by kernel_rfl) (by kernel_rfl) (by kernel_rfl) ?hQ20 ?hy20 (by assumption) ?rest20
  case hi20 => (simp only [List.getElem?_toArray, List.getElem?_cons_succ, List.getElem?_cons_zero]; rfl)
  case hQ20 => exact fun _ _ _ h => h
  case hy20 => exact Or.inl ⟨by rfl, by (intro w hSw; (try dsimp only at hSw); go_simp; try with_reducible rfl)⟩
  try simp only [Act.put, List.setIfInBounds_toArray, List.set_cons_zero, List.set_cons_succ]
  refine wpE_take (i := 20) (oi := ?oi21) (v := ?v21) ?hi21 (by kernel_rfl) (by kernel_rfl) (by kernel_rfl) (by kernel_rfl) ?hQ21 ?hy21 (by assumption) ?rest21
  case hi21 => (simp only [List.getElem?_toArray, List.getElem?_cons_succ, List.getElem?_cons_zero]; rfl)
  case hQ21 => exact fun _ _ _ h => h
  case hy21 => exact Or.inl ⟨by rfl, by (intro w hSw; (try dsimp only at hSw); go_simp; try with_reducible rfl)⟩
  try simp only [Act.put, List.setIfInBounds_toArray, List.set_cons_zero, List.set_cons_succ]
  refine wpE_take (i := 21) (oi := ?oi22) (v := ?v22) ?hi22 (by kernel_rfl) (by kernel_rfl) (by kernel_rfl) (by kernel_rfl) ?hQ22 ?hy22 (by assumption) ?rest22
  case hi22 => (simp only [List.getElem?_toArray, List.getElem?_cons_succ, List.getElem?_cons_zero]; rfl)
  case hQ22 => exact fun _ _ _ h => h
  case hy22 => exact Or.inl ⟨by rfl, by (intro w hSw; (try dsimp only at hSw); go_simp; try with_reducible rfl)⟩
  try simp only [Act.put, List.setIfInBounds_toArray, List.set_cons_zero, List.set_cons_succ]
  refine wpE_take (i := 22) (oi := ?oi23) (v := ?v23) ?hi23 (by kernel_rfl) (by kernel_rfl) (by kernel_rfl) (by kernel_rfl) ?hQ23 ?hy23 (by assumption) ?rest23
  case hi23 => (simp only [List.getElem?_toArray, List.getElem?_cons_succ, List.getElem?_cons_zero]; rfl)
  case hQ23 => exact fun _ _ _ h => h
  case hy23 => exact Or.inl ⟨by rfl, by (intro w hSw; (try dsimp only at hSw); go_simp; try with_reducible rfl)⟩
  try simp only [Act.put, List.setIfInBounds_toArray, List.set_cons_zero, List.set_cons_succ]
  refine wpE_last (i := 23) (o := ?o24) ?ho24 (by kernel_rfl) (by kernel_rfl) (by kernel_rfl) (fun K hK => ?_)
  case ho24 => (simp only [List.getElem?_toArray, List.getElem?_cons_succ, List.getElem?_cons_zero]; rfl)
  go_simp
  refine hK.out _ _ ?_
  clear hK K hHeld c1 cq e2 fz
  generalize w.setCell ⟨g, j * 4 + 2, none⟩ (.int .i64 (e.qty - qty)) = w6 at *
  go_wp2_with fail
  go_ret
  exact ⟨by trivial, (HN.out.1.used_same fun k => (HTK.out k).symm).below (Below.drewN_of w6 1), HN.out.2.drew⟩
end
end Go.Proofs.Ytbpmoomklknkkaa
