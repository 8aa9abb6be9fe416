/- The walks of the document's arena: Push. -/
import Derived.Test.YtbpmoomklknkkaaDoc3
import Derived.Test.YtbpmoomklknkkaaLast
import Derived.Deep.QuietTactic
import Derived.Deep.RegionHeld3
import Derived.Deep.CutRange
import Derived.IntWalk
namespace Go.Proofs.Ytbpmoomklknkkaa
open Go.RowKit

/-- append of orders that lie somewhere onto a row of the document's own -/
theorem step_append_docs {w : World} {ops : Array Oper} {o : Oper} {a : Act} {K : Act → World → Prop} {Q : Exit → Act → World → Prop} {E : Prop} (hgd : o.guard = none) (s x : Operand)
    (ho : o.op = .call { callee := .builtin .append, args := #[s, x], argTypes := #[75, 75] })
    (B : Nat) (a0 : Option Addr) (c0 n m : Nat) (L : List Ent) (hn : L.length = n) (hs : a.eval s = .slice a0 n c0) (hown : RowD w B (.slice a0 n c0) L)
    (b off c : Nat) (M : List Ent) (hm : M.length = m) (hx : a.eval x = .slice (some ⟨b, off, none⟩) m c) (hr : Rd w (some ⟨b, off, none⟩) M) (hpos : a0 ≠ none ∨ 0 < m)
    (nm : Nat) (hnm : n + m = nm) (hle : n + m ≤ 1000000) (hbase : B ≤ w.heap.size)
    (h : ∀ g cap w', RowD w' B (.slice (some ⟨g, 0, none⟩) nm cap) (L ++ M) → w.grownBy w' (Value.slice a0 n c0).ownBlock → (a0 = some ⟨g, 0, none⟩ ∨ g = w.heap.size) → K (a.put o.dst (.slice (some ⟨g, 0, none⟩) nm cap)) w') :
    if Region.wanted o (yielded ops a.tmps) = true then Oper.wp Try.prog o a w K Q else E := by
  subst hn
  subst hm
  subst hnm
  have hw : Region.wanted o (yielded ops a.tmps) = true := by simp [Region.wanted, hgd]
  rw [if_pos hw]
  obtain ⟨i0, hi, hz0, hz1, hz2⟩ := info_parts info_doc
  have hcells : ∀ j u, (M.flatMap Ent.cells)[j]? = some u → w.cell? ((⟨b, off, none⟩ : Addr).add j) = some u := hr.cells
  obtain ⟨v', w', hrun, h2, h3, h4, h5⟩ := run_append_own_at (P := Try.prog) w B 75 o.type 77 i0 _ 4 32 Try.underlying75 hi hz0 hz1 hz2 rfl (by omega) _ L.length _ hown ⟨b, off, none⟩ M.length c (M.flatMap Ent.cells) (by rw [fm_length Ent.cells 4 Ent.len]) hcells (Ent.one M) (by unfold maxLen; omega) (by omega) hbase
  have hform : ∃ g cap, v' = .slice (some ⟨g, 0, none⟩) (L.length + M.length) cap := by
    rcases h2.2 with ⟨hv, h0⟩ | ⟨g, cap, cur, hv, _⟩
    · have h6 := (h4.1 hv).1
      injection h6 with h6
      rcases hpos with hp | hp
      · exact absurd h6 hp
      · omega
    · exact ⟨g, cap, hv⟩
  obtain ⟨g, cap, rfl⟩ := hform
  unfold Oper.wp execOp
  simp only [ho, resolve, invoke, builtin, Sem.run_bind, Sem.run_pure, Result.andThen_ok, List.map_toArray, List.map_cons, List.map_nil, hs, hx, hrun]
  refine h g cap w' ?_ h3 ?_
  · unfold RowD
    rw [List.flatMap_append, List.length_append]
    exact h2
  · rcases h5 with h5 | h5
    · exact .inl (qa_of hown h5.symm)
    · have h6 : some g = some w.heap.size := h5
      injection h6 with h6
      exact .inr h6

section
variable {w w' : World} {B pb ub : Nat} {qa : Option Addr} {qk room : Nat} {U A : List (List Ent)} {V : Nat → Option Addr × Nat}
set_option maxHeartbeats 1000000 in
theorem dpush_no (h : RA w B pb ub qa qk room A A V) (n id qty : Int) (top : Bool) (hn : n < 0 ∨ (A.length : Int) ≤ n) :
    Calls Try.prog 30 #[.pointer (some ⟨pb, 0, none⟩), .int .i64 n, .int .i64 id, .int .i64 qty, .bool top] w fun e w' => e = .returned (.tuple #[.int .i64 0, .int .i64 26]) ∧ w = w' := by
  have c1 := h.c1
  clear h
  by_cases h0 : n < 0
  · clear hn
    go_enter Try.func30, Try.ntmps30
    go_wp2_with fail
    go_ret2
    exact ⟨by trivial, rfl⟩
  · have hn' : (A.length : Int) ≤ n := by omega
    clear hn
    go_enter Try.func30, Try.ntmps30
    go_wp2_with fail
    go_ret2
    exact ⟨by trivial, rfl⟩
set_option maxHeartbeats 1000000 in
theorem dpush_qty (h : RA w B pb ub qa qk room A A V) (n : Nat) (id qty : Int) (top : Bool) (hn : n < A.length) (hq : qty < 1 ∨ 1000000 < qty) :
    Calls Try.prog 30 #[.pointer (some ⟨pb, 0, none⟩), .int .i64 n, .int .i64 id, .int .i64 qty, .bool top] w fun e w' => e = .returned (.tuple #[.int .i64 0, .int .i64 24]) ∧ w = w' := by
  have c1 := h.c1
  have hn' : (n : Int) < (A.length : Int) := by omega
  clear h
  by_cases h0 : qty < 1
  · clear hq
    go_enter Try.func30, Try.ntmps30
    go_wp2_with fail
    go_ret2
    exact ⟨by trivial, rfl⟩
  · have hq' : 1000000 < qty := by omega
    clear hq
    go_enter Try.func30, Try.ntmps30
    go_wp2_with fail
    go_ret2
    exact ⟨by trivial, rfl⟩
set_option maxHeartbeats 1000000 in
theorem dpush_full (h : RA w B pb ub qa qk room A A V) (n : Nat) (id qty : Int) (top : Bool) (hn : n < A.length) (hq1 : 1 ≤ qty) (hq2 : qty ≤ 1000000) (hr : room ≤ 4096) (hf : leastFree room A = none) :
    Calls Try.prog 30 #[.pointer (some ⟨pb, 0, none⟩), .int .i64 n, .int .i64 id, .int .i64 qty, .bool top] w fun e w' => e = .returned (.tuple #[.int .i64 0, .int .i64 13]) ∧ w = w' := by
  have c1 := h.c1
  have c0 := h.c0
  have hn' : (n : Int) < (A.length : Int) := by omega
  have H := Lib.hid h
  have HU := Lib.hid (least_none hf)
  clear h hf
  go_enter Try.func30, Try.ntmps30
  go_wp2_with fail
  go_loop [12] (fun s => ∃ j : Nat, s = .int .i64 j ∧ j ≤ room) (fun s => room - (intOf s).toNat)
  case atStart => exact ⟨0, rfl, Nat.zero_le _⟩
  case round =>
    obtain ⟨j, rfl, hj⟩ := hrel
    by_cases hjl : j < room
    · have cu := H.out.cu hjl
      rw [show tk A j = true from HU.out j hjl] at cu
      have hjl' : (j : Int) < (room : Int) := by omega
      go_wp2_with fail
      go_round
      case rel => exact ⟨j + 1, by go_num, by omega⟩
      case measure => simp [intOf]; omega
    · obtain rfl : j = room := by omega
      go_wp2_with fail
      go_ret2
      exact ⟨by trivial, rfl⟩
set_option maxHeartbeats 2000000 in
theorem dpush_yes (h : RA w B pb ub qa qk room A A V) (hft : Fit A) (n : Nat) (L : List Ent) (id qty : Int) (top : Bool) (hL : A[n]? = some L) (hq1 : 1 ≤ qty) (hq2 : qty ≤ 1000000) (hr : room ≤ 4096) (r : Nat) (hf : leastFree room A = some r) (hB : B ≤ w.heap.size) :
    Calls Try.prog 30 #[.pointer (some ⟨pb, 0, none⟩), .int .i64 n, .int .i64 id, .int .i64 qty, .bool top] w fun e w' => e = .returned (.tuple #[.int .i64 r, .int .i64 0]) ∧ (∃ V', RA w' B pb ub qa qk room (A.set n (L ++ [⟨r, id, qty, top⟩])) (A.set n (L ++ [⟨r, id, qty, top⟩])) V') ∧ Keeps (RF pb ub qa A V) w w' := by
  have c1 := h.c1
  have c0 := h.c0
  have hn := lt_of_get hL
  have hn' : (n : Int) < (A.length : Int) := by omega
  obtain ⟨qb, rfl⟩ := h.qrow (by omega)
  obtain ⟨hr1, hr2, hr3⟩ := least_some hf
  have HU : Hid (∀ i, i < r → tk A i = true) := Lib.hid hr3
  have HR : Hid (tk A r = false) := Lib.hid (by unfold tk; rw [hr2]; rfl)
  have fu : w.frozen? ⟨ub, r, none⟩ = false := h.hu.frozen r
  have hLs := hft.short n L hL
  have H := Lib.hid h
  have HL := Lib.hid hL
  have HTP := Lib.hid (taken_push hL ⟨r, id, qty, top⟩)
  have ub_lt := h.hu.lt
  clear h hf hr2 hr3 hL hft
  go_enter Try.func30, Try.ntmps30
  go_wp2_with fail
  go_loop [12] (fun s => ∃ j : Nat, s = .int .i64 j ∧ j ≤ r) (fun s => r - (intOf s).toNat)
  case atStart => exact ⟨0, rfl, Nat.zero_le _⟩
  case round =>
    obtain ⟨j, rfl, hj⟩ := hrel
    have cu := H.out.cu (i := j) (by omega)
    have hjl' : (j : Int) < (room : Int) := by omega
    by_cases hjl : j < r
    · rw [HU.out j hjl] at cu
      go_wp2_with fail
      go_round
      case rel => exact ⟨j + 1, by go_num, by omega⟩
      case measure => simp [intOf]; omega
    · obtain rfl : j = r := by omega
      rw [HR.out] at cu
      go_upto_region 10 with (fail)
      clear cu fu c0 c1
      have hUA : RA (w.setCell ⟨ub, j, none⟩ (.bool true)) B pb ub (some ⟨qb, 0, none⟩) qk room (A.set n (L ++ [⟨j, id, qty, top⟩])) A V := H.out.use (fun k => by
        by_cases hk : k = j
        · subst hk; rw [if_pos rfl]; exact tk_true ((HTP.out k).2 (.inr rfl))
        · rw [if_neg hk]
          exact tk_eq ⟨fun hx => by rcases (HTP.out k).1 hx with h | h; exact h; exact absurd h hk, fun hx => (HTP.out k).2 (.inl hx)⟩)
      have hKU : Keeps (RF pb ub (some ⟨qb, 0, none⟩) A V) w (w.setCell ⟨ub, j, none⟩ (.bool true)) := (Keeps.refl _ w).setCell (p := ⟨ub, j, none⟩) (fun _ => .inr (.inl rfl)) _
      have HKU := Lib.hid hKU
      have hwz : B ≤ (w.setCell ⟨ub, j, none⟩ (.bool true)).heap.size := by have := hKU.size; omega
      clear hKU
      generalize w.setCell ⟨ub, j, none⟩ (.bool true) = wu at *
      have c1 := hUA.c1
      have cq := hUA.cq hn
      have fq := hUA.fq n
      have hrow := hUA.row n hn
      have hqlt := hUA.lt qb (.inr (.inr (.inl rfl)))
      have hplt := hUA.lt pb (.inl rfl)
      have hpq : qb ≠ pb := (own_tyd hUA.hq qb rfl).ne hUA.hp.tyd (by decide)
      obtain ⟨a, c, hv⟩ : ∃ a c, V n = (a, c) := ⟨_, _, rfl⟩
      have hvd : vd A V n = .slice a L.length c := by unfold vd; rw [hv, getD_of HL.out]
      rw [hvd] at cq hrow
      rw [getD_of HL.out] at hrow
      have HUA := Lib.hid hUA
      have HV := Lib.hid hvd
      have hD : Below wu.heap.size wu (wu.alloc (.cells #[.int .i64 j, .int .i64 id, .int .i64 qty, .bool top] 77)).drew := ((Below.refl _ _).alloc (Nat.le_refl _) _).drew
      have HBA := Lib.hid hD
      have HOW : Hid (RowD (wu.alloc (.cells #[.int .i64 j, .int .i64 id, .int .i64 qty, .bool top] 77)).drew B (.slice a L.length c) L) := Lib.hid (own_below hrow hD)
      have HSZ : Hid ((wu.alloc (.cells #[.int .i64 j, .int .i64 id, .int .i64 qty, .bool top] 77)).drew.heap.size = wu.heap.size + 1) := Lib.hid (by simp)
      have HRD : Hid (Rd (wu.alloc (.cells #[.int .i64 j, .int .i64 id, .int .i64 qty, .bool top] 77)).drew (some ⟨wu.heap.size, 0, none⟩) [⟨j, id, qty, top⟩]) := Lib.hid (by
        intro i e he
        have hi := lt_of_get he
        obtain rfl : i = 0 := by simp at hi; exact hi
        simp at he
        subst he
        have hb := (Blk.new wu 77 #[.int .i64 j, .int .i64 id, .int .i64 qty, .bool top]).drew
        refine ⟨_, _, rfl, by rw [HSZ.out]; omega, ?_, ?_, ?_, ?_⟩ <;> (rw [hb.cell]; rfl))
      have HLT : Hid (∀ y, (Value.slice a L.length c).ownBlock = some y → y ≠ pb ∧ y ≠ qb ∧ y < wu.heap.size) := Lib.hid fun y hy => ⟨(own_tyd hrow y hy).ne hUA.hp.tyd (by decide), (own_tyd hrow y hy).ne (own_tyd hUA.hq qb rfl) (by decide), own_lt hrow y hy⟩
      clear hrow hv hD hUA
      refine wp_region_E (S := fun w' => w'.cell? ⟨pb, 1, none⟩ = some (.slice (some ⟨qb, 0, none⟩) A.length qk) ∧ w'.cell? ⟨qb, n, none⟩ = some (.slice a L.length c)) (by kernel_rfl) ⟨c1, cq⟩ (fun hHeld => ?_)
      refine wpE_take (i := 0) (oi := ?oi1) (v := ?v1) ?hi1 (by kernel_rfl) (by kernel_rfl) (by kernel_rfl) (by kernel_rfl) ?hQ1 ?hy1 (by assumption) ?rest1
      case hi1 => (simp only [List.getElem?_toArray, List.getElem?_cons_zero]; rfl)
      case hQ1 => exact fun _ _ _ h => h
      case hy1 => exact Or.inl ⟨by rfl, by (intro w hSw; (try dsimp only at hSw); go_simp; try with_reducible rfl)⟩
      try simp only [Act.put, List.setIfInBounds_toArray, List.set_cons_zero, List.set_cons_succ]
      refine wpE_take (i := 1) (oi := ?oi2) (v := ?v2) ?hi2 (by kernel_rfl) (by kernel_rfl) (by kernel_rfl) (by kernel_rfl) ?hQ2 ?hy2 (by assumption) ?rest2
      case hi2 => (simp only [List.getElem?_toArray, List.getElem?_cons_succ, List.getElem?_cons_zero]; rfl)
      case hQ2 => exact fun _ _ _ h => h
      case hy2 => exact Or.inl ⟨by rfl, by (intro w hSw; (try dsimp only at hSw); go_simp; try with_reducible rfl)⟩
      try simp only [Act.put, List.setIfInBounds_toArray, List.set_cons_zero, List.set_cons_succ]
      refine wpE_take (i := 2) (oi := ?oi3) (v := ?v3) ?hi3 (by kernel_rfl) (by kernel_rfl) (by kernel_rfl) (by kernel_rfl) ?hQ3 ?hy3 (by assumption) ?rest3
      case hi3 => (simp only [List.getElem?_toArray, List.getElem?_cons_succ, List.getElem?_cons_zero]; rfl)
      case hQ3 => exact fun _ _ _ h => h
      case hy3 => exact Or.inl ⟨by rfl, by (intro w hSw; (try dsimp only at hSw); go_simp; try with_reducible rfl)⟩
      try simp only [Act.put, List.setIfInBounds_toArray, List.set_cons_zero, List.set_cons_succ]
      refine wpE_take (i := 3) (oi := ?oi4) (v := ?v4) ?hi4 (by kernel_rfl) (by kernel_rfl) (by kernel_rfl) (by kernel_rfl) ?hQ4 ?hy4 (by assumption) ?rest4
      case hi4 => (simp only [List.getElem?_toArray, List.getElem?_cons_succ, List.getElem?_cons_zero]; rfl)
      case hQ4 => exact fun _ _ _ h => h
      case hy4 => exact Or.inl ⟨by rfl, by (intro w hSw; (try dsimp only at hSw); go_simp; try with_reducible rfl)⟩
      try simp only [Act.put, List.setIfInBounds_toArray, List.set_cons_zero, List.set_cons_succ]
      refine wpE_take (i := 4) (oi := ?oi5) (v := ?v5) ?hi5 (by kernel_rfl) (by kernel_rfl) (by kernel_rfl) (by kernel_rfl) ?hQ5 ?hy5 (by assumption) ?rest5
      case hi5 => (simp only [List.getElem?_toArray, List.getElem?_cons_succ, List.getElem?_cons_zero]; rfl)
      case hQ5 => exact fun _ _ _ h => h
      case hy5 => exact Or.inl ⟨by rfl, by (intro w hSw; (try dsimp only at hSw); go_simp; try with_reducible rfl)⟩
      try simp only [Act.put, List.setIfInBounds_toArray, List.set_cons_zero, List.set_cons_succ]
      refine wpE_take (i := 5) (oi := ?oi6) (v := ?v6) ?hi6 (by kernel_rfl) (by kernel_rfl) (by kernel_rfl) (by kernel_rfl) ?hQ6 ?hy6 (by assumption) ?rest6
      case hi6 => (simp only [List.getElem?_toArray, List.getElem?_cons_succ, List.getElem?_cons_zero]; rfl)
      case hQ6 => exact fun _ _ _ h => h
      case hy6 => exact Or.inl ⟨by rfl, by (intro w hSw; (try dsimp only at hSw); go_simp; try with_reducible rfl)⟩
      try simp only [Act.put, List.setIfInBounds_toArray, List.set_cons_zero, List.set_cons_succ]
      refine wpE_take (i := 6) (oi := ?oi7) (v := ?v7) ?hi7 (by kernel_rfl) (by kernel_rfl) (by kernel_rfl) (by kernel_rfl) ?hQ7 ?hy7 (by assumption) ?rest7
      case hi7 => (simp only [List.getElem?_toArray, List.getElem?_cons_succ, List.getElem?_cons_zero]; rfl)
      case hQ7 => exact fun _ _ _ h => h
      case hy7 => exact Or.inl ⟨by rfl, by (intro w hSw; (try dsimp only at hSw); go_simp; try with_reducible rfl)⟩
      try simp only [Act.put, List.setIfInBounds_toArray, List.set_cons_zero, List.set_cons_succ]
      refine wpE_take (i := 7) (oi := ?oi8) (v := ?v8) ?hi8 (by kernel_rfl) (by kernel_rfl) (by kernel_rfl) (by kernel_rfl) ?hQ8 ?hy8 (by assumption) ?rest8
      case hi8 => (simp only [List.getElem?_toArray, List.getElem?_cons_succ, List.getElem?_cons_zero]; rfl)
      case hQ8 => exact fun _ _ _ h => h
      case hy8 => exact Or.inl ⟨by rfl, by (intro w hSw; (try dsimp only at hSw); go_simp; try with_reducible rfl)⟩
      try simp only [Act.put, List.setIfInBounds_toArray, List.set_cons_zero, List.set_cons_succ]
      refine wpE_take (i := 8) (oi := ?oi9) (v := ?v9) ?hi9 (by kernel_rfl) (by kernel_rfl) (by kernel_rfl) (by kernel_rfl) ?hQ9 ?hy9 (by assumption) ?rest9
      case hi9 => (simp only [List.getElem?_toArray, List.getElem?_cons_succ, List.getElem?_cons_zero]; rfl)
      case hQ9 => exact fun _ _ _ h => h
      case hy9 => exact Or.inl ⟨by rfl, by (intro w hSw; (try dsimp only at hSw); go_simp; try with_reducible rfl)⟩
      try simp only [Act.put, List.setIfInBounds_toArray, List.set_cons_zero, List.set_cons_succ]
      refine wpE_take (i := 9) (oi := ?oi10) (v := ?v10) ?hi10 (by kernel_rfl) (by kernel_rfl) (by kernel_rfl) (by kernel_rfl) ?hQ10 ?hy10 (by assumption) ?rest10
      case hi10 => (simp only [List.getElem?_toArray, List.getElem?_cons_succ, List.getElem?_cons_zero]; rfl)
      case hQ10 => exact fun _ _ _ h => h
      case hy10 => exact Or.inl ⟨by rfl, by (intro w hSw; (try dsimp only at hSw); go_simp; try with_reducible rfl)⟩
      try simp only [Act.put, List.setIfInBounds_toArray, List.set_cons_zero, List.set_cons_succ]
      refine wpE_take (i := 10) (oi := ?oi11) (v := ?v11) ?hi11 (by kernel_rfl) (by kernel_rfl) (by kernel_rfl) (by kernel_rfl) ?hQ11 ?hy11 (by assumption) ?rest11
      case hi11 => (simp only [List.getElem?_toArray, List.getElem?_cons_succ, List.getElem?_cons_zero]; rfl)
      case hQ11 => exact fun _ _ _ h => h
      case hy11 => exact Or.inl ⟨by rfl, by (intro w hSw; (try dsimp only at hSw); go_simp; try with_reducible rfl)⟩
      try simp only [Act.put, List.setIfInBounds_toArray, List.set_cons_zero, List.set_cons_succ]
      refine wpE_take (i := 11) (oi := ?oi12) (v := ?v12) ?hi12 (by kernel_rfl) (by kernel_rfl) (by kernel_rfl) (by kernel_rfl) ?hQ12 ?hy12 (by assumption) ?rest12
      case hi12 => (simp only [List.getElem?_toArray, List.getElem?_cons_succ, List.getElem?_cons_zero]; rfl)
      case hQ12 => exact fun _ _ _ h => h
      case hy12 => exact Or.inl ⟨by rfl, by (intro w hSw; (try dsimp only at hSw); go_simp; try with_reducible rfl)⟩
      try simp only [Act.put, List.setIfInBounds_toArray, List.set_cons_zero, List.set_cons_succ]
      refine wpE_take (i := 12) (oi := ?oi13) (v := ?v13) ?hi13 (by kernel_rfl) (by kernel_rfl) (by kernel_rfl) (by kernel_rfl) ?hQ13 ?hy13 (by assumption) ?rest13
      case hi13 => (simp only [List.getElem?_toArray, List.getElem?_cons_succ, List.getElem?_cons_zero]; rfl)
      case hQ13 => exact fun _ _ _ h => h
      case hy13 => exact Or.inl ⟨by rfl, by (intro w hSw; (try dsimp only at hSw); go_simp; try with_reducible rfl)⟩
      try simp only [Act.put, List.setIfInBounds_toArray, List.set_cons_zero, List.set_cons_succ]
      refine wpE_take (i := 13) (oi := ?oi14) (v := ?v14) ?hi14 (by kernel_rfl) (by kernel_rfl) (by kernel_rfl) (by kernel_rfl) ?hQ14 ?hy14 (by assumption) ?rest14
      case hi14 => (simp only [List.getElem?_toArray, List.getElem?_cons_succ, List.getElem?_cons_zero]; rfl)
      case hQ14 => exact fun _ _ _ h => h
      case hy14 => exact Or.inl ⟨by rfl, by (intro w hSw; (try dsimp only at hSw); go_simp; try with_reducible rfl)⟩
      try simp only [Act.put, List.setIfInBounds_toArray, List.set_cons_zero, List.set_cons_succ]
      refine wpE_take (i := 14) (oi := ?oi15) (v := ?v15) ?hi15 (by kernel_rfl) (by kernel_rfl) (by kernel_rfl) (by kernel_rfl) ?hQ15 ?hy15 (by assumption) ?rest15
      case hi15 => (simp only [List.getElem?_toArray, List.getElem?_cons_succ, List.getElem?_cons_zero]; rfl)
      case hQ15 => exact fun _ _ _ h => h
      case hy15 => exact Or.inl ⟨by rfl, by (intro w hSw; (try dsimp only at hSw); go_simp; try with_reducible rfl)⟩
      try simp only [Act.put, List.setIfInBounds_toArray, List.set_cons_zero, List.set_cons_succ]
      refine wpE_take (i := 15) (oi := ?oi16) (v := ?v16) ?hi16 (by kernel_rfl) (by kernel_rfl) (by kernel_rfl) (by kernel_rfl) ?hQ16 ?hy16 (by assumption) ?rest16
      case hi16 => (simp only [List.getElem?_toArray, List.getElem?_cons_succ, List.getElem?_cons_zero]; rfl)
      case hQ16 => exact fun _ _ _ h => h
      case hy16 => exact Or.inl ⟨by rfl, by (intro w hSw; (try dsimp only at hSw); go_simp; try with_reducible rfl)⟩
      try simp only [Act.put, List.setIfInBounds_toArray, List.set_cons_zero, List.set_cons_succ]
      refine wpE_take (i := 16) (oi := ?oi17) (v := ?v17) ?hi17 (by kernel_rfl) (by kernel_rfl) (by kernel_rfl) (by kernel_rfl) ?hQ17 ?hy17 (by assumption) ?rest17
      case hi17 => (simp only [List.getElem?_toArray, List.getElem?_cons_succ, List.getElem?_cons_zero]; rfl)
      case hQ17 => exact fun _ _ _ h => h
      case hy17 => exact Or.inl ⟨by rfl, by (intro w hSw; (try dsimp only at hSw); go_simp; try with_reducible rfl)⟩
      try simp only [Act.put, List.setIfInBounds_toArray, List.set_cons_zero, List.set_cons_succ]
      refine wpE_one (i := 17) (o := ?o19) ?ho19 (by kernel_rfl) (fun K hK => ?_)
      case ho19 => (simp only [List.getElem?_toArray, List.getElem?_cons_succ, List.getElem?_cons_zero]; rfl)
      go_simp
      refine hK.out _ _ ⟨(HBA.out.cell (p := ⟨pb, 1, none⟩) hplt).trans c1, (HBA.out.cell (p := ⟨qb, n, none⟩) hqlt).trans cq⟩ (fun hHeld => ?_)
      clear hK K
      refine wpE_one (i := 18) (o := ?o20) ?ho20 (by kernel_rfl) (fun K hK => ?_)
      case ho20 => (simp only [List.getElem?_toArray, List.getElem?_cons_succ, List.getElem?_cons_zero]; rfl)
      refine step_append_docs (by rfl) (.tmp 64) (.tmp 70) (by rfl) B a c L.length 1 L rfl (by rfl) HOW.out wu.heap.size 0 1 [⟨j, id, qty, top⟩] rfl (by rfl) HRD.out (.inr Nat.one_pos) (L.length + 1) rfl (by omega) (by rw [HSZ.out]; omega) ?_
      intro g1 cap1 w3 hr3 hgr3 hat3
      have c13 : w3.cell? ⟨pb, 1, none⟩ = some (.slice (some ⟨qb, 0, none⟩) A.length qk) := ((grown_keeps hgr3).cell ⟨pb, 1, none⟩ (by rw [HSZ.out]; show pb < _; omega) (fun hx => (HLT.out _ hx).1 rfl)).trans ((HBA.out.cell (p := ⟨pb, 1, none⟩) hplt).trans c1)
      have cq3 : w3.cell? ⟨qb, n, none⟩ = some (.slice a L.length c) := ((grown_keeps hgr3).cell ⟨qb, n, none⟩ (by rw [HSZ.out]; show qb < _; omega) (fun hx => (HLT.out _ hx).2.1 rfl)).trans ((HBA.out.cell (p := ⟨qb, n, none⟩) hqlt).trans cq)
      have fq3 : w3.frozen? ⟨qb, n, none⟩ = false := ((grown_keeps hgr3).frozen ⟨qb, n, none⟩ (by rw [HSZ.out]; show qb < _; omega) (fun hx => (HLT.out _ hx).2.1 rfl)).trans ((HBA.out.frozen (p := ⟨qb, n, none⟩) hqlt).trans fq)
      have HR3 := Lib.hid hr3
      have HGR := Lib.hid hgr3
      have HAT := Lib.hid hat3
      clear hr3 hgr3 hat3
      refine hK.out _ _ ⟨c13, cq3⟩ (fun hHeld => ?_)
      clear hK K
      refine wpE_take (i := 19) (oi := ?oi18) (v := ?v18) ?hi18 (by kernel_rfl) (by kernel_rfl) (by kernel_rfl) (by kernel_rfl) ?hQ18 ?hy18 (by assumption) ?rest18
      case hi18 => (simp only [List.getElem?_toArray, List.getElem?_cons_succ, List.getElem?_cons_zero]; rfl)
      case hQ18 => exact fun _ _ _ h => h
      case hy18 => exact Or.inl ⟨by rfl, by (intro w hSw; (try dsimp only at hSw); go_simp; try with_reducible rfl)⟩
      try simp only [Act.put, List.setIfInBounds_toArray, List.set_cons_zero, List.set_cons_succ]
      refine wpE_last (i := 20) (o := ?o21) ?ho21 (by kernel_rfl) (by kernel_rfl) (by kernel_rfl) (fun K hK => ?_)
      case ho21 => (simp only [List.getElem?_toArray, List.getElem?_cons_succ, List.getElem?_cons_zero]; rfl)
      go_simp
      refine hK.out _ _ ?_
      clear hK K
      all_goals
        go_wp2_with fail
        go_ret2
        have hl : (L ++ [(⟨j, id, qty, top⟩ : Ent)]).length = L.length + 1 := by simp
        have hU2 := HUA.out.below HBA.out
        have hr2 : (Value.slice a L.length c).ownBlock = none ∨ (Value.slice a L.length c).ownBlock = (vd A V n).ownBlock ∨ ∃ x, (Value.slice a L.length c).ownBlock = some x ∧ (wu.alloc (.cells #[.int .i64 j, .int .i64 id, .int .i64 qty, .bool top] 77)).drew.heap.size ≤ x := .inr (.inl (by rw [HV.out]))
        refine ⟨rfl, ⟨upd V n (some ⟨g1, 0, none⟩, cap1), ?_⟩, ?_⟩
        · have h0 := HR3.out
          rw [← hl] at h0
          have := hU2.row_new hn HGR.out hr2 h0 (by
            rcases HAT.out with h1 | h1
            · exact .inl (by rw [HV.out, h1]; rfl)
            · exact .inr (.inr ⟨g1, rfl, by omega⟩))
          rw [hl] at this
          exact this
        · exact HKU.out.trans ((Below.keeps HBA.out).trans (hU2.row_keeps hn HGR.out hr2 _))
end
end Go.Proofs.Ytbpmoomklknkkaa
