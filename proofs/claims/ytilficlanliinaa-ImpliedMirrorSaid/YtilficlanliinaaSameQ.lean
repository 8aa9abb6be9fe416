/- A store into a row of one's own; a leg against a leg; the walk of cornhillbook.Same of two equal rows of quotes. -/
import Derived.Test.YtilficlanliinaaBestW
import Derived.Test.YtilficlanliinaaQEq
import Derived.BigQuiet
namespace Go.Proofs.Ytilficlanliinaa
open Go.RowKit

section
variable {α : Type} {Y : Lay α} {w w' : World} {B : Nat} {v : Value} {L : List α}
theorem Lay.Row.blk (h : Y.Row w B v L) (hL : L ≠ []) : ∃ g cap cur, v = .slice (some ⟨g, 0, none⟩) L.length cap ∧ B ≤ g ∧ Blk w g Y.t cur := by
  rcases h.2 with ⟨_, h0⟩ | ⟨g, cap, cur, hv, hb, hh, _⟩
  · exact absurd (List.length_eq_zero_iff.1 h0) hL
  · exact ⟨g, cap, cur, hv, hb, hh⟩
theorem Lay.Row.set_ {g n cap j k : Nat} (h : Y.Row w B (.slice (some ⟨g, 0, none⟩) n cap) L) {e e' : α} {u : Value} (hj : L[j]? = some e) (hk : k < Y.m) (he : Y.cells e' = (Y.cells e).set k u) : Y.Row (w.setCell ⟨g, j * Y.m + k, none⟩ u) B (.slice (some ⟨g, 0, none⟩) n cap) (L.set j e') := by
  have hjl := lt_of_get hj
  obtain ⟨_, hje⟩ := get_of hj
  have hfm := fm_set Y.cells Y.m Y.len u e' L j k hjl hk (by rw [hje]; exact he)
  obtain ⟨h1, h2⟩ := h
  rcases h2 with ⟨hv, _⟩ | ⟨g', cap', cur, hv, hb, hh, r1, r2, r3, r4⟩
  · injection hv with hv; cases hv
  · injection hv with hv hn hc
    injection hv with hv
    injection hv with hv
    subst hv; subst hn; subst hc
    have hb2 : Blk w g Y.t cur := hh
    refine ⟨by rw [← hfm, List.length_set, List.length_set]; exact h1, .inr ⟨g, cap, cur.setIfInBounds (j * Y.m + k) u, by rw [List.length_set], hb, hb2.set_ _ u, by rw [List.length_set]; exact r1, r2, by rw [Array.size_setIfInBounds]; exact r3, ?_⟩⟩
    rw [Array.toList_setIfInBounds, List.take_set, List.length_set, r4, hfm]
theorem Lay.Row.rd_some {g n cap : Nat} (h : Y.Row w B (.slice (some ⟨g, 0, none⟩) n cap) L) : Y.Rd w (some ⟨g, 0, none⟩) L := by
  obtain ⟨a, c, hv, _, hr⟩ := h.rd
  injection hv with hv
  rw [hv]; exact hr
end
theorem leg_eq (d : Nat) (a b c e : Int) (w : World) : (Op.equalIn (d + 2) 35 (.agg #[.int .i64 a, .int .i64 b]) (.agg #[.int .i64 c, .int .i64 e])).run Try.prog w = .ok (decide (a = c) && decide (b = e)) w := by
  by_cases h1 : a = c
  · subst h1
    by_cases h2 : b = e
    · subst h2
      rw [leg_self]; simp
    · have h2' : (b == e) = false := by rw [beq_eq_false_iff_ne]; exact h2
      go_simp
  · have h1' : (a == c) = false := by rw [beq_eq_false_iff_ne]; exact h1
    go_simp
set_option maxRecDepth 100000 in
set_option maxHeartbeats 4000000 in
theorem same_any (Q : List Qt) (aa : Option Addr) (ac : Nat) (ba : Option Addr) (bc : Nat) (w : World) (hA : QT.Rd w aa Q) (hB : QT.Rd w ba Q) (hl : Q.length ≤ 1000000) :
    Calls Try.prog 18 #[.slice aa Q.length ac, .slice ba Q.length bc] w fun e w' => e = .returned (.bool true) ∧ Below w.heap.size w w' := by
  have HA := Lib.hid hA
  have HB := Lib.hid hB
  have HW := Lib.hid (Below.refl w.heap.size w)
  clear hA hB
  go_enter Try.func18, Try.ntmps18
  go_wp2_with fail
  go_loopw [5] (fun j w' => ∃ i : Nat, j = .int .i64 i ∧ i ≤ Q.length ∧ Below w.heap.size w w') (fun j _ => Q.length - (intOf j).toNat)
  case atStart => exact ⟨0, rfl, Nat.zero_le _, HW.out⟩
  case round =>
    obtain ⟨i, rfl, hi, hb⟩ := hrel
    obtain ⟨wy, rfl⟩ : ∃ wo : World, wo = wr := ⟨_, rfl⟩
    have HBL := Lib.hid hb
    clear hb
    by_cases hin : i < Q.length
    · have hin' : (i : Int) < (Q.length : Int) := by omega
      obtain ⟨q, hq⟩ : ∃ q, Q[i]? = some q := ⟨_, List.getElem?_eq_getElem hin⟩
      obtain ⟨ga, oa, rfl, hga, hca⟩ := HA.out.below HBL.out i q hq
      obtain ⟨gb, ob, rfl, hgb, hcb⟩ := HB.out.below HBL.out i q hq
      have a0 : wy.cell? ⟨ga, oa + i * 6, none⟩ = some (.int .i64 q.price) := hca 0 _ rfl
      have a1 : wy.cell? ⟨ga, oa + i * 6 + 1, none⟩ = some (.int .i64 q.qty) := hca 1 _ rfl
      have a2 : wy.cell? ⟨ga, oa + i * 6 + 2, none⟩ = some (.int .i64 q.i0) := hca 2 _ rfl
      have a3 : wy.cell? ⟨ga, oa + i * 6 + 3, none⟩ = some (.int .i64 q.s0) := hca 3 _ rfl
      have a4 : wy.cell? ⟨ga, oa + i * 6 + 4, none⟩ = some (.int .i64 q.i1) := hca 4 _ rfl
      have a5 : wy.cell? ⟨ga, oa + i * 6 + 5, none⟩ = some (.int .i64 q.s1) := hca 5 _ rfl
      have b0 : wy.cell? ⟨gb, ob + i * 6, none⟩ = some (.int .i64 q.price) := hcb 0 _ rfl
      have b1 : wy.cell? ⟨gb, ob + i * 6 + 1, none⟩ = some (.int .i64 q.qty) := hcb 1 _ rfl
      have b2 : wy.cell? ⟨gb, ob + i * 6 + 2, none⟩ = some (.int .i64 q.i0) := hcb 2 _ rfl
      have b3 : wy.cell? ⟨gb, ob + i * 6 + 3, none⟩ = some (.int .i64 q.s0) := hcb 3 _ rfl
      have b4 : wy.cell? ⟨gb, ob + i * 6 + 4, none⟩ = some (.int .i64 q.i1) := hcb 4 _ rfl
      have b5 : wy.cell? ⟨gb, ob + i * 6 + 5, none⟩ = some (.int .i64 q.s1) := hcb 5 _ rfl
      clear hga hgb hca hcb hq HA HB
      have hlegs := legs_self
      go_upto_region 6 with (fail)
      go_quiet (fail)
      clear a0 a1 a2 a3 a4 a5 b0 b1 b2 b3 b4 b5
      go_wp2_with fail
      go_roundw
      case rel => exact ⟨i + 1, by go_num, by omega, HBL.out.trans ((Below.drewN_of _ _).mono HBL.out.size)⟩
      case measure => simp [intOf]; omega
    · go_wp2_with fail
      go_ret
      exact ⟨by trivial, HBL.out⟩
end Go.Proofs.Ytilficlanliinaa
