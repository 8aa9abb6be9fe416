/- The walk of cornhillref9.Best; appends onto a row as steps of a region that draws. -/
import Derived.Test.YtmhljdkhekjfmaaR93
import Derived.Deep.RegionHeld3
namespace Go.Proofs.Ytmhljdkhekjfmaa
open Go.RowKit

section
variable {W w w' : World} {pw : Nat} {L : List Od}
set_option maxHeartbeats 4000000 in
theorem best_ref (h : RB W w pw L) (hl : L.length ≤ 250) (hq : ∀ o ∈ L, 1 ≤ o.qty ∧ o.qty ≤ 1000000) (side : Int) :
    Calls Try.prog 40 #[.pointer (some ⟨pw, 0, none⟩), .int .i64 side] w fun e w' => e = .returned (.tuple #[.agg (bestO L side).1.cells.toArray, .bool (bestO L side).2]) ∧ Below w.heap.size w w' := by
  have HBL := Lib.hid (Below.allocN w (.cells #[.int .i64 0, .int .i64 0, .int .i64 0] 93))
  have H1 := Lib.hid (h.below HBL.out)
  have HQ := Lib.hid hq
  have HLV : Hid (Blk (w.alloc (.cells #[.int .i64 0, .int .i64 0, .int .i64 0] 93)) w.heap.size 93 #[.int .i64 0, .int .i64 0, .int .i64 0]) := Lib.hid (Blk.new _ _ _)
  clear h hq
  cases hf : ladO L side with
  | nil =>
    have HE : Hid (bestO L side = (zeroLv, false)) := Lib.hid (by unfold bestO; rw [hf])
    have HLA := Lib.hid hf
    clear hf
    go_enter Try.func40, Try.ntmps40
    go_upto_region 1 with (fail)
    obtain ⟨gl, hgl⟩ : ∃ gl, w.heap.size = gl := ⟨_, rfl⟩
    have HGE : Hid (w.heap.size ≤ gl) := Lib.hid (by omega)
    replace HLV : Hid (Blk (w.alloc (.cells #[.int .i64 0, .int .i64 0, .int .i64 0] 93)) gl 93 #[.int .i64 0, .int .i64 0, .int .i64 0]) := Lib.hid (by rw [← hgl]; exact HLV.out)
    rw [hgl]
    clear hgl
    generalize w.alloc (.cells #[.int .i64 0, .int .i64 0, .int .i64 0] 93) = w0 at *
    have hla := ladder_ref H1.out hl HQ.out side
    rw [HLA.out] at hla
    go_wp2_with fail
    refine hla.mono ?_
    rintro e w1 ⟨v, rfl, hr, hb⟩
    replace HLV := Lib.hid (HLV.out.below hb)
    replace HBL := Lib.hid (HBL.out.trans (hb.mono HBL.out.size))
    obtain ⟨ra, rc, rfl, _, hrd⟩ := hr.rd
    clear hla hr hb
    clear hrd
    have l0 : w1.cell? ⟨gl, 0, none⟩ = some (.int .i64 0) := HLV.out.cell 0
    have l1 : w1.cell? ⟨gl, 1, none⟩ = some (.int .i64 0) := HLV.out.cell 1
    have l2 : w1.cell? ⟨gl, 2, none⟩ = some (.int .i64 0) := HLV.out.cell 2
    have fz : ∀ o, w1.frozen? ⟨gl, o, none⟩ = false := fun o => HLV.out.frozen o
    go_wp2_with fail
    clear l0 l1 l2 fz
    have hz := ((HLV.out.set_ 0 (.int .i64 0)).set_ 1 (.int .i64 0)).set_ 2 (.int .i64 0)
    have hbz := ((HBL.out.setCell (p := ⟨gl, 0, none⟩) HGE.out (.int .i64 0)).setCell (p := ⟨gl, 1, none⟩) HGE.out (.int .i64 0)).setCell (p := ⟨gl, 2, none⟩) HGE.out (.int .i64 0)
    generalize ((w1.setCell ⟨gl, 0, none⟩ (.int .i64 0)).setCell ⟨gl, 1, none⟩ (.int .i64 0)).setCell ⟨gl, 2, none⟩ (.int .i64 0) = wz at *
    have k0 : wz.cell? ⟨gl, 0, none⟩ = some (.int .i64 0) := hz.cell 0
    have k1 : wz.cell? ⟨gl, 1, none⟩ = some (.int .i64 0) := hz.cell 1
    have k2 : wz.cell? ⟨gl, 2, none⟩ = some (.int .i64 0) := hz.cell 2
    refine bodyPost_ret (v := .tuple #[.agg #[.int .i64 0, .int .i64 0, .int .i64 0], .bool false]) (by simp [results, Try.results40, go_sem, k0, k1, k2]) rfl ⟨by rw [HE.out]; rfl, hbz⟩
  | cons v M =>
    have HE : Hid (bestO L side = (v, true)) := Lib.hid (by unfold bestO; rw [hf])
    have HLA := Lib.hid hf
    clear hf
    obtain ⟨v0, v1, v2⟩ := v
    go_enter Try.func40, Try.ntmps40
    go_upto_region 1 with (fail)
    obtain ⟨gl, hgl⟩ : ∃ gl, w.heap.size = gl := ⟨_, rfl⟩
    have HGE : Hid (w.heap.size ≤ gl) := Lib.hid (by omega)
    replace HLV : Hid (Blk (w.alloc (.cells #[.int .i64 0, .int .i64 0, .int .i64 0] 93)) gl 93 #[.int .i64 0, .int .i64 0, .int .i64 0]) := Lib.hid (by rw [← hgl]; exact HLV.out)
    rw [hgl]
    clear hgl
    generalize w.alloc (.cells #[.int .i64 0, .int .i64 0, .int .i64 0] 93) = w0 at *
    have hla := ladder_ref H1.out hl HQ.out side
    rw [HLA.out] at hla
    go_wp2_with fail
    refine hla.mono ?_
    rintro e w1 ⟨v, rfl, hr, hb⟩
    replace HLV := Lib.hid (HLV.out.below hb)
    replace HBL := Lib.hid (HBL.out.trans (hb.mono HBL.out.size))
    obtain ⟨ra, rc, rfl, _, hrd⟩ := hr.rd
    clear hla hr hb
    obtain ⟨g, off, rfl, _, hc⟩ := hrd 0 _ rfl
    rw [Nat.zero_mul, Nat.add_zero] at hc
    have c0 : w1.cell? ⟨g, off, none⟩ = some (.int .i64 v0) := hc 0 _ rfl
    have c1 : w1.cell? ⟨g, off + 1, none⟩ = some (.int .i64 v1) := hc 1 _ rfl
    have c2 : w1.cell? ⟨g, off + 2, none⟩ = some (.int .i64 v2) := hc 2 _ rfl
    rw [List.length_cons]
    have hn0 : ¬ ((M.length + 1 : Nat) : Int) = 0 := by omega
    have hn1 : (((M.length + 1 : Nat) : Int) == 0) = false := by rw [beq_eq_false_iff_ne]; exact hn0
    have hn2 : ((M.length : Int) + 1 == 0) = false := by rw [beq_eq_false_iff_ne]; omega
    have hn3 : (0 : Int) < (M.length : Int) + 1 := by omega
    clear hc hrd
    have l0 : w1.cell? ⟨gl, 0, none⟩ = some (.int .i64 0) := HLV.out.cell 0
    have l1 : w1.cell? ⟨gl, 1, none⟩ = some (.int .i64 0) := HLV.out.cell 1
    have l2 : w1.cell? ⟨gl, 2, none⟩ = some (.int .i64 0) := HLV.out.cell 2
    have fz : ∀ o, w1.frozen? ⟨gl, o, none⟩ = false := fun o => HLV.out.frozen o
    go_wp2_with fail
    clear l0 l1 l2 fz c0 c1 c2 hn0 hn1 hn2 hn3
    have hz := ((HLV.out.set_ 0 (.int .i64 v0)).set_ 1 (.int .i64 v1)).set_ 2 (.int .i64 v2)
    have hbz := ((HBL.out.setCell (p := ⟨gl, 0, none⟩) HGE.out (.int .i64 v0)).setCell (p := ⟨gl, 1, none⟩) HGE.out (.int .i64 v1)).setCell (p := ⟨gl, 2, none⟩) HGE.out (.int .i64 v2)
    generalize ((w1.setCell ⟨gl, 0, none⟩ (.int .i64 v0)).setCell ⟨gl, 1, none⟩ (.int .i64 v1)).setCell ⟨gl, 2, none⟩ (.int .i64 v2) = wz at *
    have k0 : wz.cell? ⟨gl, 0, none⟩ = some (.int .i64 v0) := hz.cell 0
    have k1 : wz.cell? ⟨gl, 1, none⟩ = some (.int .i64 v1) := hz.cell 1
    have k2 : wz.cell? ⟨gl, 2, none⟩ = some (.int .i64 v2) := hz.cell 2
    refine bodyPost_ret (v := .tuple #[.agg #[.int .i64 v0, .int .i64 v1, .int .i64 v2], .bool true]) (by simp [results, Try.results40, go_sem, k0, k1, k2]) rfl ⟨by rw [HE.out]; rfl, hbz⟩
end
theorem Lay.Row.some_of {α : Type} {Y : Lay α} {w : World} {B : Nat} {v : Value} {L : List α} (h : Y.Row w B v L) (hv : v.ownBlock ≠ none) : ∃ g cap cur, v = .slice (some ⟨g, 0, none⟩) L.length cap ∧ B ≤ g ∧ Blk w g Y.t cur := by
  rcases h.2 with ⟨rfl, h0⟩ | ⟨g, cap, cur, hv, hb, hh, _⟩
  · exact absurd rfl hv
  · exact ⟨g, cap, cur, hv, hb, hh⟩
/-- append of many that are read, as a step of a region that draws its order -/
theorem Lay.steps {α : Type} (Y : Lay α) {w : World} {ops : Array Oper} {o : Oper} {a : Act} {K : Act → World → Prop} {Q : Exit → Act → World → Prop} {E : Prop} (hgd : o.guard = none) (s x : Operand)
    (ho : o.op = .call { callee := .builtin .append, args := #[s, x], argTypes := #[Y.ts, Y.ts] })
    (B g0 c0 n m : Nat) (L : List α) (hn : L.length = n) (hs : a.eval s = .slice (some ⟨g0, 0, none⟩) n c0) (hown : Y.Row w B (.slice (some ⟨g0, 0, none⟩) n c0) L)
    (b off c : Nat) (M : List α) (hm : M.length = m) (hx : a.eval x = .slice (some ⟨b, off, none⟩) m c) (hr : Y.Rd w (some ⟨b, off, none⟩) M)
    (nm : Nat) (hnm : n + m = nm) (hle : n + m ≤ 1000000) (hbase : B ≤ w.heap.size)
    (h : ∀ g cap w', Y.Row w' B (.slice (some ⟨g, 0, none⟩) nm cap) (L ++ M) → w.grownBy w' (some g0) → (g = g0 ∨ g = w.heap.size) → K (a.put o.dst (.slice (some ⟨g, 0, none⟩) nm cap)) w') :
    if Region.wanted o (yielded ops a.tmps) = true then Oper.wp Try.prog o a w K Q else E := by
  subst hn
  subst hm
  subst hnm
  have hw : Region.wanted o (yielded ops a.tmps) = true := by simp [Region.wanted, hgd]
  rw [if_pos hw]
  obtain ⟨v', w', hrun, h2, h3, h5⟩ := Y.run_append o.type hown ⟨b, off, none⟩ c M ⟨b, off, rfl⟩ hr hle hbase
  obtain ⟨g, cap, cur, rfl, _, _⟩ := h2.some_of (by
    rcases h5 with h5 | h5
    · rw [h5]; simp [Value.ownBlock]
    · rw [h5]; simp)
  unfold Oper.wp execOp
  simp only [ho, resolve, invoke, builtin, Sem.run_bind, Sem.run_pure, Result.andThen_ok, List.map_toArray, List.map_cons, List.map_nil, hs, hx, hrun]
  rw [List.length_append] at h2 ⊢
  refine h g cap w' h2 h3 ?_
  rcases h5 with h5 | h5
  · have h6 : some g = some g0 := h5
    injection h6 with h6
    exact .inl h6
  · have h6 : some g = some w.heap.size := h5
    injection h6 with h6
    exact .inr h6
end Go.Proofs.Ytmhljdkhekjfmaa
