/- The document's book in memory; the walks of cornhillref9.Better, find, Find, At. -/
import Derived.Test.YtmhljdkhekjfmaaMir9
import Derived.BigQuiet
namespace Go.Proofs.Ytmhljdkhekjfmaa
open Go.RowKit

def ROD : Lay Od := ⟨Od.cells, 5, fun _ => rfl, Od.ones, by omega, 89, 48, .agg zeroOd.cells.toArray, 40, Try.underlying48, by kernel_rfl, by rfl, by omega⟩
def RLV : Lay Lv := ⟨Lv.cells, 3, fun _ => rfl, Lv.ones, by omega, 93, 97, .agg zeroLv.cells.toArray, 24, Try.underlying97, by kernel_rfl, by rfl, by omega⟩
section
variable {α : Type} {Y : Lay α} {w w' : World} {B : Nat} {v : Value} {L : List α}
theorem Lay.Row.blk (h : Y.Row w B v L) (hL : L ≠ []) : ∃ g cap cur, v = .slice (some ⟨g, 0, none⟩) L.length cap ∧ B ≤ g ∧ Blk w g Y.t cur := by
  rcases h.2 with ⟨_, h0⟩ | ⟨g, cap, cur, hv, hb, hh, _⟩
  · exact absurd (List.length_eq_zero_iff.1 h0) hL
  · exact ⟨g, cap, cur, hv, hb, hh⟩
theorem Lay.Row.set_ {g n cap j k : Nat} (h : Y.Row w B (.slice (some ⟨g, 0, none⟩) n cap) L) {e e' : α} {u : Value} (hj : L[j]? = some e) (hk : k < Y.m) (he : Y.cells e' = (Y.cells e).set k u) : Y.Row (w.setCell ⟨g, j * Y.m + k, none⟩ u) B (.slice (some ⟨g, 0, none⟩) n cap) (L.set j e') := by
  have hjl := lt_of_get hj
  obtain ⟨_, hje⟩ := get_of hj
  have hfm := fm_set Y.cells Y.m Y.len u e' L j k hjl hk (by rw [hje]; exact he)
  obtain ⟨h1, h2⟩ := h
  rcases h2 with ⟨hv, _⟩ | ⟨g', cap', cur, hv, hb, hh, r1, r2, r3, r4⟩
  · injection hv with hv; cases hv
  · injection hv with hv hn hc
    injection hv with hv
    injection hv with hv
    subst hv; subst hn; subst hc
    have hb2 : Blk w g Y.t cur := hh
    refine ⟨by rw [← hfm, List.length_set, List.length_set]; exact h1, .inr ⟨g, cap, cur.setIfInBounds (j * Y.m + k) u, by rw [List.length_set], hb, hb2.set_ _ u, by rw [List.length_set]; exact r1, r2, by rw [Array.size_setIfInBounds]; exact r3, ?_⟩⟩
    rw [Array.toList_setIfInBounds, List.take_set, List.length_set, r4, hfm]
theorem Lay.Row.rd_some {g n cap : Nat} (h : Y.Row w B (.slice (some ⟨g, 0, none⟩) n cap) L) : Y.Rd w (some ⟨g, 0, none⟩) L := by
  obtain ⟨a, c, hv, _, hr⟩ := h.rd
  injection hv with hv
  rw [hv]; exact hr
/-- the front of a row -/
theorem Lay.Row.front {g n cap : Nat} (h : Y.Row w B (.slice (some ⟨g, 0, none⟩) n cap) L) {k : Nat} (hk : k ≤ L.length) : Y.Row w B (.slice (some ⟨g, 0, none⟩) k cap) (L.take k) := by
  obtain ⟨h1, h2⟩ := h
  rcases h2 with ⟨hv, _⟩ | ⟨g', cap', cur, hv, hb, hh, r1, r2, r3, r4⟩
  · injection hv with hv; cases hv
  · injection hv with hv hn hc
    injection hv with hv
    injection hv with hv
    subst hv; subst hn; subst hc
    have hl : (L.take k).length = k := by rw [List.length_take]; omega
    have hf : (L.take k).flatMap Y.cells = (L.flatMap Y.cells).take (k * Y.m) := by
      have e1 : L.flatMap Y.cells = (L.take k).flatMap Y.cells ++ (L.drop k).flatMap Y.cells := by rw [← List.flatMap_append, List.take_append_drop]
      have e2 : ((L.take k).flatMap Y.cells).length = k * Y.m := by rw [fm_length Y.cells Y.m Y.len, hl]
      rw [e1, List.take_left' e2]
    refine ⟨by rw [hf, List.length_take, hl, h1]; exact Nat.min_eq_left (Nat.mul_le_mul_right _ hk), .inr ⟨g, cap, cur, by rw [hl], hb, hh, by rw [hl]; omega, r2, r3, ?_⟩⟩
    rw [hl, hf, ← r4, List.take_take, Nat.min_eq_left (Nat.mul_le_mul_right _ hk)]
end
structure RB (W w : World) (pw : Nat) (L : List Od) : Prop where
  box : ∃ a c, Blk w pw 50 #[.slice a L.length c] ∧ ROD.Row w W.heap.size (.slice a L.length c) L
  base : W.heap.size ≤ pw
  bel : Below W.heap.size W w
section
variable {W w w' : World} {pw : Nat} {L : List Od}
theorem RB.below (h : RB W w pw L) (hb : Below w.heap.size w w') : RB W w' pw L := by
  obtain ⟨⟨a, c, h1, h2⟩, h3, h4⟩ := h
  exact ⟨⟨a, c, h1.below hb, h2.below hb⟩, h3, h4.trans (hb.mono h4.size)⟩
set_option maxHeartbeats 1000000 in
theorem better_ref (side x y : Int) (w : World) :
    Calls Try.prog 58 #[.int .i64 side, .int .i64 x, .int .i64 y] w fun e w' => e = .returned (.bool (betterP side x y)) ∧ w = w' := by
  unfold betterP
  by_cases h : side = 1
  · subst h
    go_enter Try.func58, Try.ntmps58
    go_wp2_with fail
    go_ret
    exact ⟨by trivial, by trivial⟩
  · have hb : (side == 1) = false := by rw [beq_eq_false_iff_ne]; exact h
    rw [if_neg h]
    go_enter Try.func58, Try.ntmps58
    go_wp2_with fail
    go_ret
    exact ⟨by trivial, by trivial⟩
set_option maxHeartbeats 4000000 in
theorem find_ref (h : RB W w pw L) (hl : L.length ≤ 250) (id : Int) :
    Calls Try.prog 57 #[.pointer (some ⟨pw, 0, none⟩), .int .i64 id] w fun e w' => (∃ r, e = .returned (.int .i64 r) ∧ ((r = -1 ∧ L.find? (fun o => o.id == id) = none) ∨ ∃ (k : Nat) (o : Od), r = k ∧ L[k]? = some o ∧ o.id = id ∧ L.find? (fun o => o.id == id) = some o)) ∧ w = w' := by
  obtain ⟨a, c, hb, hr⟩ := h.box
  obtain ⟨a', c', he, hac, hrd⟩ := hr.rd
  injection he with he1 _ he2
  subst he1 he2
  have BX : w.cell? ⟨pw, 0, none⟩ = some (.slice a L.length c) := hb.cell 0
  have R := Lib.hid hrd
  clear hb hr h hrd hac
  go_enter Try.func57, Try.ntmps57
  go_wp2_with fail
  go_loopw [5] (fun i w' => ∃ k : Nat, i = .int .i64 k ∧ k ≤ L.length ∧ (L.find? (fun o => o.id == id) = (L.drop k).find? (fun o => o.id == id)) ∧ w = w') (fun i _ => L.length - (intOf i).toNat)
  case atStart => exact ⟨0, rfl, Nat.zero_le _, rfl, rfl⟩
  case round =>
    obtain ⟨k, rfl, hk, hf, rfl⟩ := hrel
    have HF := Lib.hid hf
    clear hf
    by_cases hlt : k < L.length
    · have hlt' : (k : Int) < (L.length : Int) := by omega
      obtain ⟨o, ho⟩ : ∃ o, L[k]? = some o := ⟨_, List.getElem?_eq_getElem hlt⟩
      obtain ⟨g, off, rfl, _, hc⟩ := R.out k o ho
      have hd : L.drop k = o :: L.drop (k + 1) := by
        obtain ⟨h1, h2⟩ := get_of ho
        rw [List.drop_eq_getElem_cons h1, h2]
      have HO := Lib.hid ho
      obtain ⟨oi, hoi⟩ : ∃ y, o.id = y := ⟨_, rfl⟩
      have c0 : w.cell? ⟨g, off + k * 5, none⟩ = some (.int .i64 oi) := hoi ▸ hc 0 _ rfl
      have HOI := Lib.hid hoi
      have HD := Lib.hid hd
      clear hc ho hoi hd
      by_cases he : oi = id
      · subst he
        go_wp2_with fail
        go_ret
        refine ⟨⟨_, by trivial, .inr ⟨k, o, rfl, HO.out, HOI.out, ?_⟩⟩, by trivial⟩
        rw [HF.out, HD.out, List.find?_cons_of_pos (by rw [HOI.out]; simp)]
      · have heb : (oi == id) = false := by rw [beq_eq_false_iff_ne]; exact he
        go_wp2_with fail
        go_roundw
        case rel => exact ⟨k + 1, by go_num, by omega, by rw [HF.out, HD.out, List.find?_cons_of_neg (by rw [HOI.out, heb]; simp)], by trivial⟩
        case measure => simp [intOf]; omega
    · go_wp2_with fail
      go_ret
      refine ⟨⟨_, by trivial, .inl ⟨by trivial, ?_⟩⟩, by trivial⟩
      rw [HF.out, List.drop_of_length_le (by omega)]
      rfl
set_option maxHeartbeats 4000000 in
theorem findo_ref (h : RB W w pw L) (hl : L.length ≤ 250) (id : Int) :
    Calls Try.prog 38 #[.pointer (some ⟨pw, 0, none⟩), .int .i64 id] w fun e w' => e = .returned (.tuple #[.agg (findO L id).1.cells.toArray, .bool (findO L id).2]) ∧ Below w.heap.size w w' := by
  have HBL := Lib.hid (Below.allocN w (.cells #[.int .i64 0, .int .i64 0, .int .i64 0, .int .i64 0, .bool false] 89))
  have H1 := Lib.hid (h.below HBL.out)
  have HLV : Hid (Blk (w.alloc (.cells #[.int .i64 0, .int .i64 0, .int .i64 0, .int .i64 0, .bool false] 89)) w.heap.size 89 #[.int .i64 0, .int .i64 0, .int .i64 0, .int .i64 0, .bool false]) := Lib.hid (Blk.new _ _ _)
  clear h
  cases hf : L.find? (fun o => o.id == id) with
  | none =>
    have HE : Hid (findO L id = (zeroOd, false)) := Lib.hid (by unfold findO; rw [hf])
    have HF := Lib.hid hf
    clear hf
    go_enter Try.func38, Try.ntmps38
    go_upto_region 1 with (fail)
    obtain ⟨gl, hgl⟩ : ∃ gl, w.heap.size = gl := ⟨_, rfl⟩
    have HGE : Hid (w.heap.size ≤ gl) := Lib.hid (by omega)
    replace HLV : Hid (Blk (w.alloc (.cells #[.int .i64 0, .int .i64 0, .int .i64 0, .int .i64 0, .bool false] 89)) gl 89 #[.int .i64 0, .int .i64 0, .int .i64 0, .int .i64 0, .bool false]) := Lib.hid (by rw [← hgl]; exact HLV.out)
    rw [hgl]
    clear hgl
    generalize w.alloc (.cells #[.int .i64 0, .int .i64 0, .int .i64 0, .int .i64 0, .bool false] 89) = w1 at *
    have hfr := find_ref H1.out hl id
    go_wp2_with fail
    refine hfr.mono ?_
    rintro e w2 ⟨⟨r, rfl, hr⟩, rfl⟩
    clear hfr
    obtain rfl : r = -1 := by
      rcases hr with ⟨rfl, _⟩ | ⟨k, o, _, _, _, h1⟩
      · rfl
      · rw [HF.out] at h1; cases h1
    clear hr
    have l0 : w1.cell? ⟨gl, 0, none⟩ = some (.int .i64 0) := HLV.out.cell 0
    have l1 : w1.cell? ⟨gl, 1, none⟩ = some (.int .i64 0) := HLV.out.cell 1
    have l2 : w1.cell? ⟨gl, 2, none⟩ = some (.int .i64 0) := HLV.out.cell 2
    have l3 : w1.cell? ⟨gl, 3, none⟩ = some (.int .i64 0) := HLV.out.cell 3
    have l4 : w1.cell? ⟨gl, 4, none⟩ = some (.bool false) := HLV.out.cell 4
    have fz : ∀ o, w1.frozen? ⟨gl, o, none⟩ = false := fun o => HLV.out.frozen o
    go_wp2_with fail
    clear l0 l1 l2 l3 l4 fz
    have hz := ((((HLV.out.set_ 0 (.int .i64 0)).set_ 1 (.int .i64 0)).set_ 2 (.int .i64 0)).set_ 3 (.int .i64 0)).set_ 4 (.bool false)
    have hbz := ((((HBL.out.setCell (p := ⟨gl, 0, none⟩) HGE.out (.int .i64 0)).setCell (p := ⟨gl, 1, none⟩) HGE.out (.int .i64 0)).setCell (p := ⟨gl, 2, none⟩) HGE.out (.int .i64 0)).setCell (p := ⟨gl, 3, none⟩) HGE.out (.int .i64 0)).setCell (p := ⟨gl, 4, none⟩) HGE.out (.bool false)
    generalize ((((w1.setCell ⟨gl, 0, none⟩ (.int .i64 0)).setCell ⟨gl, 1, none⟩ (.int .i64 0)).setCell ⟨gl, 2, none⟩ (.int .i64 0)).setCell ⟨gl, 3, none⟩ (.int .i64 0)).setCell ⟨gl, 4, none⟩ (.bool false) = wz at *
    have k0 : wz.cell? ⟨gl, 0, none⟩ = some (.int .i64 0) := hz.cell 0
    have k1 : wz.cell? ⟨gl, 1, none⟩ = some (.int .i64 0) := hz.cell 1
    have k2 : wz.cell? ⟨gl, 2, none⟩ = some (.int .i64 0) := hz.cell 2
    have k3 : wz.cell? ⟨gl, 3, none⟩ = some (.int .i64 0) := hz.cell 3
    have k4 : wz.cell? ⟨gl, 4, none⟩ = some (.bool false) := hz.cell 4
    refine bodyPost_ret (v := .tuple #[.agg #[.int .i64 0, .int .i64 0, .int .i64 0, .int .i64 0, .bool false], .bool false]) (by simp [results, Try.results38, go_sem, k0, k1, k2, k3, k4]) rfl ⟨by rw [HE.out]; rfl, hbz⟩
  | some o =>
    have HE : Hid (findO L id = (o, true)) := Lib.hid (by unfold findO; rw [hf])
    have HF := Lib.hid hf
    clear hf
    go_enter Try.func38, Try.ntmps38
    go_upto_region 1 with (fail)
    obtain ⟨gl, hgl⟩ : ∃ gl, w.heap.size = gl := ⟨_, rfl⟩
    have HGE : Hid (w.heap.size ≤ gl) := Lib.hid (by omega)
    replace HLV : Hid (Blk (w.alloc (.cells #[.int .i64 0, .int .i64 0, .int .i64 0, .int .i64 0, .bool false] 89)) gl 89 #[.int .i64 0, .int .i64 0, .int .i64 0, .int .i64 0, .bool false]) := Lib.hid (by rw [← hgl]; exact HLV.out)
    rw [hgl]
    clear hgl
    generalize w.alloc (.cells #[.int .i64 0, .int .i64 0, .int .i64 0, .int .i64 0, .bool false] 89) = w1 at *
    have hfr := find_ref H1.out hl id
    go_wp2_with fail
    refine hfr.mono ?_
    rintro e w2 ⟨⟨r, rfl, hr⟩, rfl⟩
    clear hfr
    obtain ⟨k, rfl, ho⟩ : ∃ k : Nat, r = k ∧ L[k]? = some o := by
      rcases hr with ⟨_, h1⟩ | ⟨k, o', rfl, h2, _, h1⟩
      · rw [HF.out] at h1; cases h1
      · rw [HF.out] at h1; injection h1 with h1; subst h1; exact ⟨k, rfl, h2⟩
    have hkl : (k : Int) < (L.length : Int) := by have := lt_of_get ho; omega
    obtain ⟨a, c, hb, hrw⟩ := H1.out.box
    obtain ⟨a', c', he, hac, hrd⟩ := hrw.rd
    injection he with he1 _ he2
    subst he1 he2
    obtain ⟨g, off, rfl, _, hc⟩ := hrd k o ho
    obtain ⟨f0, f1, f2, f3, f4⟩ := o
    have c0 : w1.cell? ⟨g, off + k * 5, none⟩ = some (.int .i64 f0) := hc 0 _ rfl
    have c1 : w1.cell? ⟨g, off + k * 5 + 1, none⟩ = some (.int .i64 f1) := hc 1 _ rfl
    have c2 : w1.cell? ⟨g, off + k * 5 + 2, none⟩ = some (.int .i64 f2) := hc 2 _ rfl
    have c3 : w1.cell? ⟨g, off + k * 5 + 3, none⟩ = some (.int .i64 f3) := hc 3 _ rfl
    have c4 : w1.cell? ⟨g, off + k * 5 + 4, none⟩ = some (.bool f4) := hc 4 _ rfl
    have BX : w1.cell? ⟨pw, 0, none⟩ = some (.slice (some ⟨g, off, none⟩) L.length c) := hb.cell 0
    clear hc hb hrw hrd ho hr
    have l0 : w1.cell? ⟨gl, 0, none⟩ = some (.int .i64 0) := HLV.out.cell 0
    have l1 : w1.cell? ⟨gl, 1, none⟩ = some (.int .i64 0) := HLV.out.cell 1
    have l2 : w1.cell? ⟨gl, 2, none⟩ = some (.int .i64 0) := HLV.out.cell 2
    have l3 : w1.cell? ⟨gl, 3, none⟩ = some (.int .i64 0) := HLV.out.cell 3
    have l4 : w1.cell? ⟨gl, 4, none⟩ = some (.bool false) := HLV.out.cell 4
    have fz : ∀ o, w1.frozen? ⟨gl, o, none⟩ = false := fun o => HLV.out.frozen o
    go_wp2_with fail
    clear l0 l1 l2 l3 l4 fz c0 c1 c2 c3 c4 BX
    have hz := ((((HLV.out.set_ 0 (.int .i64 f0)).set_ 1 (.int .i64 f1)).set_ 2 (.int .i64 f2)).set_ 3 (.int .i64 f3)).set_ 4 (.bool f4)
    have hbz := ((((HBL.out.setCell (p := ⟨gl, 0, none⟩) HGE.out (.int .i64 f0)).setCell (p := ⟨gl, 1, none⟩) HGE.out (.int .i64 f1)).setCell (p := ⟨gl, 2, none⟩) HGE.out (.int .i64 f2)).setCell (p := ⟨gl, 3, none⟩) HGE.out (.int .i64 f3)).setCell (p := ⟨gl, 4, none⟩) HGE.out (.bool f4)
    generalize ((((w1.setCell ⟨gl, 0, none⟩ (.int .i64 f0)).setCell ⟨gl, 1, none⟩ (.int .i64 f1)).setCell ⟨gl, 2, none⟩ (.int .i64 f2)).setCell ⟨gl, 3, none⟩ (.int .i64 f3)).setCell ⟨gl, 4, none⟩ (.bool f4) = wz at *
    have k0 : wz.cell? ⟨gl, 0, none⟩ = some (.int .i64 f0) := hz.cell 0
    have k1 : wz.cell? ⟨gl, 1, none⟩ = some (.int .i64 f1) := hz.cell 1
    have k2 : wz.cell? ⟨gl, 2, none⟩ = some (.int .i64 f2) := hz.cell 2
    have k3 : wz.cell? ⟨gl, 3, none⟩ = some (.int .i64 f3) := hz.cell 3
    have k4 : wz.cell? ⟨gl, 4, none⟩ = some (.bool f4) := hz.cell 4
    refine bodyPost_ret (v := .tuple #[.agg #[.int .i64 f0, .int .i64 f1, .int .i64 f2, .int .i64 f3, .bool f4], .bool true]) (by simp [results, Try.results38, go_sem, k0, k1, k2, k3, k4]) rfl ⟨by rw [HE.out]; rfl, hbz⟩
end
end Go.Proofs.Ytmhljdkhekjfmaa
