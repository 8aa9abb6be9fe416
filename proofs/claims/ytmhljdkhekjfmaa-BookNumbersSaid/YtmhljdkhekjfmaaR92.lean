/- The walk of cornhillref9.At. -/
import Derived.Test.YtmhljdkhekjfmaaR9
namespace Go.Proofs.Ytmhljdkhekjfmaa
open Go.RowKit

section
variable {W w w' : World} {pw : Nat} {L : List Od}
def atP (side price : Int) (o : Od) : Bool := decide (o.side = side ∧ o.price = price)
theorem filter_next {p : Od → Bool} {k : Nat} {o : Od} (h : L[k]? = some o) : (L.take (k + 1)).filter p = (L.take k).filter p ++ (if p o = true then [o] else []) := by
  rw [take_next h, List.filter_append]
  congr 1
  by_cases hp : p o = true
  · rw [if_pos hp]; simp [hp]
  · rw [if_neg hp]; simp [hp]
set_option maxRecDepth 20000 in
set_option maxHeartbeats 8000000 in
theorem at_ref (h : RB W w pw L) (hl : L.length ≤ 250) (side price : Int) :
    Calls Try.prog 44 #[.pointer (some ⟨pw, 0, none⟩), .int .i64 side, .int .i64 price] w fun e w' => ∃ v, e = .returned v ∧ ROD.Row w' w.heap.size v (atO L side price) ∧ Below w.heap.size w w' := by
  have H := Lib.hid h
  clear h
  have HA : Hid (atO L side price = L.filter (atP side price)) := Lib.hid rfl
  go_enter Try.func44, Try.ntmps44
  go_wp2_with fail
  go_loopw [7, 8] (fun v j w' => ∃ k : Nat, j = .int .i64 k ∧ k ≤ L.length ∧ ROD.Row w' w.heap.size v ((L.take k).filter (atP side price)) ∧ Below w.heap.size w w') (fun _ j _ => L.length - (intOf j).toNat)
  case atStart => exact ⟨0, rfl, Nat.zero_le _, Lay.Row.nil _ _, Below.refl _ _⟩
  case round =>
    obtain ⟨k, rfl, hk, hrow, hb⟩ := hrel
    obtain ⟨wz, rfl⟩ : ∃ wo : World, wo = wr := ⟨_, rfl⟩
    have HROW := Lib.hid hrow
    have HBL := Lib.hid hb
    obtain ⟨a, c, hbx, hrw⟩ := (H.out.below hb).box
    obtain ⟨a', c', he, _, hrd⟩ := hrw.rd
    injection he with he1 _ he2
    subst he1 he2
    have BX : wz.cell? ⟨pw, 0, none⟩ = some (.slice a L.length c) := hbx.cell 0
    clear hrow hb hbx hrw
    by_cases hlt : k < L.length
    · have hlt' : (k : Int) < (L.length : Int) := by omega
      obtain ⟨o, ho⟩ : ∃ o, L[k]? = some o := ⟨_, List.getElem?_eq_getElem hlt⟩
      obtain ⟨g, off, rfl, _, hc⟩ := hrd k o ho
      have HTK := Lib.hid (filter_next (p := atP side price) ho)
      have HTL : Hid (((L.take k).filter (atP side price)).length ≤ 250) := Lib.hid (Nat.le_trans (List.length_filter_le _ _) (by rw [List.length_take]; omega))
      obtain ⟨f0, f1, f2, f3, f4⟩ := o
      have c0 : wz.cell? ⟨g, off + k * 5, none⟩ = some (.int .i64 f0) := hc 0 _ rfl
      have c1 : wz.cell? ⟨g, off + k * 5 + 1, none⟩ = some (.int .i64 f1) := hc 1 _ rfl
      have c2 : wz.cell? ⟨g, off + k * 5 + 2, none⟩ = some (.int .i64 f2) := hc 2 _ rfl
      have c3 : wz.cell? ⟨g, off + k * 5 + 3, none⟩ = some (.int .i64 f3) := hc 3 _ rfl
      have c4 : wz.cell? ⟨g, off + k * 5 + 4, none⟩ = some (.bool f4) := hc 4 _ rfl
      clear hc ho hrd
      by_cases hs : f1 = side
      · by_cases hp : f2 = price
        · subst hs
          subst hp
          have HP : Hid (atP f1 f2 ⟨f0, f1, f2, f3, f4⟩ = true) := Lib.hid (decide_eq_true ⟨rfl, rfl⟩)
          generalize (L.take k).filter (atP f1 f2) = PL at *
          have hnew : Blk (wz.alloc (.cells #[.int .i64 f0, .int .i64 f1, .int .i64 f2, .int .i64 f3, .bool f4] 89)) wz.heap.size 89 (⟨f0, f1, f2, f3, f4⟩ : Od).cells.toArray := Blk.new _ _ _
          have HNEW := Lib.hid hnew
          have hba := Below.allocN wz (.cells #[.int .i64 f0, .int .i64 f1, .int .i64 f2, .int .i64 f3, .bool f4] 89)
          have HR4 := Lib.hid (HROW.out.below hba)
          have HB4 := Lib.hid (HBL.out.trans (hba.mono HBL.out.size))
          clear hnew hba
          go_wp2_with (first
            | (at_builtin; go_loud (refine ROD.push rfl (.tmp 40) (.tmp 48) rfl w.heap.size u7 PL rfl HR4.out wz.heap.size ⟨f0, f1, f2, f3, f4⟩ rfl HNEW.out.lt HNEW.out.cellsAt (by have := HTL.out; omega) HB4.out.size ?_)))
          intro v' w6 hr6 hg6 ho6
          have hr7 : ROD.Row w6 w.heap.size v' ((L.take (k + 1)).filter (atP f1 f2)) := by rw [HTK.out, if_pos HP.out]; exact hr6
          have HR6 := Lib.hid hr7
          have HB6 := Lib.hid (grown_below hg6 HB4.out (own_base HR4.out))
          clear hr6 hr7 hg6 ho6 HNEW HR4 HB4 c0 c1 c2 c3 c4 BX HROW HBL
          go_wp2_with fail
          go_roundw
          case rel => exact ⟨k + 1, by go_num, by omega, HR6.out, HB6.out⟩
          case measure => simp [intOf]; omega
        · have hpb : (f2 == price) = false := by rw [beq_eq_false_iff_ne]; exact hp
          have HP : Hid (¬ atP side price ⟨f0, f1, f2, f3, f4⟩ = true) := Lib.hid (by unfold atP; simp [hp])
          go_wp2_with fail
          go_roundw
          case rel => exact ⟨k + 1, by go_num, by omega, by rw [HTK.out, if_neg HP.out, List.append_nil]; exact HROW.out, HBL.out⟩
          case measure => simp [intOf]; omega
      · have hsb : (f1 == side) = false := by rw [beq_eq_false_iff_ne]; exact hs
        have HP : Hid (¬ atP side price ⟨f0, f1, f2, f3, f4⟩ = true) := Lib.hid (by unfold atP; simp [hs])
        go_wp2_with fail
        go_roundw
        case rel => exact ⟨k + 1, by go_num, by omega, by rw [HTK.out, if_neg HP.out, List.append_nil]; exact HROW.out, HBL.out⟩
        case measure => simp [intOf]; omega
    · obtain rfl : k = L.length := by omega
      have hrow := HROW.out
      rw [List.take_length] at hrow
      have HRW := Lib.hid hrow
      clear hrow
      go_wp2_with fail
      go_ret
      exact ⟨_, rfl, by rw [HA.out]; exact HRW.out, HBL.out⟩
end
end Go.Proofs.Ytmhljdkhekjfmaa
