/- The walk of cornhilllaw8.alike. -/
import Derived.Test.YtbpmoomklknkkaaDoc7
namespace Go.Proofs.Ytbpmoomklknkkaa
open Go.RowKit

/-- an order that is handed out, cell by cell -/
theorem entOf_form (A : List (List Ent)) (i : Int) : ∃ (a b c : Int) (d o : Bool), entOf A i = (.agg #[.int .i64 a, .int .i64 b, .int .i64 c, .bool d], o) := by
  unfold entOf
  cases findA A i with
  | none => exact ⟨0, 0, 0, false, false, rfl⟩
  | some x => exact ⟨_, _, _, _, true, rfl⟩
section
variable {w : World} {B pb sb : Nat} {qa : Option Addr} {room : Nat} {A : List (List Ent)} {pd ub : Nat} {da : Option Addr} {dk : Nat} {V : Nat → Option Addr × Nat}
set_option maxRecDepth 100000 in
set_option maxHeartbeats 4000000 in
theorem alike_any (h : Two w B pb sb qa room A pd ub da dk V) :
    Calls Try.prog 23 #[.pointer (some ⟨pb, 0, none⟩), .pointer (some ⟨pd, 0, none⟩), .int .i64 room] w fun e w' => e = .returned (.bool true) ∧ Below w.heap.size w w' := by
  have hroom := h.la.small
  have HFIT := Lib.hid (h.la.fit (by have := h.many; omega))
  have H := Lib.hid h
  have HC := Lib.hid h.la.count
  have hm := h.many
  clear h
  go_enter Try.func23, Try.ntmps23
  go_wp2_with fail
  go_loopw [7] (fun q w' => ∃ z : Int, q = .int .i64 z ∧ -1 ≤ z ∧ z ≤ A.length + 1 ∧ Below w.heap.size w w') (fun q _ => (A.length + 2 - intOf q).toNat)
  case atStart => exact ⟨-1, rfl, by omega, by omega, Below.refl _ _⟩
  case round =>
    obtain ⟨z, rfl, hz1, hz2, hbw⟩ := hrel
    obtain ⟨wo, rfl⟩ : ∃ wo : World, wo = wr := ⟨_, rfl⟩
    have HT := Lib.hid (H.out.below hbw)
    have c1 := HT.out.ra.c1
    have HBW := Lib.hid hbw
    clear hbw
    by_cases hzl : z ≤ A.length
    · by_cases hin : 0 ≤ z ∧ z < A.length
      · obtain ⟨n, rfl⟩ := Int.eq_ofNat_of_zero_le hin.1
        have hnl : n < A.length := by omega
        obtain ⟨L, hL⟩ : ∃ L, A[n]? = some L := ⟨_, List.getElem?_eq_getElem hnl⟩
        have hlist := la_list HT.out.la (n : Int) (by omega) (by omega)
        rw [Int.toNat_natCast, getD_of hL] at hlist
        have hLs := HFIT.out.short n L hL
        have HTO : Hid (totA A (n : Int) = qtys L) := Lib.hid (by unfold totA; rw [if_neg (by omega)]; exact congrArg qtys (getD_of hL))
        have HCO : Hid (cntA A (n : Int) = L.length) := Lib.hid (by unfold cntA; rw [if_neg (by omega)]; exact congrArg (fun l : List Ent => (l.length : Int)) (getD_of hL))
        have HL := Lib.hid hL
        clear hL hin
        go_wp2_with fail
        refine hlist.mono ?_
        rintro e w2 ⟨a2, c2, rfl, hown2, hb2⟩
        have hT2 := HT.out.below hb2
        have HO2 : Hid (RowV w2 wo.heap.size (.slice a2 L.length c2) L) := Lib.hid hown2
        have HB2 := Lib.hid hb2
        have hrow := hT2.ra.row n hnl
        rw [getD_of HL.out] at hrow
        obtain ⟨a3, c3, hv3, hac3, hrd3⟩ := hrow.rd
        have hd := dlist_at hT2.ra n hnl
        rw [hv3] at hd
        have HRD3 := Lib.hid hrd3
        have HT2 := Lib.hid hT2
        clear hlist hown2 hb2 hT2 c1 hrow hv3 hrd3
        go_wp2_with fail
        refine hd.mono ?_
        rintro e w3 ⟨rfl, rfl⟩
        go_wp2_with fail
        refine (la_total HT2.out.la (n : Int)).mono ?_
        rintro e w3 ⟨rfl, rfl⟩
        go_wp2_with fail
        refine (dtotal_any HT2.out.ra HFIT.out (n : Int)).mono ?_
        rintro e w3 ⟨rfl, rfl⟩
        go_wp2_with fail
        refine (la_count HT2.out.la (n : Int)).mono ?_
        rintro e w3 ⟨rfl, rfl⟩
        rw [HCO.out]
        go_wp2_with fail
        go_loopw [10] (fun m w' => ∃ j : Nat, m = .int .i64 j ∧ j ≤ L.length ∧ Below w2.heap.size w2 w') (fun m _ => L.length - (intOf m).toNat)
        case atStart => exact ⟨0, rfl, Nat.zero_le _, Below.refl _ _⟩
        case round =>
          obtain ⟨j, rfl, hj, hbj⟩ := hrel
          obtain ⟨wq, rfl⟩ : ∃ wq : World, wq = wr := ⟨_, rfl⟩
          by_cases hjl : j < L.length
          · obtain ⟨e, he⟩ : ∃ e, L[j]? = some e := ⟨_, List.getElem?_eq_getElem hjl⟩
            obtain ⟨g1, p1, hv1, _, y0, y1, y2, y3⟩ := RowV.at_ (own_below HO2.out hbj) j e he
            obtain ⟨rfl, rfl⟩ : a2 = some ⟨g1, 0, none⟩ ∧ c2 = p1 := by injection hv1 with h1 h2 h3; exact ⟨h1, h3⟩
            obtain ⟨g2, o2, rfl, _, z0, z1, z2, z3⟩ := (HRD3.out.below hbj) j e he
            have hjl' : (j : Int) < (L.length : Int) := by omega
            clear hv1 he
            go_wp2_with fail
            go_quiet (fail)
            go_wp2_with fail
            go_roundw
            case rel => exact ⟨j + 1, by go_num, by omega, hbj.trans ((Below.drewN_of wq nq).mono hbj.size)⟩
            case measure => simp [intOf]; omega
          · obtain rfl : j = L.length := by omega
            go_wp2_with fail
            go_roundw
            case rel => exact ⟨(n : Int) + 1, by go_num, by omega, by omega, HBW.out.trans ((HB2.out.trans (hbj.mono HB2.out.size)).mono HBW.out.size)⟩
            case measure => simp [intOf]; omega
      · have hout : z < 0 ∨ (A.length : Int) ≤ z := by omega
        have HTO : Hid (totA A z = 0) := Lib.hid (by
          unfold totA
          rcases hout with h | h
          · rw [if_pos h]
          · rw [if_neg (by omega), getD_none (by omega)]; rfl)
        have HCO : Hid (cntA A z = 0) := Lib.hid (by
          unfold cntA
          rcases hout with h | h
          · rw [if_pos h]
          · rw [if_neg (by omega), getD_none (by omega)]; rfl)
        have HOUT := Lib.hid hout
        clear hin hout
        go_wp2_with fail
        refine (la_list_no HT.out.la z HOUT.out).mono ?_
        rintro e w3 ⟨rfl, rfl⟩
        go_wp2_with fail
        refine (dlist_no HT.out.ra z HOUT.out).mono ?_
        rintro e w3 ⟨rfl, rfl⟩
        go_wp2_with fail
        refine (la_total HT.out.la z).mono ?_
        rintro e w3 ⟨rfl, rfl⟩
        go_wp2_with fail
        refine (dtotal_any HT.out.ra HFIT.out z).mono ?_
        rintro e w3 ⟨rfl, rfl⟩
        go_wp2_with fail
        refine (la_count HT.out.la z).mono ?_
        rintro e w3 ⟨rfl, rfl⟩
        rw [HCO.out]
        go_wp2_with fail
        refine wp_loop_rounds 1 ?_
        rw [rounds_succ]
        go_wp2_with fail
        go_roundw
        case rel => exact ⟨z + 1, by go_num, by omega, by omega, HBW.out⟩
        case measure => simp [intOf]; omega
    · go_wp2_with fail
      clear c1
      go_loopw [11] (fun q w' => ∃ y : Int, q = .int .i64 y ∧ -1 ≤ y ∧ y ≤ 60 ∧ Below wo.heap.size wo w') (fun q _ => (61 - intOf q).toNat)
      case atStart => exact ⟨-1, rfl, by omega, by omega, Below.refl _ _⟩
      case round =>
        obtain ⟨y, rfl, hy1, hy2, hby⟩ := hrel
        obtain ⟨wp, rfl⟩ : ∃ wp : World, wp = wr := ⟨_, rfl⟩
        have HTY := Lib.hid (HT.out.below hby)
        have HBY := Lib.hid hby
        clear hby
        by_cases hyl : y ≤ room ∧ y < 60
        · obtain ⟨hy3, hy4⟩ := hyl
          obtain ⟨a, b, c, d, o, hE⟩ := entOf_form A y
          have hg := la_get HTY.out.la y
          rw [hE] at hg
          have HE := Lib.hid hE
          clear hE
          go_wp2_with fail
          refine hg.mono ?_
          rintro e w4 ⟨rfl, hb4⟩
          have hb5 : Below wp.heap.size wp (w4.alloc (.cells #[.int .i64 a, .int .i64 b, .int .i64 c, .bool d] 33)) := hb4.alloc hb4.size _
          have hx5 : Blk (w4.alloc (.cells #[.int .i64 a, .int .i64 b, .int .i64 c, .bool d] 33)) w4.heap.size 33 #[.int .i64 a, .int .i64 b, .int .i64 c, .bool d] := Blk.new _ _ _
          have HX5 := Lib.hid hx5
          have HB5 := Lib.hid hb5
          have HZ5 : Hid (w4.heap.size < (w4.alloc (.cells #[.int .i64 a, .int .i64 b, .int .i64 c, .bool d] 33)).heap.size) := Lib.hid (by simp)
          clear hg hb4 hb5 hx5
          go_wp2_with fail
          generalize (w4.alloc (.cells #[.int .i64 a, .int .i64 b, .int .i64 c, .bool d] 33)) = w5 at *
          have hg2 := dget_any (HTY.out.below HB5.out).ra HFIT.out y
          rw [HE.out] at hg2
          refine hg2.mono ?_
          rintro e w6 ⟨rfl, hb6⟩
          have hx6 : Blk w6 w4.heap.size 33 #[.int .i64 a, .int .i64 b, .int .i64 c, .bool d] := HX5.out.keeps (Below.keeps (F := fun _ => False) hb6) (fun x => x)
          have hd6 : Below w6.heap.size w6 (w6.alloc (.cells #[.int .i64 a, .int .i64 b, .int .i64 c, .bool d] 77)) := (Below.refl _ _).alloc (Nat.le_refl _) _
          have hx7 : Blk (w6.alloc (.cells #[.int .i64 a, .int .i64 b, .int .i64 c, .bool d] 77)) w4.heap.size 33 #[.int .i64 a, .int .i64 b, .int .i64 c, .bool d] := hx6.keeps (Below.keeps (F := fun _ => False) hd6) (fun x => x)
          have hy7 : Blk (w6.alloc (.cells #[.int .i64 a, .int .i64 b, .int .i64 c, .bool d] 77)) w6.heap.size 77 #[.int .i64 a, .int .i64 b, .int .i64 c, .bool d] := Blk.new _ _ _
          have HB7 : Hid (Below wp.heap.size wp (w6.alloc (.cells #[.int .i64 a, .int .i64 b, .int .i64 c, .bool d] 77))) := Lib.hid (HB5.out.trans ((hb6.trans (hd6.mono hb6.size)).mono HB5.out.size))
          obtain ⟨x0, x1, x2, x3⟩ : (w6.alloc (.cells #[.int .i64 a, .int .i64 b, .int .i64 c, .bool d] 77)).cell? ⟨w4.heap.size, 0, none⟩ = some (.int .i64 a) ∧ (w6.alloc (.cells #[.int .i64 a, .int .i64 b, .int .i64 c, .bool d] 77)).cell? ⟨w4.heap.size, 1, none⟩ = some (.int .i64 b) ∧ (w6.alloc (.cells #[.int .i64 a, .int .i64 b, .int .i64 c, .bool d] 77)).cell? ⟨w4.heap.size, 2, none⟩ = some (.int .i64 c) ∧ (w6.alloc (.cells #[.int .i64 a, .int .i64 b, .int .i64 c, .bool d] 77)).cell? ⟨w4.heap.size, 3, none⟩ = some (.bool d) := by
            refine ⟨?_, ?_, ?_, ?_⟩ <;> (rw [hx7.cell]; rfl)
          obtain ⟨y0, y1, y2, y3⟩ : (w6.alloc (.cells #[.int .i64 a, .int .i64 b, .int .i64 c, .bool d] 77)).cell? ⟨w6.heap.size, 0, none⟩ = some (.int .i64 a) ∧ (w6.alloc (.cells #[.int .i64 a, .int .i64 b, .int .i64 c, .bool d] 77)).cell? ⟨w6.heap.size, 1, none⟩ = some (.int .i64 b) ∧ (w6.alloc (.cells #[.int .i64 a, .int .i64 b, .int .i64 c, .bool d] 77)).cell? ⟨w6.heap.size, 2, none⟩ = some (.int .i64 c) ∧ (w6.alloc (.cells #[.int .i64 a, .int .i64 b, .int .i64 c, .bool d] 77)).cell? ⟨w6.heap.size, 3, none⟩ = some (.bool d) := by
            refine ⟨?_, ?_, ?_, ?_⟩ <;> (rw [hy7.cell]; rfl)
          clear hg2 hb6 hx6 hd6 hx7 hy7
          go_wp2_with fail
          go_roundw
          case rel => exact ⟨y + 1, by go_num, by omega, by omega, HBY.out.trans (HB7.out.mono HBY.out.size)⟩
          case measure => simp [intOf]; omega
        · have hyn : ¬ y ≤ room ∨ (y ≤ room ∧ ¬ y < 60) := by omega
          have HCC : Hid (((List.range room).countP (tk A) : Nat) = (A.map List.length).sum) := HC
          clear hyl
          rcases hyn with hyn | ⟨hyn, hyn2⟩
          all_goals
            go_wp2_with fail
            refine (la_free HTY.out.la).mono ?_
            rintro e w8 ⟨rfl, rfl⟩
            go_wp2_with fail
            refine (dfree_any HTY.out.ra hroom.2).mono ?_
            rintro e w8 ⟨rfl, rfl⟩
            rw [HCC.out]
            go_wp2_with fail
            go_ret
            exact ⟨by trivial, HBW.out.trans (HBY.out.mono HBW.out.size)⟩
end
end Go.Proofs.Ytbpmoomklknkkaa
