/- The walk of cornhilllaw5.RefdataNumbers. -/
import Derived.Test.YtjjddlfbadahhaaTurn
import Derived.Test.YtjjddlfbadahhaaSame5
namespace Go.Proofs.Ytjjddlfbadahhaa
open Go.RowKit

def numsL : List Int := [-9223372036854775808, -1000005, -1000000, -5, -1, 0, 1, 2, 3, 4, 5, 100, 101, 320, 321, 490, 995, 1000, 1001, 1005, 1199, 1200, 1000000, 1000001, 9223372036854775807]
theorem nums_ok : ∀ x ∈ numsL, i64ok x := by unfold i64ok; decide
theorem three_price (a b : Nat) : priceP (threeP 1 a b) 6 5 = 20 ∧ priceP (threeP 1 a b) 0 4 = 22 ∧ priceP (threeP 1 a b) 0 1005 = 23 := by
  have hc := three_count 1 (by omega) a b
  unfold priceP
  rw [hc]
  refine ⟨?_, ?_, ?_⟩ <;> simp [threeP, lowP, highP]
set_option maxRecDepth 100000 in
set_option maxHeartbeats 8000000 in
theorem numbers5_any (w : World) :
    Calls Try.prog 8 #[] w fun e w' => e = .returned (.bool true) ∧ Below w.heap.size w w' := by
  have s1 : ∀ (w : World) (o : Obj), (w.alloc o).heap.size = w.heap.size + 1 := fun w o => by simp
  go_enter Try.func8, Try.ntmps8
  go_wp2_with fail
  refine (three_any 1 _).mono ?_
  rintro e w1 ⟨a, b, rfl, hp, hb1⟩
  have HP := Lib.hid (three_price a b)
  have hl1 : (threeP 1 a b).months.length = 3 := rfl
  have hl2 : (threeP 1 a b).settle.length = 3 := rfl
  have FT := Lib.hid fun (how n : Int) wz (h : PV wz (threeP 1 a b)) hn1 hn2 => turned_any (threeP 1 a b) how n wz h hn1 hn2 (by omega) (by omega) (by omega) (by omega)
  clear hl1 hl2
  generalize threeP 1 a b = p at *
  unfold Prod.agg Prod.cells at FT ⊢
  go_upto_region 2 with (fail)
  have T0 : Hid (One w (w1.alloc (.cells #[.string p.code, .slice p.ma p.months.length p.mc, .int .i64 p.tick, .int .i64 p.low, .int .i64 p.high, .int .i64 p.wide, .int .i64 p.rule, .int .i64 p.top, .int .i64 p.least, .int .i64 p.part, .slice p.sa p.settle.length p.sc] 25)) w1.heap.size p) := Lib.hid ⟨hb1.trans ((Below.allocN _ _).mono hb1.size), PC.new w1 p, hp.below (Below.allocN _ _), by rw [s1]; omega⟩
  clear hp hb1
  generalize (w1.alloc (.cells #[.string p.code, .slice p.ma p.months.length p.mc, .int .i64 p.tick, .int .i64 p.low, .int .i64 p.high, .int .i64 p.wide, .int .i64 p.rule, .int .i64 p.top, .int .i64 p.least, .int .i64 p.part, .slice p.sa p.settle.length p.sc] 25)) = w2 at *
  go_wp2_with fail
  go_loopw [2] (fun i w' => ∃ z : Int, i = .int .i64 z ∧ 0 ≤ z ∧ z ≤ 15 ∧ One w w' w1.heap.size p) (fun i _ => (15 - intOf i).toNat)
  case atStart => exact ⟨0, rfl, by omega, by omega, T0.out⟩
  case round =>
    clear T0
    obtain ⟨z, rfl, hz1, hz2, hT⟩ := hrel
    obtain ⟨wo, rfl⟩ : ∃ wo : World, wo = wr := ⟨_, rfl⟩
    have T1 := Lib.hid hT
    clear hT
    by_cases hz : z < 15
    · go_upto_region 6 with (fail)
      go_wp2_with fail
      have hT2 : One w (wo.alloc (.cells (numsL.map (Value.int .i64)).toArray 2)) w1.heap.size p := T1.out.next (Below.allocN _ _)
      have hrow : Blk (wo.alloc (.cells (numsL.map (Value.int .i64)).toArray 2)) wo.heap.size 2 (numsL.map (Value.int .i64)).toArray := Blk.new _ _ _
      have T2 := Lib.hid hT2
      have HR := Lib.hid hrow
      clear hT2 hrow
      have hlw : wo.heap.size < (wo.alloc (.cells (numsL.map (Value.int .i64)).toArray 2)).heap.size := by rw [s1]; omega
      have HLW := Lib.hid hlw
      clear hlw
      simp only [numsL, List.map_cons, List.map_nil] at T2 HR HLW
      generalize wo.alloc _ = w4 at *
      go_loopw [14] (fun i w' => ∃ y : Nat, i = .int .i64 y ∧ y ≤ 25 ∧ One w w' w1.heap.size p ∧ Below w4.heap.size w4 w') (fun i _ => 25 - (intOf i).toNat)
      case atStart => exact ⟨0, rfl, by omega, T2.out, Below.refl _ _⟩
      case round =>
        clear T2
        obtain ⟨y, rfl, hy, hT, hB⟩ := hrel
        obtain ⟨wi, rfl⟩ : ∃ wi : World, wi = wr := ⟨_, rfl⟩
        have T3 := Lib.hid hT
        have HB3 := Lib.hid hB
        clear hT hB
        by_cases hyy : y < 25
        · have hyy' : (y : Int) < 25 := by omega
          obtain ⟨x, hx⟩ : ∃ x, numsL[y]? = some x := ⟨_, List.getElem?_eq_getElem (show y < numsL.length from hyy)⟩
          have hok := nums_ok x (List.mem_of_getElem? hx)
          have c0 : wi.cell? ⟨wo.heap.size, y, none⟩ = some (.int .i64 x) := by
            rw [HB3.out.cell (p := ⟨wo.heap.size, y, none⟩) HLW.out, HR.out.cell]
            show ((numsL.map (Value.int .i64)).toArray)[y]? = _
            rw [List.getElem?_toArray, List.getElem?_map, hx]
            rfl
          have HOK := Lib.hid hok
          clear hx hok
          have ft := FT.out z x
          have HFT := Lib.hid fun wz h => ft wz h HOK.out.1 HOK.out.2
          clear ft
          obtain ⟨b0, b1, b2, b3, b4, b5, b6, b7, b8, b9, b10⟩ := T3.out.pc
          go_wp2_with fail
          refine (HFT.out _ T3.out.pv).mono ?_
          rintro e w5 ⟨q, rfl, hqv, hb⟩
          have hT4 := T3.out.next hb
          have hB4 := HB3.out.trans (hb.mono HB3.out.size)
          clear hb b0 b1 b2 b3 b4 b5 b6 b7 b8 b9 b10 T3 HB3 c0 HFT
          go_upto_region 9 with (fail)
          have T5 : Hid (Two w (w5.alloc (.cells #[.string q.code, .slice q.ma q.months.length q.mc, .int .i64 q.tick, .int .i64 q.low, .int .i64 q.high, .int .i64 q.wide, .int .i64 q.rule, .int .i64 q.top, .int .i64 q.least, .int .i64 q.part, .slice q.sa q.settle.length q.sc] 25)) w5.heap.size w1.heap.size q p) := Lib.hid ⟨hT4.bel.trans ((Below.allocN _ _).mono hT4.bel.size), PC.new w5 q, hT4.pc.below (Below.allocN _ _) hT4.lt, hqv.below (Below.allocN _ _), hT4.pv.below (Below.allocN _ _), by rw [s1]; omega, by rw [s1]; have := hT4.lt; omega⟩
          have HB5 : Hid (Below w4.heap.size w4 (w5.alloc (.cells #[.string q.code, .slice q.ma q.months.length q.mc, .int .i64 q.tick, .int .i64 q.low, .int .i64 q.high, .int .i64 q.wide, .int .i64 q.rule, .int .i64 q.top, .int .i64 q.least, .int .i64 q.part, .slice q.sa q.settle.length q.sc] 25))) := Lib.hid (hB4.trans ((Below.allocN _ _).mono hB4.size))
          clear hqv hB4 hT4
          generalize (w5.alloc (.cells #[.string q.code, .slice q.ma q.months.length q.mc, .int .i64 q.tick, .int .i64 q.low, .int .i64 q.high, .int .i64 q.wide, .int .i64 q.rule, .int .i64 q.top, .int .i64 q.least, .int .i64 q.part, .slice q.sa q.settle.length q.sc] 25)) = w6 at *
          have FF := Lib.hid fun (i : Int) wz (h : PV wz q) => same5_any q i x ⟨#[67, 76, 85, 50, 54, 45, 67, 76, 90, 50, 54]⟩ i 2 wz h
          unfold Prod.agg Prod.cells at FF
          go_wp2_with fail
          go_loopw [6] (fun i w' => ∃ v : Int, i = .int .i64 v ∧ -1 ≤ v ∧ v ≤ 8 ∧ Two w w' w5.heap.size w1.heap.size q p ∧ Below w4.heap.size w4 w') (fun i _ => (8 - intOf i).toNat)
          case atStart => exact ⟨-1, rfl, by omega, by omega, T5.out, HB5.out⟩
          case round =>
            clear T5 HB5
            obtain ⟨v, rfl, hv1, hv2, hT, hB⟩ := hrel
            obtain ⟨wk, rfl⟩ : ∃ wk : World, wk = wr := ⟨_, rfl⟩
            have T6 := Lib.hid hT
            have HB6 := Lib.hid hB
            clear hT hB
            by_cases hv : v < 8
            · obtain ⟨b0, b1, b2, b3, b4, b5, b6, b7, b8, b9, b10⟩ := T6.out.xc
              go_wp2_with fail
              refine (FF.out v _ T6.out.xv).mono ?_
              rintro e w7 ⟨rfl, hb⟩
              have T7 := Lib.hid (T6.out.next hb)
              have HB7 := Lib.hid (HB6.out.trans (hb.mono HB6.out.size))
              clear hb b0 b1 b2 b3 b4 b5 b6 b7 b8 b9 b10 T6 HB6
              go_wp2_with fail
              go_roundw
              case rel => exact ⟨v + 1, by go_num, by omega, by omega, T7.out, HB7.out⟩
              case measure => simp [intOf]; omega
            · go_wp2_with fail
              go_roundw
              case rel => exact ⟨y + 1, by go_num, by omega, ⟨T6.out.bel, T6.out.pc, T6.out.pv, T6.out.plt⟩, HB6.out⟩
              case measure => simp [intOf]; omega
        · have hyy' : ¬ (y : Int) < 25 := by omega
          go_wp2_with fail
          go_roundw
          case rel => exact ⟨z + 1, by go_num, by omega, by omega, T3.out⟩
          case measure => simp [intOf]; omega
    · have hpz := check_any zeroP wo (zero_pv wo)
      rw [zero_check] at hpz
      have F1 := Lib.hid fun wz (h : PV wz p) => price_any p 6 5 wz h
      have F2 := Lib.hid fun wz (h : PV wz p) => price_any p 0 4 wz h
      have F3 := Lib.hid fun wz (h : PV wz p) => price_any p 0 1005 wz h
      rw [HP.out.1] at F1
      rw [HP.out.2.1] at F2
      rw [HP.out.2.2] at F3
      unfold Prod.agg Prod.cells at hpz F1 F2 F3
      simp only [zeroP, List.length_nil] at hpz
      go_wp2_with fail
      refine hpz.mono ?_
      rintro e w6 ⟨rfl, hb⟩
      have T2 := Lib.hid (T1.out.next hb)
      clear hb T1 hpz
      obtain ⟨b0, b1, b2, b3, b4, b5, b6, b7, b8, b9, b10⟩ := T2.out.pc
      go_wp2_with fail
      refine (F1.out _ T2.out.pv).mono ?_
      rintro e w7 ⟨rfl, hb⟩
      have T3 := Lib.hid (T2.out.next hb)
      clear hb T2 b0 b1 b2 b3 b4 b5 b6 b7 b8 b9 b10
      obtain ⟨b0, b1, b2, b3, b4, b5, b6, b7, b8, b9, b10⟩ := T3.out.pc
      go_wp2_with fail
      refine (F2.out _ T3.out.pv).mono ?_
      rintro e w8 ⟨rfl, hb⟩
      have T4 := Lib.hid (T3.out.next hb)
      clear hb T3 b0 b1 b2 b3 b4 b5 b6 b7 b8 b9 b10
      obtain ⟨b0, b1, b2, b3, b4, b5, b6, b7, b8, b9, b10⟩ := T4.out.pc
      go_wp2_with fail
      refine (F3.out _ T4.out.pv).mono ?_
      rintro e w9 ⟨rfl, hb⟩
      have T5 := Lib.hid (T4.out.next hb)
      clear hb T4 b0 b1 b2 b3 b4 b5 b6 b7 b8 b9 b10
      go_wp2_with fail
      refine (known5_any _).mono ?_
      rintro e w10 ⟨rfl, hb⟩
      have T6 := Lib.hid (T5.out.next hb)
      clear hb T5
      go_wp2_with fail
      go_ret
      exact ⟨by trivial, T6.out.bel⟩
end Go.Proofs.Ytjjddlfbadahhaa
