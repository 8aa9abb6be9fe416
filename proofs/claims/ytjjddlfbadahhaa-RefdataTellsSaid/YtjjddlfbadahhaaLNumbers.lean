/- The walk of cornhilllaw15.LegsNumbers. -/
import Derived.Test.YtjjddlfbadahhaaLTells
namespace Go.Proofs.Ytjjddlfbadahhaa
open Go.RowKit

/-- where a walk stands that has a product in a block -/
structure One (w w1 : World) (g : Nat) (p : Prod) : Prop where
  bel : Below w.heap.size w w1
  pc : PC w1 g p
  pv : PV w1 p
  lt : g < w1.heap.size
theorem One.next {w w1 w2 : World} {g : Nat} {p : Prod} (h : One w w1 g p) (hb : Below w1.heap.size w1 w2) : One w w2 g p :=
  ⟨h.bel.trans (hb.mono h.bel.size), h.pc.below hb h.lt, h.pv.below hb, Nat.lt_of_lt_of_le h.lt hb.size⟩
def zeroP : Prod := ⟨⟨#[]⟩, none, [], 0, 0, 0, 0, 0, 0, 0, 0, 0, none, [], 0⟩
theorem zero_prod : prodB ⟨#[]⟩ = false := by decide +kernel
theorem zero_check : checkP zeroP = 12 := by
  unfold checkP
  rw [show prodB zeroP.code = false from zero_prod, if_pos rfl]
theorem zero_pv (w : World) : PV w zeroP := ⟨by show 0 ≤ 1000; omega, (fun j x h => by simp [zeroP] at h), (fun j x h => by simp [zeroP] at h), Nat.zero_le _, Nat.zero_le _, by decide, by decide, by decide, by decide⟩
set_option maxRecDepth 100000 in
set_option maxHeartbeats 8000000 in
theorem lnumbers_any (w : World) :
    Calls Try.prog 4 #[] w fun e w' => e = .returned (.bool true) ∧ Below w.heap.size w w' := by
  have s1 : ∀ (w : World) (o : Obj), (w.alloc o).heap.size = w.heap.size + 1 := fun w o => by simp
  go_enter Try.func4, Try.ntmps4
  go_wp2_with fail
  refine (three_any 1 _).mono ?_
  rintro e w1 ⟨a, b, rfl, hp, hb1⟩
  generalize threeP 1 a b = p at *
  unfold Prod.agg Prod.cells
  go_upto_region 2 with (fail)
  have T0 : Hid (One w (w1.alloc (.cells #[.string p.code, .slice p.ma p.months.length p.mc, .int .i64 p.tick, .int .i64 p.low, .int .i64 p.high, .int .i64 p.wide, .int .i64 p.rule, .int .i64 p.top, .int .i64 p.least, .int .i64 p.part, .slice p.sa p.settle.length p.sc] 25)) w1.heap.size p) := Lib.hid ⟨hb1.trans ((Below.allocN _ _).mono hb1.size), PC.new w1 p, hp.below (Below.allocN _ _), by rw [s1]; omega⟩
  clear hp hb1
  generalize (w1.alloc (.cells #[.string p.code, .slice p.ma p.months.length p.mc, .int .i64 p.tick, .int .i64 p.low, .int .i64 p.high, .int .i64 p.wide, .int .i64 p.rule, .int .i64 p.top, .int .i64 p.least, .int .i64 p.part, .slice p.sa p.settle.length p.sc] 25)) = w2 at *
  have FF := Lib.hid fun (i q : Int) wz (h : PV wz p) => same15_any p i q wz h
  unfold Prod.agg Prod.cells at FF
  go_wp2_with fail
  go_loopw [2] (fun i w' => ∃ z : Int, i = .int .i64 z ∧ -1 ≤ z ∧ z ≤ 8 ∧ One w w' w1.heap.size p) (fun i _ => (8 - intOf i).toNat)
  case atStart => exact ⟨-1, rfl, by omega, by omega, T0.out⟩
  case round =>
    clear T0
    obtain ⟨z, rfl, hz1, hz2, hT⟩ := hrel
    obtain ⟨wo, rfl⟩ : ∃ wo : World, wo = wr := ⟨_, rfl⟩
    have T1 := Lib.hid hT
    clear hT
    by_cases hz : z < 8
    · go_wp2_with fail
      go_loopw [3] (fun i w' => ∃ y : Int, i = .int .i64 y ∧ -210 ≤ y ∧ y ≤ 211 ∧ One w w' w1.heap.size p) (fun i _ => (211 - intOf i).toNat)
      case atStart => exact ⟨-210, rfl, by omega, by omega, T1.out⟩
      case round =>
        clear T1
        obtain ⟨y, rfl, hy1, hy2, hT⟩ := hrel
        obtain ⟨wi, rfl⟩ : ∃ wi : World, wi = wr := ⟨_, rfl⟩
        have T2 := Lib.hid hT
        clear hT
        by_cases hy : y ≤ 210
        · obtain ⟨b0, b1, b2, b3, b4, b5, b6, b7, b8, b9, b10⟩ := T2.out.pc
          go_wp2_with fail
          refine (FF.out z y _ T2.out.pv).mono ?_
          rintro e w6 ⟨rfl, hb⟩
          have T3 := Lib.hid (T2.out.next hb)
          clear hb b0 b1 b2 b3 b4 b5 b6 b7 b8 b9 b10 T2
          go_wp2_with fail
          go_roundw
          case rel => exact ⟨y + 1, by go_num, by omega, by omega, T3.out⟩
          case measure => simp [intOf]; omega
        · go_wp2_with fail
          go_roundw
          case rel => exact ⟨z + 1, by go_num, by omega, by omega, T2.out⟩
          case measure => simp [intOf]; omega
    · have hpz := prices_any zeroP 3 0 wo (zero_pv wo)
      rw [show pricesP zeroP 3 0 = (0, 0, 1) from if_pos (by rw [zero_check]; omega)] at hpz
      unfold Prod.agg Prod.cells at hpz
      simp only [zeroP, List.length_nil] at hpz
      go_wp2_with fail
      refine hpz.mono ?_
      rintro e w6 ⟨rfl, hb⟩
      have HB := Lib.hid (T1.out.bel.trans (hb.mono T1.out.bel.size))
      clear hb T1
      go_wp2_with fail
      refine (known15_any _).mono ?_
      rintro e w7 ⟨rfl, hb⟩
      have HB2 := Lib.hid (HB.out.trans (hb.mono HB.out.size))
      clear hb HB
      go_wp2_with fail
      go_ret
      exact ⟨by trivial, HB2.out⟩
end Go.Proofs.Ytjjddlfbadahhaa
