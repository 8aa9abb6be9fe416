/- The walk of cornhilllaw15.known. -/
import Derived.Test.YtjjddlfbadahhaaKeep
namespace Go.Proofs.Ytjjddlfbadahhaa
open Go.RowKit

def fiftyP (a b : Nat) : Prod := ⟨⟨#[67, 76]⟩, some ⟨a, 0, none⟩, [320, 321, 323], 3, 5, 0, 100, 100, 1, 4, 2, 40, some ⟨b, 0, none⟩, [50, 50, 50], 3⟩
theorem fifty_check (a b : Nat) : checkP (fiftyP a b) = 0 := by
  have h1 : prodB (fiftyP a b).code = true := cl_good
  have h2 : monthsB (fiftyP a b).months = true := by show monthsB [320, 321, 323] = true; decide
  have h3 : ticksB (fiftyP a b) = true := by
    show (decide ((1 : Int) ≤ 5) && decide ((5 : Int) ≤ 1000) && !offB 5 0 && !offB 5 100 && !offB 5 100 && !([50, 50, 50] : List Int).any (offB 5)) = true
    decide
  have h4 : ¬ bandBad (fiftyP a b) := by
    show ¬ ((0 : Int) < -1000000 ∨ (100 : Int) ≤ 0 ∨ (1000000 : Int) < 100 ∨ (100 : Int) < 0 ∨ (100 : Int) - 0 < 100)
    omega
  have h5 : settleBad (fiftyP a b) = false := by
    show (([50, 50, 50] : List Int).length != ([320, 321, 323] : List Int).length || ([50, 50, 50] : List Int).any (fun x => decide (x < 0)) || ([50, 50, 50] : List Int).any (fun x => decide (100 < x))) = false
    decide
  have h6 : ¬ kindBad (fiftyP a b) := by
    show ¬ ((1 : Int) < 1 ∨ (3 : Int) < 1)
    omega
  have h7 : ¬ qtyBad (fiftyP a b) := by
    show ¬ ((4 : Int) < 0 ∨ (1000000 : Int) < 4 ∨ (2 : Int) < 1 ∨ (1000 : Int) < 2 ∨ (40 : Int) < 0 ∨ (100 : Int) < 40)
    omega
  unfold checkP
  rw [h1, h2, h3, h5, if_neg (by simp), if_neg (by simp), if_neg (by simp), if_neg h4, if_neg (by simp), if_neg h6, if_neg h7]
theorem fifty_count (a b : Nat) : countP (fiftyP a b) = 6 := by rw [countP_some (fifty_check a b)]; show ((countN 3 : Nat) : Int) = 6; decide
theorem fifty_legs (a b : Nat) : legsP (fiftyP a b) 3 = (0, 1, true) := by
  unfold legsP
  rw [fifty_count, if_neg (by omega), if_neg (by show ¬ (3 : Int) < (3 : Nat); omega)]
  show (((legNear 3 0 : Nat) : Int), ((legFar 3 0 : Nat) : Int), true) = _
  decide
theorem fifty_legs0 (a b : Nat) : legsP (fiftyP a b) 0 = (0, 0, false) := by
  unfold legsP
  rw [fifty_count, if_neg (by omega), if_pos (by show (0 : Int) < (3 : Nat); omega)]
theorem fifty_price (a b : Nat) : priceP (fiftyP a b) 3 60 = 0 := by
  unfold priceP
  rw [fifty_count, if_neg (by omega), if_neg (by omega), if_neg (by show ¬ (60 : Int).tmod 5 ≠ 0; decide)]
  have e1 : lowP (fiftyP a b) 3 = -100 := if_pos (by show ((3 : Nat) : Int) ≤ 3; omega)
  have e2 : highP (fiftyP a b) 3 = 100 := if_pos (by show ((3 : Nat) : Int) ≤ 3; omega)
  rw [e1, e2, if_neg (by omega)]
theorem fifty_prices (a b : Nat) : pricesP (fiftyP a b) 3 60 = (100, 40, 0) := by
  unfold pricesP
  rw [if_neg (by rw [fifty_check]; simp), fifty_legs, if_neg (by simp), if_neg (by rw [fifty_price]; simp)]
  show (if (100 : Int) < ([50, 50, 50] : List Int).getD 1 0 + 60 then ((100 : Int), (100 : Int) - 60, (0 : Int)) else _) = _
  rw [if_pos (by show (100 : Int) < 50 + 60; omega)]
  rfl
theorem fifty_prices0 (a b : Nat) : pricesP (fiftyP a b) 0 5 = (0, 0, 20) := by
  unfold pricesP
  rw [if_neg (by rw [fifty_check]; simp), fifty_legs0, if_pos rfl]
set_option maxRecDepth 100000 in
set_option maxHeartbeats 4000000 in
theorem known15_any (w : World) :
    Calls Try.prog 19 #[] w fun e w' => e = .returned (.bool true) ∧ Below w.heap.size w w' := by
  go_enter Try.func19, Try.ntmps19
  go_wp2_with fail
  refine (three_any 1 _).mono ?_
  rintro e w1 ⟨a, b, rfl, hp, hb1⟩
  have HP := Lib.hid hp
  have HB1 := Lib.hid hb1
  clear hp hb1
  unfold Prod.agg Prod.cells
  simp only [threeP]
  go_upto_region 5 with (fail)
  have s1 : ∀ (w : World) (o : Obj), (w.alloc o).heap.size = w.heap.size + 1 := fun w o => by simp
  have hd : Below w1.heap.size w1 ((w1.alloc (.cells #[.string ⟨#[67, 76]⟩, .slice (some ⟨a, 0, none⟩) 3 3, .int .i64 5, .int .i64 0, .int .i64 100, .int .i64 100, .int .i64 1, .int .i64 4, .int .i64 2, .int .i64 40, .slice (some ⟨w1.heap.size + 1, 0, none⟩) 3 3] 25)).alloc (.cells #[.int .i64 50, .int .i64 50, .int .i64 50] 2)) := (Below.allocN _ _).alloc (by rw [s1]; omega) _
  have hpc : PC ((w1.alloc (.cells #[.string ⟨#[67, 76]⟩, .slice (some ⟨a, 0, none⟩) 3 3, .int .i64 5, .int .i64 0, .int .i64 100, .int .i64 100, .int .i64 1, .int .i64 4, .int .i64 2, .int .i64 40, .slice (some ⟨w1.heap.size + 1, 0, none⟩) 3 3] 25)).alloc (.cells #[.int .i64 50, .int .i64 50, .int .i64 50] 2)) w1.heap.size (fiftyP a (w1.heap.size + 1)) := (PC.new w1 (fiftyP a (w1.heap.size + 1))).below (Below.allocN _ _) (by rw [s1]; omega)
  have hs : Blk ((w1.alloc (.cells #[.string ⟨#[67, 76]⟩, .slice (some ⟨a, 0, none⟩) 3 3, .int .i64 5, .int .i64 0, .int .i64 100, .int .i64 100, .int .i64 1, .int .i64 4, .int .i64 2, .int .i64 40, .slice (some ⟨w1.heap.size + 1, 0, none⟩) 3 3] 25)).alloc (.cells #[.int .i64 50, .int .i64 50, .int .i64 50] 2)) (w1.heap.size + 1) 2 (([50, 50, 50] : List Int).map (Value.int .i64)).toArray := by
    have := Blk.new (w1.alloc (.cells #[.string ⟨#[67, 76]⟩, .slice (some ⟨a, 0, none⟩) 3 3, .int .i64 5, .int .i64 0, .int .i64 100, .int .i64 100, .int .i64 1, .int .i64 4, .int .i64 2, .int .i64 40, .slice (some ⟨w1.heap.size + 1, 0, none⟩) 3 3] 25)) 2 #[.int .i64 50, .int .i64 50, .int .i64 50]
    rw [s1] at this
    exact this
  have hz : w1.heap.size < ((w1.alloc (.cells #[.string ⟨#[67, 76]⟩, .slice (some ⟨a, 0, none⟩) 3 3, .int .i64 5, .int .i64 0, .int .i64 100, .int .i64 100, .int .i64 1, .int .i64 4, .int .i64 2, .int .i64 40, .slice (some ⟨w1.heap.size + 1, 0, none⟩) 3 3] 25)).alloc (.cells #[.int .i64 50, .int .i64 50, .int .i64 50] 2)).heap.size := by rw [s1, s1]; omega
  have hpv : PV ((w1.alloc (.cells #[.string ⟨#[67, 76]⟩, .slice (some ⟨a, 0, none⟩) 3 3, .int .i64 5, .int .i64 0, .int .i64 100, .int .i64 100, .int .i64 1, .int .i64 4, .int .i64 2, .int .i64 40, .slice (some ⟨w1.heap.size + 1, 0, none⟩) 3 3] 25)).alloc (.cells #[.int .i64 50, .int .i64 50, .int .i64 50] 2)) (fiftyP a (w1.heap.size + 1)) :=
    ⟨by show 2 ≤ 1000; omega, HP.out.mon.below hd, blk_ints hs (show ∀ x ∈ ([50, 50, 50] : List Int), i64ok x by decide), by show 3 ≤ 1000000; omega, by show 3 ≤ 1000000; omega, by show i64ok 5; decide, by show i64ok 0; decide, by show i64ok 100; decide, by show i64ok 100; decide⟩
  have HBK := Lib.hid (HB1.out.trans (hd.mono HB1.out.size))
  clear hs hd
  generalize ((w1.alloc (.cells #[.string ⟨#[67, 76]⟩, .slice (some ⟨a, 0, none⟩) 3 3, .int .i64 5, .int .i64 0, .int .i64 100, .int .i64 100, .int .i64 1, .int .i64 4, .int .i64 2, .int .i64 40, .slice (some ⟨w1.heap.size + 1, 0, none⟩) 3 3] 25)).alloc (.cells #[.int .i64 50, .int .i64 50, .int .i64 50] 2)) = wk at *
  have h1 : Calls Try.prog 18 #[(.agg #[.string ⟨#[67, 76]⟩, .slice (some ⟨a, 0, none⟩) 3 3, .int .i64 5, .int .i64 0, .int .i64 100, .int .i64 100, .int .i64 1, .int .i64 4, .int .i64 2, .int .i64 40, .slice (some ⟨w1.heap.size + 1, 0, none⟩) 3 3]), .int .i64 3, .int .i64 60] wk (fun e w' => e = .returned (.tuple #[.int .i64 100, .int .i64 40, .int .i64 0]) ∧ Below wk.heap.size wk w') := by
    have := prices_any (fiftyP a (w1.heap.size + 1)) 3 60 wk hpv
    rw [fifty_prices] at this
    exact this
  have HPC := Lib.hid hpc
  obtain ⟨b0, b1, b2, b3, b4, b5, b6, b7, b8, b9, b10⟩ := hpc
  simp only [fiftyP, List.length_cons, List.length_nil] at b0 b1 b2 b3 b4 b5 b6 b7 b8 b9 b10
  have HPV := Lib.hid hpv
  clear hpv
  go_wp2_with fail
  refine h1.mono ?_
  rintro e w3 ⟨rfl, hb3⟩
  have hpc3 := HPC.out.below hb3 hz
  have hpv3 := HPV.out.below hb3
  have HB3 := Lib.hid (HBK.out.trans (hb3.mono HBK.out.size))
  have h2 : Calls Try.prog 18 #[(.agg #[.string ⟨#[67, 76]⟩, .slice (some ⟨a, 0, none⟩) 3 3, .int .i64 5, .int .i64 0, .int .i64 100, .int .i64 100, .int .i64 1, .int .i64 4, .int .i64 2, .int .i64 40, .slice (some ⟨w1.heap.size + 1, 0, none⟩) 3 3]), .int .i64 0, .int .i64 5] w3 (fun e w' => e = .returned (.tuple #[.int .i64 0, .int .i64 0, .int .i64 20]) ∧ Below w3.heap.size w3 w') := by
    have := prices_any (fiftyP a (w1.heap.size + 1)) 0 5 w3 hpv3
    rw [fifty_prices0] at this
    exact this
  clear b0 b1 b2 b3 b4 b5 b6 b7 b8 b9 b10 hb3 hpv3 h1
  obtain ⟨b0, b1, b2, b3, b4, b5, b6, b7, b8, b9, b10⟩ := hpc3
  simp only [fiftyP, List.length_cons, List.length_nil] at b0 b1 b2 b3 b4 b5 b6 b7 b8 b9 b10
  go_wp2_with fail
  refine h2.mono ?_
  rintro e w4 ⟨rfl, hb4⟩
  have HB4 := Lib.hid (HB3.out.trans (hb4.mono HB3.out.size))
  clear b0 b1 b2 b3 b4 b5 b6 b7 b8 b9 b10 hb4 h2
  go_wp2_with fail
  go_ret
  exact ⟨by trivial, HB4.out⟩
end Go.Proofs.Ytjjddlfbadahhaa
