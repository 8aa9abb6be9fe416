/- The walks of cornhillkeep.Three and Product. -/
import Derived.Test.YtilficlanliinaaOwn
import Derived.Deep.RegionHeld3
namespace Go.Proofs.Ytilficlanliinaa
open Go.RowKit

instance (n : Int) : Decidable (i64ok n) := by unfold i64ok; infer_instance
def threeP (rule : Int) (a b : Nat) : Prod := ⟨⟨#[67, 76]⟩, some ⟨a, 0, none⟩, [320, 321, 323], 3, 5, 0, 1000, 200, rule, 4, 2, 40, some ⟨b, 0, none⟩, [500, 505, 490], 3⟩
theorem blk_ints {w : World} {g : Nat} {t : TypeId} {L : List Int} (h : Blk w g t (L.map (Value.int .i64)).toArray) (hok : ∀ x ∈ L, i64ok x) : Ints w (some ⟨g, 0, none⟩) L := by
  intro j x hj
  refine ⟨hok x (List.mem_of_getElem? hj), g, 0, rfl, h.lt, ?_⟩
  rw [Nat.zero_add, h.cell, List.getElem?_toArray, List.getElem?_map, hj]; rfl
set_option maxHeartbeats 1000000 in
theorem three_any (rule : Int) (w : World) :
    Calls Try.prog 19 #[.int .i64 rule] w fun e w' => ∃ a b, e = .returned (threeP rule a b).agg ∧ PV w' (threeP rule a b) ∧ Below w.heap.size w w' := by
  go_enter Try.func19, Try.ntmps19
  go_wp2_with fail
  have s1 : ∀ (w : World) (o : Obj), (w.alloc o).heap.size = w.heap.size + 1 := fun w o => by simp
  generalize hA : w.alloc (.cells #[.string ⟨#[67, 76]⟩, .slice (some ⟨w.heap.size + 1, 0, none⟩) 3 3, .int .i64 5, .int .i64 0, .int .i64 1000, .int .i64 200, .int .i64 rule, .int .i64 4, .int .i64 2, .int .i64 40, .slice (some ⟨w.heap.size + 1 + 1, 0, none⟩) 3 3] 25) = wa
  have z1 : wa.heap.size = w.heap.size + 1 := by rw [← hA]; exact s1 _ _
  have hm := Blk.new wa 3 #[.int .i64 320, .int .i64 321, .int .i64 323]
  have hb1 : Below w.heap.size w wa := by rw [← hA]; exact Below.allocN _ _
  have p0 : wa.heap[w.heap.size]? = some (.cells #[.string ⟨#[67, 76]⟩, .slice (some ⟨w.heap.size + 1, 0, none⟩) 3 3, .int .i64 5, .int .i64 0, .int .i64 1000, .int .i64 200, .int .i64 rule, .int .i64 4, .int .i64 2, .int .i64 40, .slice (some ⟨w.heap.size + 1 + 1, 0, none⟩) 3 3] 25) := by rw [← hA]; exact heap_alloc_new w _
  have hm2 : Blk ((wa.alloc (.cells #[.int .i64 320, .int .i64 321, .int .i64 323] 3)).alloc (.cells #[.int .i64 500, .int .i64 505, .int .i64 490] 2)) (w.heap.size + 1) 3 (([320, 321, 323] : List Int).map (Value.int .i64)).toArray := by rw [← z1]; exact hm.alloc _
  have hs2 : Blk ((wa.alloc (.cells #[.int .i64 320, .int .i64 321, .int .i64 323] 3)).alloc (.cells #[.int .i64 500, .int .i64 505, .int .i64 490] 2)) (w.heap.size + 1 + 1) 2 (([500, 505, 490] : List Int).map (Value.int .i64)).toArray := by
    have := Blk.new (wa.alloc (.cells #[.int .i64 320, .int .i64 321, .int .i64 323] 3)) 2 #[.int .i64 500, .int .i64 505, .int .i64 490]
    rw [s1, z1] at this
    exact this
  have e1 : ∀ x ∈ ([320, 321, 323] : List Int), i64ok x := by decide
  have e2 : ∀ x ∈ ([500, 505, 490] : List Int), i64ok x := by decide
  have hp : ∀ i, i < 11 → ((wa.alloc (.cells #[.int .i64 320, .int .i64 321, .int .i64 323] 3)).alloc (.cells #[.int .i64 500, .int .i64 505, .int .i64 490] 2)).cell? ⟨w.heap.size, i, none⟩ = (threeP rule (w.heap.size + 1) (w.heap.size + 1 + 1)).cells[i]? := by
    intro i hi
    have hb : Blk wa w.heap.size 25 (threeP rule (w.heap.size + 1) (w.heap.size + 1 + 1)).cells := p0
    exact ((hb.alloc _).alloc _).cell i
  have c0 := hp 0 (by omega)
  have c1 := hp 1 (by omega)
  have c2 := hp 2 (by omega)
  have c3 := hp 3 (by omega)
  have c4 := hp 4 (by omega)
  have c5 := hp 5 (by omega)
  have c6 := hp 6 (by omega)
  have c7 := hp 7 (by omega)
  have c8 := hp 8 (by omega)
  have c9 := hp 9 (by omega)
  have c10 := hp 10 (by omega)
  have hbb : Below w.heap.size w ((wa.alloc (.cells #[.int .i64 320, .int .i64 321, .int .i64 323] 3)).alloc (.cells #[.int .i64 500, .int .i64 505, .int .i64 490] 2)) := (hb1.alloc hb1.size _).alloc (by rw [s1]; omega) _
  have hpv : PV ((wa.alloc (.cells #[.int .i64 320, .int .i64 321, .int .i64 323] 3)).alloc (.cells #[.int .i64 500, .int .i64 505, .int .i64 490] 2)) (threeP rule (w.heap.size + 1) (w.heap.size + 1 + 1)) :=
    ⟨by show 2 ≤ 1000; omega, blk_ints hm2 e1, blk_ints hs2 e2, by show 3 ≤ 1000000; omega, by show 3 ≤ 1000000; omega, by show i64ok 5; decide, by show i64ok 0; decide, by show i64ok 1000; decide, by show i64ok 200; decide⟩
  clear hm hm2 hs2 p0 hA hp
  generalize ((wa.alloc (.cells #[.int .i64 320, .int .i64 321, .int .i64 323] 3)).alloc (.cells #[.int .i64 500, .int .i64 505, .int .i64 490] 2)) = wc at *
  simp only [threeP, Prod.cells] at c0 c1 c2 c3 c4 c5 c6 c7 c8 c9 c10
  exact bodyPost_ret (v := (threeP rule (w.heap.size + 1) (w.heap.size + 1 + 1)).agg) (by unfold threeP Prod.agg Prod.cells; simp [results, Try.results19, go_sem, *]) rfl ⟨_, _, rfl, hpv, hbb⟩

/-! ### a right product -/
structure Keep where
  n : Nat
  tick : Int
  rule : Int
  top : Int
  least : Int
  part : Int
  wd : Int
structure Keep.ok (k : Keep) : Prop where
  n : 2 ≤ k.n ∧ k.n ≤ 5
  tick : 1 ≤ k.tick ∧ k.tick ≤ 10
  rule : 1 ≤ k.rule ∧ k.rule ≤ 3
  top : 0 ≤ k.top ∧ k.top ≤ 9
  least : 1 ≤ k.least ∧ k.least ≤ 5
  part : 0 ≤ k.part ∧ k.part ≤ 100
  wd : 5 ≤ k.wd ∧ k.wd ≤ 65
def monthsK (n : Nat) : List Int := (List.range n).map (fun (i : Nat) => 10 * (i : Int) + 3)
def settleK (tick : Int) (n : Nat) : List Int := (List.range n).map (fun (i : Nat) => tick * (10 + (i : Int)))
def Keep.prod (k : Keep) (ma : Option Addr) (mc : Nat) (sa : Option Addr) (sc : Nat) : Prod := ⟨⟨#[206, 169]⟩, ma, monthsK k.n, mc, k.tick, -20 * k.tick, 100 * k.tick, k.tick * k.wd, k.rule, k.top, k.least, k.part, sa, settleK k.tick k.n, sc⟩
theorem monthsK_succ (n : Nat) : monthsK (n + 1) = monthsK n ++ [10 * (n : Int) + 3] := by unfold monthsK; rw [List.range_succ, List.map_append]; rfl
theorem settleK_succ (t : Int) (n : Nat) : settleK t (n + 1) = settleK t n ++ [t * (10 + (n : Int))] := by unfold settleK; rw [List.range_succ, List.map_append]; rfl
theorem monthsK_len (n : Nat) : (monthsK n).length = n := by simp [monthsK]
theorem settleK_len (t : Int) (n : Nat) : (settleK t n).length = n := by simp [settleK]
theorem monthsK_good : ∀ n, n ≤ 5 → 2 ≤ n → monthsB (monthsK n) = true := by decide
theorem omega_good : prodB ⟨#[206, 169]⟩ = true := by decide +kernel
theorem cl_good : prodB ⟨#[67, 76]⟩ = true := by decide +kernel
theorem settleK_mem {t : Int} {n : Nat} {x : Int} (h : x ∈ settleK t n) : ∃ i : Nat, i < n ∧ x = t * (10 + (i : Int)) := by
  unfold settleK at h
  rw [List.mem_map] at h
  obtain ⟨i, hi, rfl⟩ := h
  exact ⟨i, List.mem_range.1 hi, rfl⟩
theorem mul_bd {t i : Int} (ht : 1 ≤ t) {a b : Int} (h1 : a ≤ i) (h2 : i ≤ b) : t * a ≤ t * i ∧ t * i ≤ t * b := ⟨Int.mul_le_mul_of_nonneg_left h1 (by omega), Int.mul_le_mul_of_nonneg_left h2 (by omega)⟩
theorem off_mul (t i : Int) : offB t (t * i) = false := by unfold offB; rw [Int.mul_tmod_right]; rfl
theorem keep_check (k : Keep) (h : k.ok) (ma : Option Addr) (mc : Nat) (sa : Option Addr) (sc : Nat) : checkP (k.prod ma mc sa sc) = 0 := by
  obtain ⟨hn, ht, hr, htp, hl, hpt, hw⟩ := h
  have h1 : prodB (k.prod ma mc sa sc).code = true := omega_good
  have h2 : monthsB (k.prod ma mc sa sc).months = true := monthsK_good k.n hn.2 hn.1
  have hwb := mul_bd ht.1 hw.1 hw.2
  have hss : ∀ x ∈ settleK k.tick k.n, offB k.tick x = false ∧ k.tick * 10 ≤ x ∧ x ≤ k.tick * 15 := by
    intro x hx
    obtain ⟨i, hi, rfl⟩ := settleK_mem hx
    have := mul_bd ht.1 (i := 10 + (i : Int)) (a := 10) (b := 15) (by omega) (by omega)
    exact ⟨off_mul _ _, this.1, this.2⟩
  have h3 : ticksB (k.prod ma mc sa sc) = true := by
    unfold ticksB
    show (decide (1 ≤ k.tick) && decide (k.tick ≤ 1000) && !offB k.tick (-20 * k.tick) && !offB k.tick (100 * k.tick) && !offB k.tick (k.tick * k.wd) && !(settleK k.tick k.n).any (offB k.tick)) = true
    rw [Int.mul_comm (-20), Int.mul_comm 100, off_mul, off_mul, off_mul, decide_eq_true ht.1, decide_eq_true (show k.tick ≤ 1000 by omega), any_none fun j x hx => (hss x (List.mem_of_getElem? hx)).1]
    rfl
  have h4 : ¬ bandBad (k.prod ma mc sa sc) := by
    unfold bandBad
    show ¬ (-20 * k.tick < -1000000 ∨ 100 * k.tick ≤ -20 * k.tick ∨ 1000000 < 100 * k.tick ∨ k.tick * k.wd < 0 ∨ 100 * k.tick - -20 * k.tick < k.tick * k.wd)
    omega
  have h5 : settleBad (k.prod ma mc sa sc) = false := by
    unfold settleBad
    show ((settleK k.tick k.n).length != (monthsK k.n).length || (settleK k.tick k.n).any (fun x => decide (x < -20 * k.tick)) || (settleK k.tick k.n).any (fun x => decide (100 * k.tick < x))) = false
    rw [settleK_len, monthsK_len, any_none (f := fun x => decide (x < -20 * k.tick)) fun j x hx => decide_eq_false (by have := hss x (List.mem_of_getElem? hx); omega), any_none (f := fun x => decide (100 * k.tick < x)) fun j x hx => decide_eq_false (by have := hss x (List.mem_of_getElem? hx); omega)]
    simp
  have h6 : ¬ kindBad (k.prod ma mc sa sc) := by
    unfold kindBad
    show ¬ (k.rule < 1 ∨ 3 < k.rule)
    omega
  have h7 : ¬ qtyBad (k.prod ma mc sa sc) := by
    unfold qtyBad
    show ¬ (k.top < 0 ∨ 1000000 < k.top ∨ k.least < 1 ∨ 1000 < k.least ∨ k.part < 0 ∨ 100 < k.part)
    omega
  unfold checkP
  rw [h1, h2, h3, h5, if_neg (by simp), if_neg (by simp), if_neg (by simp), if_neg h4, if_neg (by simp), if_neg h6, if_neg h7]
theorem three_check (rule : Int) (h : 1 ≤ rule ∧ rule ≤ 3) (a b : Nat) : checkP (threeP rule a b) = 0 := by
  have h1 : prodB (threeP rule a b).code = true := cl_good
  have h2 : monthsB (threeP rule a b).months = true := by show monthsB [320, 321, 323] = true; decide
  have h3 : ticksB (threeP rule a b) = true := by
    show (decide ((1 : Int) ≤ 5) && decide ((5 : Int) ≤ 1000) && !offB 5 0 && !offB 5 1000 && !offB 5 200 && !([500, 505, 490] : List Int).any (offB 5)) = true
    decide
  have h4 : ¬ bandBad (threeP rule a b) := by
    show ¬ ((0 : Int) < -1000000 ∨ (1000 : Int) ≤ 0 ∨ (1000000 : Int) < 1000 ∨ (200 : Int) < 0 ∨ (1000 : Int) - 0 < 200)
    omega
  have h5 : settleBad (threeP rule a b) = false := by
    show (([500, 505, 490] : List Int).length != ([320, 321, 323] : List Int).length || ([500, 505, 490] : List Int).any (fun x => decide (x < 0)) || ([500, 505, 490] : List Int).any (fun x => decide (1000 < x))) = false
    decide
  have h6 : ¬ kindBad (threeP rule a b) := by
    show ¬ (rule < 1 ∨ 3 < rule)
    omega
  have h7 : ¬ qtyBad (threeP rule a b) := by
    show ¬ ((4 : Int) < 0 ∨ (1000000 : Int) < 4 ∨ (2 : Int) < 1 ∨ (1000 : Int) < 2 ∨ (40 : Int) < 0 ∨ (100 : Int) < 40)
    omega
  unfold checkP
  rw [h1, h2, h3, h5, if_neg (by simp), if_neg (by simp), if_neg (by simp), if_neg h4, if_neg (by simp), if_neg h6, if_neg h7]
end Go.Proofs.Ytilficlanliinaa
