/- How many instruments there are, and a spread's legs: the walks of refdata.Count, Legs, Price and of legs.Prices. -/
import Derived.Test.YtmaijkoopjocdaaCheck
namespace Go.Proofs.Ytmaijkoopjocdaa
open Go.RowKit

/-- where a walk stands that has boxed its product -/
structure St (w wz : World) (p : Prod) : Prop where
  bel : Below w.heap.size w wz
  pc : PC wz w.heap.size p
  pv : PV wz p
  lt : w.heap.size < wz.heap.size
theorem St.next {w wz wy : World} {p : Prod} (h : St w wz p) (hb : Below wz.heap.size wz wy) : St w wy p :=
  ⟨h.bel.trans (hb.mono h.bel.size), h.pc.below hb h.lt, h.pv.below hb, Nat.lt_of_lt_of_le h.lt hb.size⟩
theorem St.new {w : World} {p : Prod} (hp : PV w p) : St w (w.alloc (.cells p.cells 25)) p :=
  ⟨Below.allocN _ _, PC.new w p, hp.below (Below.allocN _ _), by simp⟩

theorem check_zero {p : Prod} (h : checkP p = 0) : prodB p.code = true ∧ monthsB p.months = true ∧ ticksB p = true ∧ ¬ bandBad p ∧ settleBad p = false ∧ ¬ kindBad p ∧ ¬ qtyBad p := by
  unfold checkP at h
  cases h1 : prodB p.code
  · rw [h1, if_pos rfl] at h; omega
  rw [h1, if_neg (by simp)] at h
  cases h2 : monthsB p.months
  · rw [h2, if_pos rfl] at h; omega
  rw [h2, if_neg (by simp)] at h
  cases h3 : ticksB p
  · rw [h3, if_pos rfl] at h; omega
  rw [h3, if_neg (by simp)] at h
  by_cases h4 : bandBad p
  · rw [if_pos h4] at h; omega
  rw [if_neg h4] at h
  cases h5 : settleBad p
  · rw [h5, if_neg (by simp)] at h
    by_cases h6 : kindBad p
    · rw [if_pos h6] at h; omega
    rw [if_neg h6] at h
    by_cases h7 : qtyBad p
    · rw [if_pos h7] at h; omega
    exact ⟨rfl, rfl, rfl, h4, rfl, h6, h7⟩
  · rw [h5, if_pos rfl] at h; omega
theorem check_len {p : Prod} (h : checkP p = 0) : 2 ≤ p.months.length ∧ p.months.length ≤ 6 := months_len (check_zero h).2.1
theorem check_slen {p : Prod} (h : checkP p = 0) : p.settle.length = p.months.length := by
  have := (check_zero h).2.2.2.2.1
  by_cases hl : p.settle.length = p.months.length
  · exact hl
  · rw [settle_ne hl] at this; cases this
theorem check_tick {p : Prod} (h : checkP p = 0) : 1 ≤ p.tick ∧ p.tick ≤ 1000 := by
  have := (check_zero h).2.2.1
  unfold ticksB at this
  simp only [Bool.and_eq_true, decide_eq_true_eq] at this
  omega

def countN (n : Nat) : Nat := n + n * (n - 1) / 2
def countP (p : Prod) : Int := if checkP p = 0 then (countN p.months.length : Int) else 0
set_option maxRecDepth 20000 in
set_option maxHeartbeats 2000000 in
theorem count_inst_any (p : Prod) (w : World) (hp : PV w p) :
    Calls Try.prog 16 #[p.agg] w fun e w' => e = .returned (.int .i64 (countP p)) ∧ Below w.heap.size w w' := by
  have hs0 := St.new hp
  unfold Prod.cells at hs0
  have HS0 := Lib.hid hs0
  have hck := check_any p _ hs0.pv
  unfold Prod.agg Prod.cells at hck ⊢
  clear hp hs0
  by_cases hz : checkP p = 0
  · have HC : Hid (countP p = countN p.months.length) := Lib.hid (if_pos hz)
    have hlen := check_len hz
    have hn : p.months.length = 2 ∨ p.months.length = 3 ∨ p.months.length = 4 ∨ p.months.length = 5 ∨ p.months.length = 6 := by omega
    have HZ := Lib.hid hz
    clear hz hlen
    go_enter Try.func16, Try.ntmps16
    go_wp2_with fail
    refine hck.mono ?_
    rw [HZ.out]
    rintro e w1 ⟨rfl, hb1⟩
    have HS := Lib.hid (HS0.out.next hb1)
    have b1 := HS.out.pc.2.1
    clear hck hb1
    rcases hn with hn | hn | hn | hn | hn
    all_goals
      rw [hn] at b1
      have HN := Lib.hid hn
      clear hn
      go_wp2_with fail
      go_ret
      exact ⟨by rw [HC.out, HN.out]; rfl, HS.out.bel⟩
  · have HC : Hid (countP p = 0) := Lib.hid (if_neg hz)
    have hz1 : (checkP p == 0) = false := by rw [beq_eq_false_iff_ne]; exact hz
    have hz2 : (checkP p != 0) = true := by rw [bne_iff_ne]; exact hz
    clear hz
    generalize checkP p = cp at *
    go_enter Try.func16, Try.ntmps16
    go_wp2_with fail
    refine hck.mono ?_
    rintro e w1 ⟨rfl, hb1⟩
    have HS := Lib.hid (HS0.out.next hb1)
    clear hck hb1
    go_wp2_with fail
    go_ret
    exact ⟨by rw [HC.out]; rfl, HS.out.bel⟩

/-! ### legs -/
def offN (n i : Nat) : Nat := ((List.range i).map (fun j => n - 1 - j)).sum
theorem offN_zero (n : Nat) : offN n 0 = 0 := rfl
theorem offN_succ (n i : Nat) : offN n (i + 1) = offN n i + (n - 1 - i) := by
  unfold offN
  rw [List.range_succ, List.map_append, List.sum_append]
  simp
theorem offN_end : ∀ n, n ≤ 6 → n + offN n n = countN n := by decide
theorem offN_le : ∀ n, n ≤ 6 → ∀ i, i ≤ n → offN n i ≤ 15 := by decide
def legNear (n k : Nat) : Nat := ((List.range n).find? (fun i => decide (k < offN n (i + 1)))).getD 0
def legFar (n k : Nat) : Nat := legNear n k + 1 + (k - offN n (legNear n k))
theorem legNear_eq {n k i : Nat} (hi : i < n) (h1 : k < offN n (i + 1)) (h2 : ∀ j, j < i → ¬ k < offN n (j + 1)) : legNear n k = i := by
  unfold legNear
  have : (List.range n).find? (fun i => decide (k < offN n (i + 1))) = some i := by
    rw [List.find?_eq_some_iff_append]
    refine ⟨decide_eq_true h1, List.range i, (List.range' (i + 1) (n - i - 1)), ?_, ?_⟩
    · rw [List.range_eq_range', List.range_eq_range', ← List.range'_succ, show n - i - 1 + 1 = n - i by omega]
      have := List.range'_append (s := 0) (m := i) (n := n - i) (step := 1)
      rw [Nat.one_mul, Nat.zero_add, show i + (n - i) = n by omega] at this
      exact this.symm
    · intro j hj
      rw [List.mem_range] at hj
      simpa using h2 j hj
  rw [this]; rfl
def legsP (p : Prod) (inst : Int) : Int × Int × Bool :=
  if inst < 0 ∨ countP p ≤ inst then (0, 0, false) else if inst < p.months.length then (inst, inst, false) else
    (legNear p.months.length (inst - p.months.length).toNat, legFar p.months.length (inst - p.months.length).toNat, true)
end Go.Proofs.Ytmaijkoopjocdaa
