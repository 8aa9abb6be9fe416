/- What a spread's two prices are like, for any product that is right. No walk. -/
import Derived.Test.YtjjddlfbadahhaaKnown
namespace Go.Proofs.Ytjjddlfbadahhaa
open Go.RowKit

theorem tick_dvd {t x : Int} (h : offB t x = false) : t ∣ x := by
  unfold offB at h
  exact Int.dvd_of_tmod_eq_zero (by simpa using h)
theorem check_dvd {p : Prod} (h : checkP p = 0) : p.tick ∣ p.low ∧ p.tick ∣ p.high ∧ p.tick ∣ p.wide ∧ ∀ (j : Nat) (x : Int), p.settle[j]? = some x → p.tick ∣ x := by
  have ht := (check_zero h).2.2.1
  unfold ticksB at ht
  simp only [Bool.and_eq_true, Bool.not_eq_true', decide_eq_true_eq] at ht
  refine ⟨tick_dvd ht.1.1.1.2, tick_dvd ht.1.1.2, tick_dvd ht.1.2, fun j x hx => tick_dvd ?_⟩
  have := ht.2
  rw [List.any_eq_false] at this
  simpa using this x (List.mem_of_getElem? hx)
/-- a month's price is right where it is on tick and in band -/
theorem price_month {p : Prod} (h : checkP p = 0) {i : Nat} (hi : i < p.months.length) {x : Int} (hd : p.tick ∣ x) : priceP p i x = 0 ↔ p.low ≤ x ∧ x ≤ p.high := by
  have hc := countP_some h
  have hl := check_len h
  have hcn := countN_bd p.months.length hl.2
  have e1 : lowP p i = p.low := if_neg (by omega)
  have e2 : highP p i = p.high := if_neg (by omega)
  unfold priceP
  rw [if_neg (by omega), if_neg (by omega), if_neg (by rw [Int.tmod_eq_zero_of_dvd hd]; simp), e1, e2]
  by_cases hb : x < p.low ∨ p.high < x
  · rw [if_pos hb]; omega
  · rw [if_neg hb]; omega
theorem price_spread {p : Prod} (h : checkP p = 0) {s x : Int} (h1 : (p.months.length : Int) ≤ s) (h2 : s < countP p) (hd : p.tick ∣ x) (hb : -p.wide ≤ x ∧ x ≤ p.wide) : priceP p s x = 0 := by
  have hl := check_len h
  have e1 : lowP p s = -p.wide := if_pos h1
  have e2 : highP p s = p.wide := if_pos h1
  unfold priceP
  rw [if_neg (by omega), if_neg (by omega), if_neg (by rw [Int.tmod_eq_zero_of_dvd hd]; simp), e1, e2, if_neg (by omega)]
theorem legs_spread {p : Prod} (h : checkP p = 0) {s : Int} (h1 : (p.months.length : Int) ≤ s) (h2 : s < countP p) : ∃ i j : Nat, legsP p s = ((i : Int), (j : Int), true) ∧ i < j ∧ j < p.months.length := by
  have hl := check_len h
  have : (legsP p s).2.2 = true := by
    unfold legsP
    rw [if_neg (by omega), if_neg (by omega)]
  obtain ⟨_, i, j, h3, h4, h5, _⟩ := legs_some this
  exact ⟨i, j, h3, h4, h5⟩
/-- the two prices, told out of the far month's settled one -/
theorem prices_eq {p : Prod} (h : checkP p = 0) {s x : Int} (h1 : (p.months.length : Int) ≤ s) (h2 : s < countP p) (hd : p.tick ∣ x) (hb : -p.wide ≤ x ∧ x ≤ p.wide) {i j : Nat} (hl : legsP p s = ((i : Int), (j : Int), true)) {y : Int} (hy : p.settle[j]? = some y) :
    pricesP p s x = if p.high < y + x then (p.high, p.high - x, 0) else if y + x < p.low then (p.low, p.low - x, 0) else (y + x, y, 0) := by
  unfold pricesP
  rw [if_neg (by rw [h]; simp), hl, if_neg (by simp), if_neg (by rw [price_spread h h1 h2 hd hb]; simp)]
  simp only [Int.toNat_natCast]
  rw [getD_of hy]
theorem rules {p : Prod} (h : checkP p = 0) {s x : Int} (h1 : (p.months.length : Int) ≤ s) (h2 : s < countP p) (hd : p.tick ∣ x) (hb : -p.wide ≤ x ∧ x ≤ p.wide) {i j : Nat} (hl : legsP p s = ((i : Int), (j : Int), true)) (hi : i < p.months.length) (hj : j < p.months.length) {y : Int} (hy : p.settle[j]? = some y) :
    ∃ a b, pricesP p s x = (a, b, 0) ∧ a - b = x ∧ priceP p i a = 0 ∧ priceP p j b = 0 ∧ (priceP p i (y + x) = 0 → b = y) ∧ (priceP p i (y + x) ≠ 0 → a = p.high ∨ a = p.low) ∧ p.low ≤ a ∧ a ≤ p.high ∧ p.low ≤ b ∧ b ≤ p.high := by
  obtain ⟨d1, d2, d3, d4⟩ := check_dvd h
  have dy := d4 j y hy
  have hyb := check_settle h hy
  have hbd := check_band h
  rw [prices_eq h h1 h2 hd hb hl hy]
  have pm := fun {x : Int} (hd : p.tick ∣ x) => price_month h hi hd
  have pj := fun {x : Int} (hd : p.tick ∣ x) => price_month h hj hd
  have dyx := Int.dvd_add dy hd
  by_cases k1 : p.high < y + x
  · rw [if_pos k1]
    refine ⟨_, _, rfl, by omega, (pm d2).2 (by omega), (pj (Int.dvd_sub d2 hd)).2 (by omega), fun hz => ?_, fun _ => .inl rfl, by omega, by omega, by omega, by omega⟩
    have := (pm dyx).1 hz
    omega
  · rw [if_neg k1]
    by_cases k2 : y + x < p.low
    · rw [if_pos k2]
      refine ⟨_, _, rfl, by omega, (pm d1).2 (by omega), (pj (Int.dvd_sub d1 hd)).2 (by omega), fun hz => ?_, fun _ => .inr rfl, by omega, by omega, by omega, by omega⟩
      have := (pm dyx).1 hz
      omega
    · rw [if_neg k2]
      refine ⟨_, _, rfl, by omega, (pm dyx).2 (by omega), (pj dy).2 (by omega), fun _ => rfl, fun hz => ?_, by omega, by omega, by omega, by omega⟩
      exact absurd ((pm dyx).2 (by omega)) hz
end Go.Proofs.Ytjjddlfbadahhaa
