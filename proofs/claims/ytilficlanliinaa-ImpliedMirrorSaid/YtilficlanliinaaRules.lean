/- What a spread's two prices are like, for any product that is right. No walk. -/
import Derived.Test.YtilficlanliinaaKeep
namespace Go.Proofs.Ytilficlanliinaa
open Go.RowKit

theorem leg_bd : ∀ n, n ≤ 6 → ∀ k, k < 22 → n + k < countN n → legNear n k < legFar n k ∧ legFar n k < n := by decide
/-- a spread's two months, where it has them -/
theorem legs_some {p : Prod} {inst : Int} (h : (legsP p inst).2.2 = true) : checkP p = 0 ∧ ∃ i j : Nat, legsP p inst = ((i : Int), (j : Int), true) ∧ i < j ∧ j < p.months.length ∧ (p.months.length : Int) ≤ inst ∧ inst < countP p := by
  unfold legsP at h ⊢
  by_cases h1 : inst < 0 ∨ countP p ≤ inst
  · rw [if_pos h1] at h; cases h
  · rw [if_neg h1] at h ⊢
    by_cases h2 : inst < p.months.length
    · rw [if_pos h2] at h; cases h
    · rw [if_neg h2]
      have hz : checkP p = 0 := count_ne (by omega)
      have hl := check_len hz
      have hc := countP_some hz
      have hcn := countN_bd p.months.length hl.2
      have := leg_bd p.months.length hl.2 (inst - p.months.length).toNat (by omega) (by omega)
      exact ⟨hz, _, _, rfl, this.1, this.2, by omega, by omega⟩
theorem legs_none {p : Prod} {inst : Int} (h1 : 0 ≤ inst) (h2 : inst < countP p) (h : (legsP p inst).2.2 = false) : ∃ i : Nat, legsP p inst = ((i : Int), (i : Int), false) ∧ i < p.months.length := by
  unfold legsP at h ⊢
  rw [if_neg (by omega)] at h ⊢
  by_cases h3 : inst < p.months.length
  · rw [if_pos h3]
    exact ⟨inst.toNat, by rw [Int.toNat_of_nonneg h1], by omega⟩
  · rw [if_neg h3] at h; cases h
theorem tick_dvd {t x : Int} (h : offB t x = false) : t ∣ x := by
  unfold offB at h
  exact Int.dvd_of_tmod_eq_zero (by simpa using h)
theorem check_dvd {p : Prod} (h : checkP p = 0) : p.tick ∣ p.low ∧ p.tick ∣ p.high ∧ p.tick ∣ p.wide ∧ ∀ (j : Nat) (x : Int), p.settle[j]? = some x → p.tick ∣ x := by
  have ht := (check_zero h).2.2.1
  unfold ticksB at ht
  simp only [Bool.and_eq_true, Bool.not_eq_true', decide_eq_true_eq] at ht
  refine ⟨tick_dvd ht.1.1.1.2, tick_dvd ht.1.1.2, tick_dvd ht.1.2, fun j x hx => tick_dvd ?_⟩
  have := ht.2
  rw [List.any_eq_false] at this
  simpa using this x (List.mem_of_getElem? hx)
/-- a month's price is right where it is on tick and in band -/
theorem price_month {p : Prod} (h : checkP p = 0) {i : Nat} (hi : i < p.months.length) {x : Int} (hd : p.tick ∣ x) : priceP p i x = 0 ↔ p.low ≤ x ∧ x ≤ p.high := by
  have hc := countP_some h
  have hl := check_len h
  have hcn := countN_bd p.months.length hl.2
  have e1 : lowP p i = p.low := if_neg (by omega)
  have e2 : highP p i = p.high := if_neg (by omega)
  unfold priceP
  rw [if_neg (by omega), if_neg (by omega), if_neg (by rw [Int.tmod_eq_zero_of_dvd hd]; simp), e1, e2]
  by_cases hb : x < p.low ∨ p.high < x
  · rw [if_pos hb]; omega
  · rw [if_neg hb]; omega
theorem price_spread {p : Prod} (h : checkP p = 0) {s x : Int} (h1 : (p.months.length : Int) ≤ s) (h2 : s < countP p) (hd : p.tick ∣ x) (hb : -p.wide ≤ x ∧ x ≤ p.wide) : priceP p s x = 0 := by
  have hl := check_len h
  have e1 : lowP p s = -p.wide := if_pos h1
  have e2 : highP p s = p.wide := if_pos h1
  unfold priceP
  rw [if_neg (by omega), if_neg (by omega), if_neg (by rw [Int.tmod_eq_zero_of_dvd hd]; simp), e1, e2, if_neg (by omega)]
theorem legs_spread {p : Prod} (h : checkP p = 0) {s : Int} (h1 : (p.months.length : Int) ≤ s) (h2 : s < countP p) : ∃ i j : Nat, legsP p s = ((i : Int), (j : Int), true) ∧ i < j ∧ j < p.months.length := by
  have hl := check_len h
  have : (legsP p s).2.2 = true := by
    unfold legsP
    rw [if_neg (by omega), if_neg (by omega)]
  obtain ⟨_, i, j, h3, h4, h5, _⟩ := legs_some this
  exact ⟨i, j, h3, h4, h5⟩
end Go.Proofs.Ytilficlanliinaa
