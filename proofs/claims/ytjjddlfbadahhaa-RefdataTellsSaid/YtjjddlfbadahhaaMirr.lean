/- A product turned about 0: its check, its legs, its prices; a step of a tick. No walk. -/
import Derived.Test.YtjjddlfbadahhaaLRules
namespace Go.Proofs.Ytjjddlfbadahhaa
open Go.RowKit

def Prod.turn (p : Prod) (sa : Option Addr) (sc : Nat) : Prod := { p with low := -p.high, high := -p.low, sa := sa, settle := p.settle.map (fun x => -x), sc := sc }
theorem off_neg (t x : Int) : offB t (-x) = offB t x := by unfold offB; rw [Int.neg_tmod, bne, bne]; congr 1; rw [Bool.eq_iff_iff]; simp
theorem turn_check {p : Prod} (h : checkP p = 0) (sa : Option Addr) (sc : Nat) : checkP (p.turn sa sc) = 0 := by
  obtain ⟨h1, h2, h3, h4, h5, h6, h7⟩ := check_zero h
  have hb := check_band h
  have e1 : prodB (p.turn sa sc).code = true := h1
  have e2 : monthsB (p.turn sa sc).months = true := h2
  have e3 : ticksB (p.turn sa sc) = true := by
    unfold ticksB at h3 ⊢
    simp only [Bool.and_eq_true, Bool.not_eq_true', decide_eq_true_eq] at h3
    show (decide (1 ≤ p.tick) && decide (p.tick ≤ 1000) && !offB p.tick (-p.high) && !offB p.tick (-p.low) && !offB p.tick p.wide && !(p.settle.map (fun x => -x)).any (offB p.tick)) = true
    rw [off_neg, off_neg, h3.1.1.1.2, h3.1.1.2, h3.1.2, decide_eq_true h3.1.1.1.1.1, decide_eq_true h3.1.1.1.1.2, List.any_map]
    have : (p.settle.any (offB p.tick ∘ fun x => -x)) = p.settle.any (offB p.tick) := by
      congr 1
      funext x
      exact off_neg _ _
    rw [this, h3.2]
    rfl
  have e4 : ¬ bandBad (p.turn sa sc) := by
    unfold bandBad
    show ¬ (-p.high < -1000000 ∨ -p.low ≤ -p.high ∨ 1000000 < -p.low ∨ p.wide < 0 ∨ -p.low - -p.high < p.wide)
    omega
  have e5 : settleBad (p.turn sa sc) = false := by
    unfold settleBad
    show ((p.settle.map (fun x => -x)).length != p.months.length || (p.settle.map (fun x => -x)).any (fun x => decide (x < -p.high)) || (p.settle.map (fun x => -x)).any (fun x => decide (-p.low < x))) = false
    rw [any_none (f := fun x => decide (x < -p.high)) fun j x hx => by
          rw [List.getElem?_map, Option.map_eq_some_iff] at hx
          obtain ⟨y, hy, rfl⟩ := hx
          have := check_settle h hy
          exact decide_eq_false (by omega),
        any_none (f := fun x => decide (-p.low < x)) fun j x hx => by
          rw [List.getElem?_map, Option.map_eq_some_iff] at hx
          obtain ⟨y, hy, rfl⟩ := hx
          have := check_settle h hy
          exact decide_eq_false (by omega)]
    have := check_slen h
    simp [this]
  have e6 : ¬ kindBad (p.turn sa sc) := h6
  have e7 : ¬ qtyBad (p.turn sa sc) := h7
  unfold checkP
  rw [e1, e2, e3, e5, if_neg (by simp), if_neg (by simp), if_neg (by simp), if_neg e4, if_neg (by simp), if_neg e6, if_neg e7]
theorem turn_count {p : Prod} (h : checkP p = 0) (sa : Option Addr) (sc : Nat) : countP (p.turn sa sc) = countP p := by
  rw [countP_some h, countP_some (turn_check h sa sc)]; rfl
theorem turn_legs {p : Prod} (h : checkP p = 0) (sa : Option Addr) (sc : Nat) (s : Int) : legsP (p.turn sa sc) s = legsP p s := by
  unfold legsP
  rw [turn_count h]
  rfl
theorem mirror {p : Prod} (h : checkP p = 0) (sa : Option Addr) (sc : Nat) {s x : Int} (h1 : (p.months.length : Int) ≤ s) (h2 : s < countP p) (hd : p.tick ∣ x) (hb : -p.wide ≤ x ∧ x ≤ p.wide) :
    ∃ a b, pricesP p s x = (a, b, 0) ∧ pricesP (p.turn sa sc) s (-x) = (-a, -b, 0) ∧ -1000000 ≤ a ∧ a ≤ 1000000 ∧ -1000000 ≤ b ∧ b ≤ 1000000 := by
  obtain ⟨i, j, hl, hij, hjn⟩ := legs_spread h h1 h2
  obtain ⟨y, hy⟩ : ∃ y, p.settle[j]? = some y := ⟨_, List.getElem?_eq_getElem (by rw [check_slen h]; omega)⟩
  have hyb := check_settle h hy
  have hbd := check_band h
  have e1 := prices_eq h h1 h2 hd hb hl hy
  have e2 := prices_eq (p := p.turn sa sc) (turn_check h sa sc) (s := s) (x := -x) h1 (by rw [turn_count h]; exact h2) ((Int.dvd_neg).2 hd) (by show -p.wide ≤ -x ∧ -x ≤ p.wide; omega) (by rw [turn_legs h]; exact hl) (y := -y) (by show (p.settle.map (fun x => -x))[j]? = _; rw [List.getElem?_map, hy]; rfl)
  replace e2 : pricesP (p.turn sa sc) s (-x) = if -p.low < -y + -x then (-p.low, -p.low - -x, 0) else if -y + -x < -p.high then (-p.high, -p.high - -x, 0) else (-y + -x, -y, 0) := e2
  rw [e1, e2]
  by_cases k1 : p.high < y + x
  · rw [if_pos k1, if_neg (by omega), if_pos (by omega)]
    exact ⟨_, _, rfl, by congr 2; omega, by omega, by omega, by omega, by omega⟩
  · rw [if_neg k1]
    by_cases k2 : y + x < p.low
    · rw [if_pos k2, if_pos (by omega)]
      exact ⟨_, _, rfl, by congr 2; omega, by omega, by omega, by omega, by omega⟩
    · rw [if_neg k2, if_neg (by omega), if_neg (by omega)]
      exact ⟨_, _, rfl, by congr 1; omega, by omega, by omega, by omega, by omega⟩
theorem step_up {p : Prod} (h : checkP p = 0) {s x : Int} (h1 : (p.months.length : Int) ≤ s) (h2 : s < countP p) (hd : p.tick ∣ x) (hb : -p.wide ≤ x ∧ x + p.tick ≤ p.wide) {a b : Int} (hp : pricesP p s x = (a, b, 0)) :
    ∃ g k, pricesP p s (x + p.tick) = (g, k, 0) ∧ (g = a + p.tick ∧ k = b ∨ g = a ∧ k = b - p.tick) ∧ -1000000 ≤ g ∧ g ≤ 1000000 ∧ -1000000 ≤ k ∧ k ≤ 1000000 := by
  obtain ⟨i, j, hl, hij, hjn⟩ := legs_spread h h1 h2
  obtain ⟨y, hy⟩ : ∃ y, p.settle[j]? = some y := ⟨_, List.getElem?_eq_getElem (by rw [check_slen h]; omega)⟩
  have hyb := check_settle h hy
  have hbd := check_band h
  have htk := check_tick h
  obtain ⟨d1, d2, d3, d4⟩ := check_dvd h
  obtain ⟨ql, hql⟩ := d1
  obtain ⟨qh, hqh⟩ := d2
  obtain ⟨qy, hqy⟩ := d4 j y hy
  obtain ⟨qx, hqx⟩ := hd
  have e1 := prices_eq h h1 h2 ⟨qx, hqx⟩ (by omega) hl hy
  have e2 := prices_eq h h1 h2 (x := x + p.tick) (Int.dvd_add ⟨qx, hqx⟩ (Int.dvd_refl _)) (by omega) hl hy
  rw [hp] at e1
  rw [e2]
  have hm : ∀ {u v : Int}, p.tick * u < p.tick * v → p.tick * u + p.tick ≤ p.tick * v := by
    intro u v huv
    have : u < v := by
      by_cases hc : u < v
      · exact hc
      · have := Int.mul_le_mul_of_nonneg_left (a := v) (b := u) (c := p.tick) (by omega) (by omega)
        omega
    have := Int.mul_le_mul_of_nonneg_left (a := u + 1) (b := v) (c := p.tick) (by omega) (by omega)
    rw [Int.mul_add, Int.mul_one] at this
    exact this
  have hs : y + x = p.tick * (qy + qx) := by rw [Int.mul_add, ← hqy, ← hqx]
  by_cases k1 : p.high < y + x
  · rw [if_pos k1] at e1
    rw [if_pos (by omega)]
    injection e1 with e1 e3
    injection e3 with e3 _
    exact ⟨_, _, rfl, .inr ⟨by omega, by omega⟩, by omega, by omega, by omega, by omega⟩
  · rw [if_neg k1] at e1
    by_cases k2 : y + x < p.low
    · rw [if_pos k2] at e1
      injection e1 with e1 e3
      injection e3 with e3 _
      have k3 : y + x + p.tick ≤ p.low := by rw [hs, hql] at k2 ⊢; exact hm k2
      rw [if_neg (by omega)]
      by_cases k4 : y + (x + p.tick) < p.low
      · rw [if_pos k4]
        exact ⟨_, _, rfl, .inr ⟨by omega, by omega⟩, by omega, by omega, by omega, by omega⟩
      · rw [if_neg k4]
        exact ⟨_, _, rfl, .inr ⟨by omega, by omega⟩, by omega, by omega, by omega, by omega⟩
    · rw [if_neg k2] at e1
      injection e1 with e1 e3
      injection e3 with e3 _
      by_cases k5 : p.high < y + (x + p.tick)
      · rw [if_pos k5]
        have k6 : y + x = p.high := by
          by_cases hc : y + x < p.high
          · have : y + x + p.tick ≤ p.high := by rw [hs, hqh] at hc ⊢; exact hm hc
            omega
          · omega
        exact ⟨_, _, rfl, .inr ⟨by omega, by omega⟩, by omega, by omega, by omega, by omega⟩
      · rw [if_neg k5, if_neg (by omega)]
        exact ⟨_, _, rfl, .inl ⟨by omega, by omega⟩, by omega, by omega, by omega, by omega⟩
end Go.Proofs.Ytjjddlfbadahhaa
