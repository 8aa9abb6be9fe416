/- A product that comes in. -/
import Derived.Test.YtilficlanliinaaRules
namespace Go.Proofs.Ytilficlanliinaa
open Go.RowKit

structure PIn (w : World) (p : Prod) : Prop where
  code : p.code.size ≤ maxLen
  mon : Ints w p.ma p.months
  set_ : Ints w p.sa p.settle
  mlen : p.months.length ≤ 9223372036854775807
  slen : p.settle.length ≤ 9223372036854775807
  tick : i64ok p.tick
  low : i64ok p.low
  high : i64ok p.high
  wide : i64ok p.wide
  rule : i64ok p.rule
  top : i64ok p.top
  least : i64ok p.least
  part : i64ok p.part
theorem PIn.px {w : World} {p : Prod} (h : PIn w p) : PX p := ⟨h.mlen, h.tick, h.wide, h.rule, h.top, h.least, h.part⟩
theorem countN_room : ∀ n, n ≤ 6 → 2 ≤ n → n + 1 ≤ countN n := by decide
theorem wide_div {p : Prod} (h : checkP p = 0) : ∃ d : Nat, p.wide = p.tick * d ∧ p.wide.tdiv p.tick = d ∧ d ≤ 2000000 := by
  obtain ⟨_, _, ⟨d, hd⟩, _⟩ := check_dvd h
  have ht := check_tick h
  have hb := check_band h
  have h0 : 0 ≤ d := by
    by_cases hn : d < 0
    · have := mul_bd ht.1 (i := d) (a := d) (b := -1) (Int.le_refl _) (by omega)
      omega
    · omega
  have h1 : d ≤ 2000000 := by
    have h2 := Int.mul_le_mul_of_nonneg_right (a := 1) (b := p.tick) (c := d) ht.1 h0
    omega
  refine ⟨d.toNat, by rw [Int.toNat_of_nonneg h0]; exact hd, ?_, by omega⟩
  rw [hd, Int.toNat_of_nonneg h0, Int.mul_tdiv_cancel_left _ (by omega)]
end Go.Proofs.Ytilficlanliinaa
