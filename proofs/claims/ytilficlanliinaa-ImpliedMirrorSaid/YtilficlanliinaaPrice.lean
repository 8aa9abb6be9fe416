/- The walks of refdata.Price and of legs.Prices. -/
import Derived.Test.YtilficlanliinaaLegs2
namespace Go.Proofs.Ytilficlanliinaa
open Go.RowKit

theorem check_band {p : Prod} (h : checkP p = 0) : -1000000 ≤ p.low ∧ p.low < p.high ∧ p.high ≤ 1000000 ∧ 0 ≤ p.wide ∧ p.wide ≤ p.high - p.low := by
  have := (check_zero h).2.2.2.1
  unfold bandBad at this
  omega
theorem check_settle {p : Prod} (h : checkP p = 0) {j : Nat} {x : Int} (hx : p.settle[j]? = some x) : p.low ≤ x ∧ x ≤ p.high := by
  have := (check_zero h).2.2.2.2.1
  unfold settleBad at this
  simp only [Bool.or_eq_false_iff, List.any_eq_false, decide_eq_true_eq] at this
  have hm := List.mem_of_getElem? hx
  have h1 := this.1.2 x hm
  have h2 := this.2 x hm
  omega
theorem count_ne {p : Prod} (h : countP p ≠ 0) : checkP p = 0 := by
  by_cases hz : checkP p = 0
  · exact hz
  · exact absurd (countP_zero hz) h
theorem count_pos {p : Prod} (h : checkP p = 0) : 0 < countP p := by
  have := check_len h
  have := countN_bd p.months.length (by omega)
  rw [countP_some h]; omega

def lowP (p : Prod) (inst : Int) : Int := if (p.months.length : Int) ≤ inst then -p.wide else p.low
def highP (p : Prod) (inst : Int) : Int := if (p.months.length : Int) ≤ inst then p.wide else p.high
def priceP (p : Prod) (inst price : Int) : Int :=
  if countP p = 0 then 1 else if inst < 0 ∨ countP p ≤ inst then 20 else if price.tmod p.tick ≠ 0 then 22 else if price < lowP p inst ∨ highP p inst < price then 23 else 0
set_option maxHeartbeats 4000000 in
theorem price_any (p : Prod) (inst price : Int) (w : World) (hp : PV w p) :
    Calls Try.prog 15 #[p.agg, .int .i64 inst, .int .i64 price] w fun e w' => e = .returned (.int .i64 (priceP p inst price)) ∧ Below w.heap.size w w' := by
  have hs0 := St.new hp
  unfold Prod.cells at hs0
  have HS0 := Lib.hid hs0
  have hck := count_inst_any p _ hs0.pv
  unfold Prod.agg Prod.cells at hck ⊢
  clear hp hs0
  have hcb := countP_bd p
  by_cases hc0 : countP p = 0
  · have HL : Hid (priceP p inst price = 1) := Lib.hid (if_pos hc0)
    rw [HL.out]
    rw [hc0] at hck
    clear hcb hc0
    go_enter Try.func15, Try.ntmps15
    go_wp2_with fail
    refine hck.mono ?_
    rintro e w1 ⟨rfl, hb1⟩
    have HS := Lib.hid (HS0.out.next hb1)
    clear hck hb1
    go_wp2_with fail
    go_ret
    exact ⟨by rfl, HS.out.bel⟩
  · have hz := count_ne hc0
    have htk := check_tick hz
    have hbd := check_band hz
    have hcz : (countP p == 0) = false := by rw [beq_eq_false_iff_ne]; exact hc0
    by_cases hout : inst < 0 ∨ countP p ≤ inst
    · have HL : Hid (priceP p inst price = 20) := Lib.hid (by unfold priceP; rw [if_neg hc0, if_pos hout])
      rw [HL.out]
      have hcond : inst < 0 ∨ (¬ inst < 0 ∧ countP p ≤ inst) := by omega
      clear hout hz hc0
      generalize countP p = cp at *
      go_enter Try.func15, Try.ntmps15
      go_wp2_with fail
      refine hck.mono ?_
      rintro e w1 ⟨rfl, hb1⟩
      have HS := Lib.hid (HS0.out.next hb1)
      clear hck hb1
      rcases hcond with h | ⟨h, h'⟩
      all_goals
        go_wp2_with fail
        go_ret
        exact ⟨by rfl, HS.out.bel⟩
    · have hin1 : ¬ inst < 0 := by omega
      have hin2 : ¬ countP p ≤ inst := by omega
      obtain ⟨t, ht⟩ : ∃ t, price.tmod p.tick = t := ⟨_, rfl⟩
      have hz1 : (p.tick == 0) = false := by rw [beq_eq_false_iff_ne]; omega
      have hz2 : (p.tick == -1) = false := by rw [beq_eq_false_iff_ne]; omega
      by_cases ht0 : t = 0
      · have e1 : (t != 0) = false := by rw [ht0]; rfl
        have HL : Hid (priceP p inst price = if price < lowP p inst ∨ highP p inst < price then 23 else 0) := Lib.hid (by unfold priceP; rw [if_neg hc0, if_neg hout, if_neg (by rw [ht, ht0]; simp)])
        by_cases hm : (p.months.length : Int) ≤ inst
        · have HLO : Hid (lowP p inst = -p.wide ∧ highP p inst = p.wide) := Lib.hid ⟨if_pos hm, if_pos hm⟩
          rw [HL.out, HLO.out.1, HLO.out.2]
          clear hout hz hc0 ht0
          have hwr : IntKind.i64.wrap (-p.wide) = -p.wide := IntWalk.i64_in _ (by omega)
          generalize countP p = cp at *
          by_cases hq : price < -p.wide
          · rw [if_pos (.inl hq)]
            go_enter Try.func15, Try.ntmps15
            go_wp2_with fail
            refine hck.mono ?_
            rintro e w1 ⟨rfl, hb1⟩
            have HS := Lib.hid (HS0.out.next hb1)
            obtain ⟨b0, b1, b2, b3, b4, b5, b6, b7, b8, b9, b10⟩ := HS.out.pc
            clear hck hb1
            go_wp2_with fail
            go_quiet (fail)
            go_wp2_with fail
            go_quiet (fail)
            go_wp2_with fail
            go_ret
            exact ⟨by rfl, (HS.out.next (Below.drewN_of _ _)).bel⟩
          · by_cases hq2 : p.wide < price
            · rw [if_pos (.inr hq2)]
              go_enter Try.func15, Try.ntmps15
              go_wp2_with fail
              refine hck.mono ?_
              rintro e w1 ⟨rfl, hb1⟩
              have HS := Lib.hid (HS0.out.next hb1)
              obtain ⟨b0, b1, b2, b3, b4, b5, b6, b7, b8, b9, b10⟩ := HS.out.pc
              clear hck hb1
              go_wp2_with fail
              go_quiet (fail)
              go_wp2_with fail
              go_quiet (fail)
              go_wp2_with fail
              go_ret
              exact ⟨by rfl, (HS.out.next (Below.drewN_of _ _)).bel⟩
            · rw [if_neg (by omega)]
              go_enter Try.func15, Try.ntmps15
              go_wp2_with fail
              refine hck.mono ?_
              rintro e w1 ⟨rfl, hb1⟩
              have HS := Lib.hid (HS0.out.next hb1)
              obtain ⟨b0, b1, b2, b3, b4, b5, b6, b7, b8, b9, b10⟩ := HS.out.pc
              clear hck hb1
              go_wp2_with fail
              go_quiet (fail)
              go_wp2_with fail
              go_quiet (fail)
              go_wp2_with fail
              go_ret
              exact ⟨by rfl, (HS.out.next (Below.drewN_of _ _)).bel⟩
        · have HLO : Hid (lowP p inst = p.low ∧ highP p inst = p.high) := Lib.hid ⟨if_neg hm, if_neg hm⟩
          rw [HL.out, HLO.out.1, HLO.out.2]
          clear hout hz hc0 ht0
          generalize countP p = cp at *
          by_cases hq : price < p.low
          · rw [if_pos (.inl hq)]
            go_enter Try.func15, Try.ntmps15
            go_wp2_with fail
            refine hck.mono ?_
            rintro e w1 ⟨rfl, hb1⟩
            have HS := Lib.hid (HS0.out.next hb1)
            obtain ⟨b0, b1, b2, b3, b4, b5, b6, b7, b8, b9, b10⟩ := HS.out.pc
            clear hck hb1
            go_wp2_with fail
            go_quiet (fail)
            go_wp2_with fail
            go_ret
            exact ⟨by rfl, (HS.out.next (Below.drewN_of _ _)).bel⟩
          · by_cases hq2 : p.high < price
            · rw [if_pos (.inr hq2)]
              go_enter Try.func15, Try.ntmps15
              go_wp2_with fail
              refine hck.mono ?_
              rintro e w1 ⟨rfl, hb1⟩
              have HS := Lib.hid (HS0.out.next hb1)
              obtain ⟨b0, b1, b2, b3, b4, b5, b6, b7, b8, b9, b10⟩ := HS.out.pc
              clear hck hb1
              go_wp2_with fail
              go_quiet (fail)
              go_wp2_with fail
              go_ret
              exact ⟨by rfl, (HS.out.next (Below.drewN_of _ _)).bel⟩
            · rw [if_neg (by omega)]
              go_enter Try.func15, Try.ntmps15
              go_wp2_with fail
              refine hck.mono ?_
              rintro e w1 ⟨rfl, hb1⟩
              have HS := Lib.hid (HS0.out.next hb1)
              obtain ⟨b0, b1, b2, b3, b4, b5, b6, b7, b8, b9, b10⟩ := HS.out.pc
              clear hck hb1
              go_wp2_with fail
              go_quiet (fail)
              go_wp2_with fail
              go_ret
              exact ⟨by rfl, (HS.out.next (Below.drewN_of _ _)).bel⟩
      · have e1 : (t != 0) = true := by rw [bne_iff_ne]; exact ht0
        have HL : Hid (priceP p inst price = 22) := Lib.hid (by unfold priceP; rw [if_neg hc0, if_neg hout, if_pos (by rw [ht]; exact ht0)])
        rw [HL.out]
        clear hout hz hc0 ht0
        generalize countP p = cp at *
        go_enter Try.func15, Try.ntmps15
        go_wp2_with fail
        refine hck.mono ?_
        rintro e w1 ⟨rfl, hb1⟩
        have HS := Lib.hid (HS0.out.next hb1)
        obtain ⟨b0, b1, b2, b3, b4, b5, b6, b7, b8, b9, b10⟩ := HS.out.pc
        clear hck hb1
        go_wp2_with fail
        go_ret
        exact ⟨by rfl, HS.out.bel⟩
end Go.Proofs.Ytilficlanliinaa
