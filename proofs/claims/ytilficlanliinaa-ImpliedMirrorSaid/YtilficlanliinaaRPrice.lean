/- The walk of cornhillref5.Price. -/
import Derived.Test.YtilficlanliinaaRLegs
namespace Go.Proofs.Ytilficlanliinaa
open Go.RowKit

/-- which of the two a known instrument is -/
theorem legs_kind {p : Prod} {inst : Int} (h0 : 0 ≤ inst) (h1 : inst < countP p) : (legsP p inst).2.2 = decide ((p.months.length : Int) ≤ inst) := by
  unfold legsP
  rw [if_neg (by omega)]
  by_cases h : inst < p.months.length
  · rw [if_pos h, decide_eq_false (by omega)]
  · rw [if_neg h, decide_eq_true (by omega)]
set_option maxHeartbeats 8000000 in
theorem rprice_any (p : Prod) (inst price : Int) (w : World) (hp : PV w p) :
    Calls Try.prog 46 #[p.agg, .int .i64 inst, .int .i64 price] w fun e w' => e = .returned (.int .i64 (priceP p inst price)) ∧ Below w.heap.size w w' := by
  have hs0 := St.new hp
  unfold Prod.cells at hs0
  have HS0 := Lib.hid hs0
  have hck := rcheck_any p _ hs0.pv
  have HCO := Lib.hid fun wz (h : PV wz p) => rcount_inst_any p wz h
  have HLG := Lib.hid fun wz (h : PV wz p) => rlegs_any p inst wz h
  unfold Prod.agg Prod.cells at hck HCO HLG ⊢
  clear hp hs0
  obtain ⟨b0, b1, b2, b3, b4, b5, b6, b7, b8, b9, b10⟩ := HS0.out.pc
  by_cases hz : checkP p = 0
  · rw [hz] at hck
    have hcp := count_pos hz
    have hcb := countP_bd p
    by_cases hneg : inst < 0
    · have HL : Hid (priceP p inst price = 20) := Lib.hid (by unfold priceP; rw [if_neg (by omega), if_pos (.inl hneg)])
      rw [HL.out]
      clear hz
      go_enter Try.func46, Try.ntmps46
      go_wp2_with fail
      refine hck.mono ?_
      rintro e w1 ⟨rfl, hb1⟩
      have HS := Lib.hid (HS0.out.next hb1)
      clear hck hb1 b0 b1 b2 b3 b4 b5 b6 b7 b8 b9 b10
      go_wp2_with fail
      go_ret
      exact ⟨by rfl, HS.out.bel⟩
    · by_cases hge : countP p ≤ inst
      · have HL : Hid (priceP p inst price = 20) := Lib.hid (by unfold priceP; rw [if_neg (by omega), if_pos (.inr hge)])
        rw [HL.out]
        clear hz
        generalize countP p = cp at *
        go_enter Try.func46, Try.ntmps46
        go_wp2_with fail
        refine hck.mono ?_
        rintro e w1 ⟨rfl, hb1⟩
        have HS := Lib.hid (HS0.out.next hb1)
        clear hck hb1 b0 b1 b2 b3 b4 b5 b6 b7 b8 b9 b10
        obtain ⟨b0, b1, b2, b3, b4, b5, b6, b7, b8, b9, b10⟩ := HS.out.pc
        go_wp2_with fail
        refine (HCO.out _ HS.out.pv).mono ?_
        rintro e w2 ⟨rfl, hb2⟩
        have HS2 := Lib.hid (HS.out.next hb2)
        clear hb2 b0 b1 b2 b3 b4 b5 b6 b7 b8 b9 b10
        go_wp2_with fail
        go_ret
        exact ⟨by rfl, HS2.out.bel⟩
      · have htk := check_tick hz
        have hbd := check_band hz
        have hkd := legs_kind (p := p) (inst := inst) (by omega) (by omega)
        have htz : (p.tick == 0) = false := by rw [beq_eq_false_iff_ne]; omega
        have htm : (p.tick == -1) = false := by rw [beq_eq_false_iff_ne]; omega
        obtain ⟨t, ht⟩ : ∃ t, price.tmod p.tick = t := ⟨_, rfl⟩
        have HT := Lib.hid ht
        clear ht
        have HLB : Hid (priceP p inst price = if t ≠ 0 then 22 else if price < lowP p inst ∨ highP p inst < price then 23 else 0) := Lib.hid (by unfold priceP; rw [if_neg (by omega), if_neg (by omega), HT.out])
        by_cases ht0 : t = 0
        · have e1 : (t != 0) = false := by rw [ht0]; rfl
          have HLC : Hid (priceP p inst price = if price < lowP p inst ∨ highP p inst < price then 23 else 0) := Lib.hid (by rw [HLB.out, if_neg (by simp [ht0])])
          clear ht0
          have y1 : IntKind.i64.wrap (-p.wide) = -p.wide := IntWalk.i64_in _ (by omega)
          by_cases hm : (p.months.length : Int) ≤ inst
          · have hlo : lowP p inst = -p.wide := if_pos hm
            have hhi : highP p inst = p.wide := if_pos hm
            rw [decide_eq_true hm] at hkd
            obtain ⟨l0, l1, l2, hl⟩ : ∃ l0 l1 l2, legsP p inst = (l0, l1, l2) := ⟨_, _, _, rfl⟩
            rw [hl] at HLG hkd
            replace hkd : l2 = true := hkd
            subst hkd
            rw [hlo, hhi] at HLC
            clear hz hl hlo hhi
            generalize countP p = cp at *
            by_cases k1 : price < -p.wide
            · have HL : Hid (priceP p inst price = 23) := Lib.hid (by rw [HLC.out, if_pos (.inl k1)])
              rw [HL.out]
              go_enter Try.func46, Try.ntmps46
              go_wp2_with fail
              refine hck.mono ?_
              rintro e w1 ⟨rfl, hb1⟩
              have HS := Lib.hid (HS0.out.next hb1)
              clear hck hb1 b0 b1 b2 b3 b4 b5 b6 b7 b8 b9 b10
              obtain ⟨b0, b1, b2, b3, b4, b5, b6, b7, b8, b9, b10⟩ := HS.out.pc
              go_wp2_with fail
              refine (HCO.out _ HS.out.pv).mono ?_
              rintro e w2 ⟨rfl, hb2⟩
              have HS2 := Lib.hid (HS.out.next hb2)
              clear hb2 b0 b1 b2 b3 b4 b5 b6 b7 b8 b9 b10
              obtain ⟨b0, b1, b2, b3, b4, b5, b6, b7, b8, b9, b10⟩ := HS2.out.pc
              have ht := HT.out
              go_wp2_with fail
              clear ht
              refine (HLG.out _ HS2.out.pv).mono ?_
              rintro e w3 ⟨rfl, hb3⟩
              have HS3 := Lib.hid (HS2.out.next hb3)
              clear hb3 b0 b1 b2 b3 b4 b5 b6 b7 b8 b9 b10
              obtain ⟨b0, b1, b2, b3, b4, b5, b6, b7, b8, b9, b10⟩ := HS3.out.pc
              go_wp2_with fail
              go_ret
              exact ⟨by rfl, HS3.out.bel⟩
            · by_cases k2 : p.wide < price
              · have HL : Hid (priceP p inst price = 23) := Lib.hid (by rw [HLC.out, if_pos (.inr k2)])
                rw [HL.out]
                go_enter Try.func46, Try.ntmps46
                go_wp2_with fail
                refine hck.mono ?_
                rintro e w1 ⟨rfl, hb1⟩
                have HS := Lib.hid (HS0.out.next hb1)
                clear hck hb1 b0 b1 b2 b3 b4 b5 b6 b7 b8 b9 b10
                obtain ⟨b0, b1, b2, b3, b4, b5, b6, b7, b8, b9, b10⟩ := HS.out.pc
                go_wp2_with fail
                refine (HCO.out _ HS.out.pv).mono ?_
                rintro e w2 ⟨rfl, hb2⟩
                have HS2 := Lib.hid (HS.out.next hb2)
                clear hb2 b0 b1 b2 b3 b4 b5 b6 b7 b8 b9 b10
                obtain ⟨b0, b1, b2, b3, b4, b5, b6, b7, b8, b9, b10⟩ := HS2.out.pc
                have ht := HT.out
                go_wp2_with fail
                clear ht
                refine (HLG.out _ HS2.out.pv).mono ?_
                rintro e w3 ⟨rfl, hb3⟩
                have HS3 := Lib.hid (HS2.out.next hb3)
                clear hb3 b0 b1 b2 b3 b4 b5 b6 b7 b8 b9 b10
                obtain ⟨b0, b1, b2, b3, b4, b5, b6, b7, b8, b9, b10⟩ := HS3.out.pc
                go_wp2_with fail
                go_ret
                exact ⟨by rfl, HS3.out.bel⟩
              · have HL : Hid (priceP p inst price = 0) := Lib.hid (by rw [HLC.out, if_neg (by omega)])
                rw [HL.out]
                go_enter Try.func46, Try.ntmps46
                go_wp2_with fail
                refine hck.mono ?_
                rintro e w1 ⟨rfl, hb1⟩
                have HS := Lib.hid (HS0.out.next hb1)
                clear hck hb1 b0 b1 b2 b3 b4 b5 b6 b7 b8 b9 b10
                obtain ⟨b0, b1, b2, b3, b4, b5, b6, b7, b8, b9, b10⟩ := HS.out.pc
                go_wp2_with fail
                refine (HCO.out _ HS.out.pv).mono ?_
                rintro e w2 ⟨rfl, hb2⟩
                have HS2 := Lib.hid (HS.out.next hb2)
                clear hb2 b0 b1 b2 b3 b4 b5 b6 b7 b8 b9 b10
                obtain ⟨b0, b1, b2, b3, b4, b5, b6, b7, b8, b9, b10⟩ := HS2.out.pc
                have ht := HT.out
                go_wp2_with fail
                clear ht
                refine (HLG.out _ HS2.out.pv).mono ?_
                rintro e w3 ⟨rfl, hb3⟩
                have HS3 := Lib.hid (HS2.out.next hb3)
                clear hb3 b0 b1 b2 b3 b4 b5 b6 b7 b8 b9 b10
                obtain ⟨b0, b1, b2, b3, b4, b5, b6, b7, b8, b9, b10⟩ := HS3.out.pc
                go_wp2_with fail
                go_ret
                exact ⟨by rfl, HS3.out.bel⟩
          · have hlo : lowP p inst = p.low := if_neg hm
            have hhi : highP p inst = p.high := if_neg hm
            rw [decide_eq_false hm] at hkd
            obtain ⟨l0, l1, l2, hl⟩ : ∃ l0 l1 l2, legsP p inst = (l0, l1, l2) := ⟨_, _, _, rfl⟩
            rw [hl] at HLG hkd
            replace hkd : l2 = false := hkd
            subst hkd
            rw [hlo, hhi] at HLC
            clear hz hl hlo hhi
            generalize countP p = cp at *
            by_cases k1 : price < p.low
            · have HL : Hid (priceP p inst price = 23) := Lib.hid (by rw [HLC.out, if_pos (.inl k1)])
              rw [HL.out]
              go_enter Try.func46, Try.ntmps46
              go_wp2_with fail
              refine hck.mono ?_
              rintro e w1 ⟨rfl, hb1⟩
              have HS := Lib.hid (HS0.out.next hb1)
              clear hck hb1 b0 b1 b2 b3 b4 b5 b6 b7 b8 b9 b10
              obtain ⟨b0, b1, b2, b3, b4, b5, b6, b7, b8, b9, b10⟩ := HS.out.pc
              go_wp2_with fail
              refine (HCO.out _ HS.out.pv).mono ?_
              rintro e w2 ⟨rfl, hb2⟩
              have HS2 := Lib.hid (HS.out.next hb2)
              clear hb2 b0 b1 b2 b3 b4 b5 b6 b7 b8 b9 b10
              obtain ⟨b0, b1, b2, b3, b4, b5, b6, b7, b8, b9, b10⟩ := HS2.out.pc
              have ht := HT.out
              go_wp2_with fail
              clear ht
              refine (HLG.out _ HS2.out.pv).mono ?_
              rintro e w3 ⟨rfl, hb3⟩
              have HS3 := Lib.hid (HS2.out.next hb3)
              clear hb3 b0 b1 b2 b3 b4 b5 b6 b7 b8 b9 b10
              obtain ⟨b0, b1, b2, b3, b4, b5, b6, b7, b8, b9, b10⟩ := HS3.out.pc
              go_wp2_with fail
              go_ret
              exact ⟨by rfl, HS3.out.bel⟩
            · by_cases k2 : p.high < price
              · have HL : Hid (priceP p inst price = 23) := Lib.hid (by rw [HLC.out, if_pos (.inr k2)])
                rw [HL.out]
                go_enter Try.func46, Try.ntmps46
                go_wp2_with fail
                refine hck.mono ?_
                rintro e w1 ⟨rfl, hb1⟩
                have HS := Lib.hid (HS0.out.next hb1)
                clear hck hb1 b0 b1 b2 b3 b4 b5 b6 b7 b8 b9 b10
                obtain ⟨b0, b1, b2, b3, b4, b5, b6, b7, b8, b9, b10⟩ := HS.out.pc
                go_wp2_with fail
                refine (HCO.out _ HS.out.pv).mono ?_
                rintro e w2 ⟨rfl, hb2⟩
                have HS2 := Lib.hid (HS.out.next hb2)
                clear hb2 b0 b1 b2 b3 b4 b5 b6 b7 b8 b9 b10
                obtain ⟨b0, b1, b2, b3, b4, b5, b6, b7, b8, b9, b10⟩ := HS2.out.pc
                have ht := HT.out
                go_wp2_with fail
                clear ht
                refine (HLG.out _ HS2.out.pv).mono ?_
                rintro e w3 ⟨rfl, hb3⟩
                have HS3 := Lib.hid (HS2.out.next hb3)
                clear hb3 b0 b1 b2 b3 b4 b5 b6 b7 b8 b9 b10
                obtain ⟨b0, b1, b2, b3, b4, b5, b6, b7, b8, b9, b10⟩ := HS3.out.pc
                go_wp2_with fail
                go_ret
                exact ⟨by rfl, HS3.out.bel⟩
              · have HL : Hid (priceP p inst price = 0) := Lib.hid (by rw [HLC.out, if_neg (by omega)])
                rw [HL.out]
                go_enter Try.func46, Try.ntmps46
                go_wp2_with fail
                refine hck.mono ?_
                rintro e w1 ⟨rfl, hb1⟩
                have HS := Lib.hid (HS0.out.next hb1)
                clear hck hb1 b0 b1 b2 b3 b4 b5 b6 b7 b8 b9 b10
                obtain ⟨b0, b1, b2, b3, b4, b5, b6, b7, b8, b9, b10⟩ := HS.out.pc
                go_wp2_with fail
                refine (HCO.out _ HS.out.pv).mono ?_
                rintro e w2 ⟨rfl, hb2⟩
                have HS2 := Lib.hid (HS.out.next hb2)
                clear hb2 b0 b1 b2 b3 b4 b5 b6 b7 b8 b9 b10
                obtain ⟨b0, b1, b2, b3, b4, b5, b6, b7, b8, b9, b10⟩ := HS2.out.pc
                have ht := HT.out
                go_wp2_with fail
                clear ht
                refine (HLG.out _ HS2.out.pv).mono ?_
                rintro e w3 ⟨rfl, hb3⟩
                have HS3 := Lib.hid (HS2.out.next hb3)
                clear hb3 b0 b1 b2 b3 b4 b5 b6 b7 b8 b9 b10
                obtain ⟨b0, b1, b2, b3, b4, b5, b6, b7, b8, b9, b10⟩ := HS3.out.pc
                go_wp2_with fail
                go_ret
                exact ⟨by rfl, HS3.out.bel⟩
        · have e1 : (t != 0) = true := by rw [bne_iff_ne]; exact ht0
          have HL : Hid (priceP p inst price = 22) := Lib.hid (by rw [HLB.out, if_pos ht0])
          rw [HL.out]
          have HTT := Lib.hid ht0
          clear hz hkd ht0 HTT
          generalize countP p = cp at *
          go_enter Try.func46, Try.ntmps46
          go_wp2_with fail
          refine hck.mono ?_
          rintro e w1 ⟨rfl, hb1⟩
          have HS := Lib.hid (HS0.out.next hb1)
          clear hck hb1 b0 b1 b2 b3 b4 b5 b6 b7 b8 b9 b10
          obtain ⟨b0, b1, b2, b3, b4, b5, b6, b7, b8, b9, b10⟩ := HS.out.pc
          go_wp2_with fail
          refine (HCO.out _ HS.out.pv).mono ?_
          rintro e w2 ⟨rfl, hb2⟩
          have HS2 := Lib.hid (HS.out.next hb2)
          clear hb2 b0 b1 b2 b3 b4 b5 b6 b7 b8 b9 b10
          have b2 := HS2.out.pc.2.2.1
          have ht := HT.out
          go_wp2_with fail
          go_ret
          exact ⟨by rfl, HS2.out.bel⟩
  · have HL : Hid (priceP p inst price = 1) := Lib.hid (if_pos (countP_zero hz))
    rw [HL.out]
    have hz2 : (checkP p != 0) = true := by rw [bne_iff_ne]; exact hz
    clear hz
    generalize checkP p = cp at *
    go_enter Try.func46, Try.ntmps46
    go_wp2_with fail
    refine hck.mono ?_
    rintro e w1 ⟨rfl, hb1⟩
    have HS := Lib.hid (HS0.out.next hb1)
    clear hck hb1 b0 b1 b2 b3 b4 b5 b6 b7 b8 b9 b10
    go_wp2_with fail
    go_ret
    exact ⟨by rfl, HS.out.bel⟩
end Go.Proofs.Ytilficlanliinaa
