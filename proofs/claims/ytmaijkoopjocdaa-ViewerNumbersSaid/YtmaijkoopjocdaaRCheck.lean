/- The walk of cornhillref5.Check. -/
import Derived.Test.YtmaijkoopjocdaaLegs
namespace Go.Proofs.Ytmaijkoopjocdaa
open Go.RowKit

def tickBad (p : Prod) : Prop := p.tick < 1 ∨ 1000 < p.tick ∨ p.low.tmod p.tick ≠ 0 ∨ p.high.tmod p.tick ≠ 0 ∨ p.wide.tmod p.tick ≠ 0
instance (p : Prod) : Decidable (tickBad p) := by unfold tickBad; infer_instance
theorem ticks_bad {p : Prod} (h : tickBad p) : ticksB p = false := by
  unfold ticksB offB
  rcases h with h | h | h | h | h
  · rw [decide_eq_false (show ¬ 1 ≤ p.tick by omega)]; rfl
  · rw [decide_eq_false (show ¬ p.tick ≤ 1000 by omega), Bool.and_false]; rfl
  · rw [show (p.low.tmod p.tick != 0) = true from bne_iff_ne.2 h]; simp
  · rw [show (p.high.tmod p.tick != 0) = true from bne_iff_ne.2 h]; simp
  · rw [show (p.wide.tmod p.tick != 0) = true from bne_iff_ne.2 h]; simp
theorem ticks_good {p : Prod} (h : ¬ tickBad p) : ticksB p = !p.settle.any (offB p.tick) := by
  unfold tickBad at h
  unfold ticksB
  rw [decide_eq_true (show 1 ≤ p.tick by omega), decide_eq_true (show p.tick ≤ 1000 by omega)]
  have e : ∀ x : Int, x.tmod p.tick = 0 → offB p.tick x = false := fun x hx => by unfold offB; rw [hx]; rfl
  rw [e p.low (by omega), e p.high (by omega), e p.wide (by omega)]
  rfl

set_option maxRecDepth 100000 in
set_option maxHeartbeats 200000000 in
theorem rcheck_any (p : Prod) (w : World) (hp : PV w p) :
    Calls Try.prog 47 #[p.agg] w fun e w' => e = .returned (.int .i64 (checkP p)) ∧ Below w.heap.size w w' := by
  have hs0 := St.new hp
  unfold Prod.cells at hs0
  have HS0 := Lib.hid hs0
  unfold Prod.agg Prod.cells
  have hl1 := hp.tick
  have hl2 := hp.low
  have hl3 := hp.high
  have hcz := hp.code
  have hml := hp.mlen
  have hsl := hp.slen
  unfold i64ok at hl1 hl2 hl3
  have HIN : Hid (checkP p = if prodB p.code = false then 12 else if monthsB p.months = false then 1 else if ticksB p = false then 22 else if bandBad p then 23 else if settleBad p = true then 1 else if kindBad p then 31 else if qtyBad p then 24 else 0) := Lib.hid rfl
  clear hp hs0
  go_enter Try.func47, Try.ntmps47
  go_wp2_with fail
  refine (rproduct_any p.code _ (by unfold maxLen; omega)).mono ?_
  rintro e wz ⟨rfl, hb1⟩
  have HS := Lib.hid (HS0.out.next hb1)
  obtain ⟨b0, b1, b2, b3, b4, b5, b6, b7, b8, b9, b10⟩ := HS.out.pc
  clear hb1 HS0
  cases hc : prodB p.code with
  | false =>
    have HC := Lib.hid hc
    clear hc
    go_wp2_with fail
    go_ret
    exact ⟨by rw [HIN.out, HC.out]; rfl, HS.out.bel⟩
  | true =>
    have HC := Lib.hid hc
    clear hc
    by_cases hlm : p.months.length < 2
    · have HM : Hid (monthsB p.months = false) := Lib.hid (by unfold monthsB; rw [decide_eq_false (show ¬ 2 ≤ p.months.length by omega)]; simp)
      have hlm' : (p.months.length : Int) < 2 := by omega
      go_wp2_with fail
      go_ret
      exact ⟨by rw [HIN.out, HC.out, HM.out]; rfl, HS.out.bel⟩
    · by_cases hlx : 6 < p.months.length
      · have HM : Hid (monthsB p.months = false) := Lib.hid (by unfold monthsB; rw [decide_eq_false (show ¬ p.months.length ≤ 6 by omega)]; simp)
        have hlm' : ¬ (p.months.length : Int) < 2 := by omega
        have hlx' : (6 : Int) < (p.months.length : Int) := by omega
        go_wp2_with fail
        go_ret
        exact ⟨by rw [HIN.out, HC.out, HM.out]; rfl, HS.out.bel⟩
      · have hlm' : ¬ (p.months.length : Int) < 2 := by omega
        have hlx' : ¬ (6 : Int) < (p.months.length : Int) := by omega
        go_wp2_with fail
        clear b0 b1 b2 b3 b4 b5 b6 b7 b8 b9 b10
        go_loopw [3] (fun i w' => ∃ k : Nat, i = .int .i64 k ∧ k ≤ p.months.length ∧ St w w' p ∧ Hid (∀ j, j < k → monthOk p.months j = true)) (fun i _ => p.months.length - (intOf i).toNat)
        case atStart => exact ⟨0, rfl, Nat.zero_le _, HS.out, Lib.hid fun j h => by omega⟩
        case round => as_aux_lemma =>
          clear HS
          obtain ⟨k, rfl, hk, hS, HK⟩ := hrel
          obtain ⟨wz, rfl⟩ : ∃ wo : World, wo = wr := ⟨_, rfl⟩
          have HS := Lib.hid hS
          have b1 := hS.pc.2.1
          clear hS
          by_cases hkl : k < p.months.length
          · obtain ⟨x, hx⟩ : ∃ x, p.months[k]? = some x := ⟨_, List.getElem?_eq_getElem hkl⟩
            obtain ⟨hok, b, off, ha, _, c0⟩ := HS.out.pv.mon k x hx
            have hkl' : (k : Int) < (p.months.length : Int) := by omega
            have HM := Lib.hid (monthOk_eq hx)
            rw [ha] at b1
            have HA := Lib.hid ha
            clear ha
            by_cases h1 : x < 0
            · have HB : Hid (monthsB p.months = false) := Lib.hid (monthsB_bad hkl (by rw [HM.out, decide_eq_false (show ¬ 0 ≤ x by omega)]; rfl))
              have d1 : decide (x < 0) = true := decide_eq_true h1
              clear hx hok
              go_wp2_with fail
              go_quiet (fail)
              clear d1
              go_wp2_with fail
              go_ret
              exact ⟨by rw [HIN.out, HC.out, HB.out]; rfl, (HS.out.next (Below.drewN_of wz nq)).bel⟩
            · by_cases h2 : 1199 < x
              · have HB : Hid (monthsB p.months = false) := Lib.hid (monthsB_bad hkl (by rw [HM.out, decide_eq_false (show ¬ x ≤ 1199 by omega), Bool.and_false]; rfl))
                have d1 : decide (x < 0) = false := decide_eq_false h1
                have d2 : decide (1199 < x) = true := decide_eq_true h2
                clear hx hok
                go_wp2_with fail
                go_quiet (fail)
                clear d1 d2
                go_wp2_with fail
                go_ret
                exact ⟨by rw [HIN.out, HC.out, HB.out]; rfl, (HS.out.next (Below.drewN_of wz nq)).bel⟩
              · by_cases hk0 : k = 0
                · have HB : Hid (monthOk p.months k = true) := Lib.hid (by rw [HM.out, decide_eq_true (show 0 ≤ x by omega), decide_eq_true (show x ≤ 1199 by omega), hk0]; rfl)
                  have HK0 := Lib.hid hk0
                  have hk1 : ¬ (0 : Int) < (k : Int) := by omega
                  have d1 : decide (x < 0) = false := decide_eq_false h1
                  have d2 : decide (1199 < x) = false := decide_eq_false h2
                  have d3 : decide ((0 : Int) < (k : Int)) = false := decide_eq_false hk1
                  have d4 : decide (0 < k) = false := decide_eq_false (by omega)
                  clear hx hok hk0
                  go_wp2_with fail
                  go_quiet (fail)
                  clear d1 d2 d3 d4
                  go_wp2_with fail
                  go_roundw
                  case rel => exact ⟨k + 1, by go_num, by omega, HS.out.next (Below.drewN_of wz nq), Lib.hid fun j hj => by
                    obtain rfl : j = k := by have := HK0.out; omega
                    exact HB.out⟩
                  case measure => simp [intOf]; omega
                · obtain ⟨k, rfl⟩ : ∃ k', k = k' + 1 := ⟨k - 1, by omega⟩
                  obtain ⟨y, hy⟩ : ∃ y, p.months[k]? = some y := ⟨_, List.getElem?_eq_getElem (by omega)⟩
                  obtain ⟨hok2, b2, off2, he, _, c1⟩ := HS.out.pv.mon k y hy
                  obtain ⟨rfl, rfl⟩ : b = b2 ∧ off = off2 := by rw [HA.out] at he; injection he with he; injection he with h1 h2; exact ⟨h1, h2⟩
                  have HY : Hid (p.months.getD k 0 = y) := Lib.hid (getD_of hy)
                  have hk1 : (0 : Int) < (k : Int) + 1 := by omega
                  have i1 : IntKind.i64.wrap ((k : Int) + 1 - 1) = (k : Int) := by rw [Int.add_sub_cancel]; exact IntWalk.i64_in _ (by omega)
                  by_cases h3 : x ≤ y
                  · have HB : Hid (monthsB p.months = false) := Lib.hid (monthsB_bad hkl (by rw [HM.out, Nat.add_sub_cancel, HY.out, decide_eq_false (show ¬ y < x by omega)]; simp))
                    have d1 : decide (x < 0) = false := decide_eq_false h1
                    have d2 : decide (1199 < x) = false := decide_eq_false h2
                    have d3 : decide ((0 : Int) < (k : Int) + 1) = true := decide_eq_true hk1
                    have d4 : decide (x ≤ y) = true := decide_eq_true h3
                    clear hx hy hok hok2 he
                    go_wp2_with fail
                    go_quiet (fail)
                    clear d1 d2 d3 d4 i1
                    go_wp2_with fail
                    go_ret
                    exact ⟨by rw [HIN.out, HC.out, HB.out]; rfl, (HS.out.next (Below.drewN_of wz nq)).bel⟩
                  · have HB : Hid (monthOk p.months (k + 1) = true) := Lib.hid (by rw [HM.out, Nat.add_sub_cancel, HY.out, decide_eq_true (show 0 ≤ x by omega), decide_eq_true (show x ≤ 1199 by omega), decide_eq_true (show y < x by omega)]; simp)
                    have d1 : decide (x < 0) = false := decide_eq_false h1
                    have d2 : decide (1199 < x) = false := decide_eq_false h2
                    have d3 : decide ((0 : Int) < (k : Int) + 1) = true := decide_eq_true hk1
                    have d4 : decide (x ≤ y) = false := decide_eq_false h3
                    clear hx hy hok hok2 he
                    go_wp2_with fail
                    go_quiet (fail)
                    clear d1 d2 d3 d4 i1
                    go_wp2_with fail
                    go_roundw
                    case rel => exact ⟨k + 2, by go_num, by omega, HS.out.next (Below.drewN_of wz nq), Lib.hid fun j hj => by
                      by_cases hjk : j < k + 1
                      · exact HK.out j hjk
                      · obtain rfl : j = k + 1 := by omega
                        exact HB.out⟩
                    case measure => simp [intOf]; omega
          · obtain rfl : k = p.months.length := by omega
            have HM : Hid (monthsB p.months = true) := Lib.hid (by rw [monthsB_all HK.out, decide_eq_true (show 2 ≤ p.months.length by omega), decide_eq_true (show p.months.length ≤ 6 by omega)]; rfl)
            clear HK b1
            obtain ⟨b0, b1, b2, b3, b4, b5, b6, b7, b8, b9, b10⟩ := HS.out.pc
            go_upto_region 10 with (fail)
            obtain ⟨bb, hbb⟩ : ∃ bb, bb = decide (tickBad p) := ⟨_, rfl⟩
            have HBB := Lib.hid hbb
            clear hbb
            go_cut [90] (fun v wx => v = .bool bb ∧ wz = wx)
            case first =>
              by_cases k0 : p.tick < 1
              · go_wp2_with fail
                go_meet
                exact ⟨congrArg Value.bool (by rw [HBB.out]; exact (decide_eq_true (p := tickBad p) (by unfold tickBad; omega)).symm), rfl⟩
              · by_cases k1 : 1000 < p.tick
                · go_wp2_with fail
                  go_meet
                  exact ⟨congrArg Value.bool (by rw [HBB.out]; exact (decide_eq_true (p := tickBad p) (by unfold tickBad; omega)).symm), rfl⟩
                · have hz : (p.tick == 0) = false := by rw [beq_eq_false_iff_ne]; omega
                  have hz2 : (p.tick == -1) = false := by rw [beq_eq_false_iff_ne]; omega
                  obtain ⟨t1, ht1⟩ : ∃ t, p.low.tmod p.tick = t := ⟨_, rfl⟩
                  obtain ⟨t2, ht2⟩ : ∃ t, p.high.tmod p.tick = t := ⟨_, rfl⟩
                  obtain ⟨t3, ht3⟩ : ∃ t, p.wide.tmod p.tick = t := ⟨_, rfl⟩
                  have HT1 := Lib.hid ht1
                  have HT2 := Lib.hid ht2
                  have HT3 := Lib.hid ht3
                  by_cases k2 : t1 = 0
                  · have e1 : (t1 != 0) = false := by rw [k2]; rfl
                    by_cases k3 : t2 = 0
                    · have e2 : (t2 != 0) = false := by rw [k3]; rfl
                      by_cases k4 : t3 = 0
                      · have e3 : (t3 != 0) = false := by rw [k4]; rfl
                        have K1 := Lib.hid k2
                        have K2 := Lib.hid k3
                        have K3 := Lib.hid k4
                        clear k2 k3 k4
                        go_wp2_with fail
                        go_meet
                        exact ⟨congrArg Value.bool (by rw [HBB.out]; exact (decide_eq_false (p := tickBad p) (by unfold tickBad; have a := K1.out; have b := K2.out; have c := K3.out; have d := HT1.out; have e := HT2.out; have f := HT3.out; omega)).symm), rfl⟩
                      · have e3 : (t3 != 0) = true := by rw [bne_iff_ne]; exact k4
                        have K := Lib.hid k4
                        clear k4
                        go_wp2_with fail
                        go_meet
                        exact ⟨congrArg Value.bool (by rw [HBB.out]; exact (decide_eq_true (p := tickBad p) (by unfold tickBad; have := K.out; have h := HT3.out; omega)).symm), rfl⟩
                    · have e2 : (t2 != 0) = true := by rw [bne_iff_ne]; exact k3
                      have K := Lib.hid k3
                      clear k3
                      go_wp2_with fail
                      go_meet
                      exact ⟨congrArg Value.bool (by rw [HBB.out]; exact (decide_eq_true (p := tickBad p) (by unfold tickBad; have := K.out; have h := HT2.out; omega)).symm), rfl⟩
                  · have e1 : (t1 != 0) = true := by rw [bne_iff_ne]; exact k2
                    have K := Lib.hid k2
                    clear k2
                    go_wp2_with fail
                    go_meet
                    exact ⟨congrArg Value.bool (by rw [HBB.out]; exact (decide_eq_true (p := tickBad p) (by unfold tickBad; have := K.out; have h := HT1.out; omega)).symm), rfl⟩
            case rest => as_aux_lemma =>
            obtain ⟨rfl, rfl⟩ := hcut
            clear b0 b1 b2 b3 b4 b5 b6 b7 b8 b9 b10
            cases bb with
            | true =>
              have HT := Lib.hid (ticks_bad (of_decide_eq_true HBB.out.symm))
              go_wp2_with fail
              go_ret
              exact ⟨by rw [HIN.out, HC.out, HM.out, HT.out]; rfl, HS.out.bel⟩
            | false =>
              have hnt : ¬ tickBad p := of_decide_eq_false HBB.out.symm
              have HTG := Lib.hid (ticks_good hnt)
              unfold tickBad at hnt
              have ht1 : 1 ≤ p.tick ∧ p.tick ≤ 1000 := by omega
              have hz : (p.tick == 0) = false := by rw [beq_eq_false_iff_ne]; omega
              have hz2 : (p.tick == -1) = false := by rw [beq_eq_false_iff_ne]; omega
              clear hnt HBB
              go_wp2_with fail
              go_loopw [4] (fun i w' => ∃ k : Nat, i = .int .i64 k ∧ k ≤ p.settle.length ∧ St w w' p ∧ Hid (∀ (j : Nat) (x : Int), j < k → p.settle[j]? = some x → offB p.tick x = false)) (fun i _ => p.settle.length - (intOf i).toNat)
              case atStart => exact ⟨0, rfl, Nat.zero_le _, HS.out, Lib.hid fun j x h => by omega⟩
              case round => as_aux_lemma =>
                clear HS
                obtain ⟨k, rfl, hk, hS, HK⟩ := hrel
                obtain ⟨wz, rfl⟩ : ∃ wo : World, wo = wr := ⟨_, rfl⟩
                have HS := Lib.hid hS
                obtain ⟨_, _, b2, _, _, _, _, _, _, _, b10⟩ := hS.pc
                clear hS
                by_cases hkl : k < p.settle.length
                · obtain ⟨x, hx⟩ : ∃ x, p.settle[k]? = some x := ⟨_, List.getElem?_eq_getElem hkl⟩
                  obtain ⟨hok, b, off, ha, _, c0⟩ := HS.out.pv.set_ k x hx
                  have hkl' : (k : Int) < (p.settle.length : Int) := by omega
                  rw [ha] at b10
                  clear ha
                  obtain ⟨t, ht⟩ : ∃ t, x.tmod p.tick = t := ⟨_, rfl⟩
                  have HO : Hid (offB p.tick x = (t != 0)) := Lib.hid (by unfold offB; rw [ht])
                  have HX := Lib.hid hx
                  clear hx hok
                  by_cases h0 : t = 0
                  · have e1 : (t != 0) = false := by rw [h0]; rfl
                    have E1 := Lib.hid e1
                    clear h0
                    go_wp2_with fail
                    go_quiet (fail)
                    go_wp2_with fail
                    go_roundw
                    case rel => exact ⟨k + 1, by go_num, by omega, HS.out.next (Below.drewN_of wz nq), Lib.hid fun j y hj hy => by
                      by_cases hjk : j < k
                      · exact HK.out j y hjk hy
                      · obtain rfl : j = k := by omega
                        have := HX.out
                        rw [hy] at this
                        injection this with this
                        rw [this, HO.out, E1.out]⟩
                    case measure => simp [intOf]; omega
                  · have e1 : (t != 0) = true := by rw [bne_iff_ne]; exact h0
                    have HT : Hid (ticksB p = false) := Lib.hid (by rw [HTG.out, any_some HX.out (by rw [HO.out, e1])]; rfl)
                    clear h0
                    go_wp2_with fail
                    go_quiet (fail)
                    go_wp2_with fail
                    go_ret
                    exact ⟨by rw [HIN.out, HC.out, HM.out, HT.out]; rfl, (HS.out.next (Below.drewN_of wz nq)).bel⟩
                · obtain rfl : k = p.settle.length := by omega
                  have HT : Hid (ticksB p = true) := Lib.hid (by rw [HTG.out, any_none fun j x hj => HK.out j x (lt_of_get hj) hj]; rfl)
                  clear HK b2
                  obtain ⟨b0, b1, b2, b3, b4, b5, b6, b7, b8, b9, b10⟩ := HS.out.pc
                  go_upto_region 17 with (fail)
                  obtain ⟨bb, hbb⟩ : ∃ bb, bb = decide (bandBad p) := ⟨_, rfl⟩
                  have HBB := Lib.hid hbb
                  clear hbb
                  go_cut [136] (fun v wx => v = .bool bb ∧ wz = wx)
                  case first =>
                    by_cases k0 : p.low < -1000000
                    · go_wp2_with fail
                      go_meet
                      exact ⟨congrArg Value.bool (by rw [HBB.out]; exact (decide_eq_true (p := bandBad p) (by unfold bandBad; omega)).symm), rfl⟩
                    · by_cases k1 : p.high ≤ p.low
                      · go_wp2_with fail
                        go_meet
                        exact ⟨congrArg Value.bool (by rw [HBB.out]; exact (decide_eq_true (p := bandBad p) (by unfold bandBad; omega)).symm), rfl⟩
                      · by_cases k2 : 1000000 < p.high
                        · go_wp2_with fail
                          go_meet
                          exact ⟨congrArg Value.bool (by rw [HBB.out]; exact (decide_eq_true (p := bandBad p) (by unfold bandBad; omega)).symm), rfl⟩
                        · by_cases k3 : p.wide < 0
                          · go_wp2_with fail
                            go_meet
                            exact ⟨congrArg Value.bool (by rw [HBB.out]; exact (decide_eq_true (p := bandBad p) (by unfold bandBad; omega)).symm), rfl⟩
                          · by_cases k4 : p.high - p.low < p.wide
                            · go_wp2_with fail
                              go_meet
                              exact ⟨congrArg Value.bool (by rw [HBB.out]; exact (decide_eq_true (p := bandBad p) (by unfold bandBad; omega)).symm), rfl⟩
                            · go_wp2_with fail
                              go_meet
                              exact ⟨congrArg Value.bool (by rw [HBB.out]; exact (decide_eq_false (p := bandBad p) (by unfold bandBad; omega)).symm), rfl⟩
                  case rest => as_aux_lemma =>
                  obtain ⟨rfl, rfl⟩ := hcut
                  clear b0 b1 b2 b3 b4 b5 b6 b7 b8 b9 b10
                  cases bb with
                  | true =>
                    go_wp2_with fail
                    go_ret
                    exact ⟨by rw [HIN.out, HC.out, HM.out, HT.out, if_neg (by simp), if_neg (by simp), if_neg (by simp), if_pos (of_decide_eq_true HBB.out.symm)]; rfl, HS.out.bel⟩
                  | false =>
                    have HN1 : Hid (¬ bandBad p) := Lib.hid (of_decide_eq_false HBB.out.symm)
                    have b1 := HS.out.pc.2.1
                    have b10 := HS.out.pc.2.2.2.2.2.2.2.2.2.2
                    clear HBB
                    by_cases hln : p.settle.length = p.months.length
                    · have hne : ((p.settle.length : Int) != (p.months.length : Int)) = false := by rw [hln]; simp
                      have HLN := Lib.hid hln
                      clear hln
                      go_wp2_with fail
                      clear hne b1 b10
                      go_loopw [5] (fun i w' => ∃ k : Nat, i = .int .i64 k ∧ k ≤ p.settle.length ∧ St w w' p ∧ Hid (∀ (j : Nat) (x : Int), j < k → p.settle[j]? = some x → decide (x < p.low) = false ∧ decide (p.high < x) = false)) (fun i _ => p.settle.length - (intOf i).toNat)
                      case atStart => exact ⟨0, rfl, Nat.zero_le _, HS.out, Lib.hid fun j x h => by omega⟩
                      case round => as_aux_lemma =>
                        clear HS
                        obtain ⟨k, rfl, hk, hS, HK⟩ := hrel
                        obtain ⟨wz, rfl⟩ : ∃ wo : World, wo = wr := ⟨_, rfl⟩
                        have HS := Lib.hid hS
                        obtain ⟨_, _, _, b3, b4, _, _, _, _, _, b10⟩ := hS.pc
                        clear hS
                        by_cases hkl : k < p.settle.length
                        · obtain ⟨x, hx⟩ : ∃ x, p.settle[k]? = some x := ⟨_, List.getElem?_eq_getElem hkl⟩
                          obtain ⟨hok, b, off, ha, _, c0⟩ := HS.out.pv.set_ k x hx
                          have hkl' : (k : Int) < (p.settle.length : Int) := by omega
                          rw [ha] at b10
                          clear ha
                          have HX := Lib.hid hx
                          clear hx hok
                          by_cases h1 : x < p.low
                          · have HB : Hid (settleBad p = true) := Lib.hid (by unfold settleBad; rw [any_some (f := fun x => decide (x < p.low)) HX.out (decide_eq_true h1)]; simp)
                            have d1 : decide (x < p.low) = true := decide_eq_true h1
                            go_wp2_with fail
                            go_quiet (fail)
                            clear d1
                            go_wp2_with fail
                            go_ret
                            exact ⟨by rw [HIN.out, HC.out, HM.out, HT.out, if_neg (by simp), if_neg (by simp), if_neg (by simp), if_neg HN1.out, HB.out, if_pos rfl]; rfl, (HS.out.next (Below.drewN_of wz nq)).bel⟩
                          · by_cases h2 : p.high < x
                            · have HB : Hid (settleBad p = true) := Lib.hid (by unfold settleBad; rw [any_some (f := fun x => decide (p.high < x)) HX.out (decide_eq_true h2)]; simp)
                              have d1 : decide (x < p.low) = false := decide_eq_false h1
                              have d2 : decide (p.high < x) = true := decide_eq_true h2
                              go_wp2_with fail
                              go_quiet (fail)
                              clear d1 d2
                              go_wp2_with fail
                              go_ret
                              exact ⟨by rw [HIN.out, HC.out, HM.out, HT.out, if_neg (by simp), if_neg (by simp), if_neg (by simp), if_neg HN1.out, HB.out, if_pos rfl]; rfl, (HS.out.next (Below.drewN_of wz nq)).bel⟩
                            · have E : Hid (decide (x < p.low) = false ∧ decide (p.high < x) = false) := Lib.hid ⟨decide_eq_false h1, decide_eq_false h2⟩
                              have d1 : decide (x < p.low) = false := decide_eq_false h1
                              have d2 : decide (p.high < x) = false := decide_eq_false h2
                              go_wp2_with fail
                              go_quiet (fail)
                              clear d1 d2
                              go_wp2_with fail
                              go_roundw
                              case rel => exact ⟨k + 1, by go_num, by omega, HS.out.next (Below.drewN_of wz nq), Lib.hid fun j y hj hy => by
                                by_cases hjk : j < k
                                · exact HK.out j y hjk hy
                                · obtain rfl : j = k := by omega
                                  have := HX.out
                                  rw [hy] at this
                                  injection this with this
                                  rw [this]; exact E.out⟩
                              case measure => simp [intOf]; omega
                        · obtain rfl : k = p.settle.length := by omega
                          have HSB : Hid (settleBad p = false) := Lib.hid (by
                            unfold settleBad
                            rw [show (p.settle.length != p.months.length) = false from by rw [HLN.out]; simp, any_none (f := fun x => decide (x < p.low)) fun j x hj => (HK.out j x (lt_of_get hj) hj).1, any_none (f := fun x => decide (p.high < x)) fun j x hj => (HK.out j x (lt_of_get hj) hj).2]
                            rfl)
                          clear HK b3 b4 b10
                          obtain ⟨b0, b1, b2, b3, b4, b5, b6, b7, b8, b9, b10⟩ := HS.out.pc
                          go_upto_region 26 with (fail)
                          obtain ⟨bb, hbb⟩ : ∃ bb, bb = decide (kindBad p) := ⟨_, rfl⟩
                          have HBB := Lib.hid hbb
                          clear hbb
                          go_cut [176] (fun v wx => v = .bool bb ∧ wz = wx)
                          case first =>
                            by_cases k0 : p.rule < 1
                            · go_wp2_with fail
                              go_meet
                              exact ⟨congrArg Value.bool (by rw [HBB.out]; exact (decide_eq_true (p := kindBad p) (by unfold kindBad; omega)).symm), rfl⟩
                            · by_cases k1 : 3 < p.rule
                              · go_wp2_with fail
                                go_meet
                                exact ⟨congrArg Value.bool (by rw [HBB.out]; exact (decide_eq_true (p := kindBad p) (by unfold kindBad; omega)).symm), rfl⟩
                              · go_wp2_with fail
                                go_meet
                                exact ⟨congrArg Value.bool (by rw [HBB.out]; exact (decide_eq_false (p := kindBad p) (by unfold kindBad; omega)).symm), rfl⟩
                          case rest => as_aux_lemma =>
                          obtain ⟨rfl, rfl⟩ := hcut
                          clear b0 b1 b2 b3 b4 b5 b6 b7 b8 b9 b10
                          cases bb with
                          | true =>
                            go_wp2_with fail
                            go_ret
                            exact ⟨by rw [HIN.out, HC.out, HM.out, HT.out, if_neg (by simp), if_neg (by simp), if_neg (by simp), if_neg HN1.out, HSB.out, if_neg (by simp), if_pos (of_decide_eq_true HBB.out.symm)]; rfl, HS.out.bel⟩
                          | false =>
                            have HN2 : Hid (¬ kindBad p) := Lib.hid (of_decide_eq_false HBB.out.symm)
                            clear HBB
                            obtain ⟨b0, b1, b2, b3, b4, b5, b6, b7, b8, b9, b10⟩ := HS.out.pc
                            go_upto_region 28 with (fail)
                            obtain ⟨bb, hbb⟩ : ∃ bb, bb = decide (qtyBad p) := ⟨_, rfl⟩
                            have HBB := Lib.hid hbb
                            clear hbb
                            go_cut [204] (fun v wx => v = .bool bb ∧ wz = wx)
                            case first =>
                              by_cases k0 : p.top < 0
                              · go_wp2_with fail
                                go_meet
                                exact ⟨congrArg Value.bool (by rw [HBB.out]; exact (decide_eq_true (p := qtyBad p) (by unfold qtyBad; omega)).symm), rfl⟩
                              · by_cases k1 : 1000000 < p.top
                                · go_wp2_with fail
                                  go_meet
                                  exact ⟨congrArg Value.bool (by rw [HBB.out]; exact (decide_eq_true (p := qtyBad p) (by unfold qtyBad; omega)).symm), rfl⟩
                                · by_cases k2 : p.least < 1
                                  · go_wp2_with fail
                                    go_meet
                                    exact ⟨congrArg Value.bool (by rw [HBB.out]; exact (decide_eq_true (p := qtyBad p) (by unfold qtyBad; omega)).symm), rfl⟩
                                  · by_cases k3 : 1000 < p.least
                                    · go_wp2_with fail
                                      go_meet
                                      exact ⟨congrArg Value.bool (by rw [HBB.out]; exact (decide_eq_true (p := qtyBad p) (by unfold qtyBad; omega)).symm), rfl⟩
                                    · by_cases k4 : p.part < 0
                                      · go_wp2_with fail
                                        go_meet
                                        exact ⟨congrArg Value.bool (by rw [HBB.out]; exact (decide_eq_true (p := qtyBad p) (by unfold qtyBad; omega)).symm), rfl⟩
                                      · by_cases k5 : 100 < p.part
                                        · go_wp2_with fail
                                          go_meet
                                          exact ⟨congrArg Value.bool (by rw [HBB.out]; exact (decide_eq_true (p := qtyBad p) (by unfold qtyBad; omega)).symm), rfl⟩
                                        · go_wp2_with fail
                                          go_meet
                                          exact ⟨congrArg Value.bool (by rw [HBB.out]; exact (decide_eq_false (p := qtyBad p) (by unfold qtyBad; omega)).symm), rfl⟩
                            case rest => as_aux_lemma =>
                            obtain ⟨rfl, rfl⟩ := hcut
                            clear b0 b1 b2 b3 b4 b5 b6 b7 b8 b9 b10
                            cases bb with
                            | true =>
                              go_wp2_with fail
                              go_ret
                              exact ⟨by rw [HIN.out, HC.out, HM.out, HT.out, if_neg (by simp), if_neg (by simp), if_neg (by simp), if_neg HN1.out, HSB.out, if_neg (by simp), if_neg HN2.out, if_pos (of_decide_eq_true HBB.out.symm)]; rfl, HS.out.bel⟩
                            | false =>
                              go_wp2_with fail
                              go_ret
                              exact ⟨by rw [HIN.out, HC.out, HM.out, HT.out, if_neg (by simp), if_neg (by simp), if_neg (by simp), if_neg HN1.out, HSB.out, if_neg (by simp), if_neg HN2.out, if_neg (of_decide_eq_false HBB.out.symm)]; rfl, HS.out.bel⟩
                    · have hne : ((p.settle.length : Int) != (p.months.length : Int)) = true := by rw [bne_iff_ne]; omega
                      have HB := Lib.hid (settle_ne hln)
                      clear hln
                      go_wp2_with fail
                      go_ret
                      exact ⟨by rw [HIN.out, HC.out, HM.out, HT.out, if_neg (by simp), if_neg (by simp), if_neg (by simp), if_neg HN1.out, HB.out, if_pos rfl]; rfl, HS.out.bel⟩
end Go.Proofs.Ytmaijkoopjocdaa
