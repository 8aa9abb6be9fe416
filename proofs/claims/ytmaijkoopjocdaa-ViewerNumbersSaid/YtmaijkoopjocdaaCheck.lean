/- What Check answers; the walk of refdata.Check. -/
import Derived.Test.YtmaijkoopjocdaaProd2
import Derived.Deep.DeepCutAuto
import Derived.Deep.QuietTactic
import Derived.IntWalk
namespace Go.Proofs.Ytmaijkoopjocdaa
open Go.RowKit

def bandBad (p : Prod) : Prop := p.low < -1000000 ∨ p.high ≤ p.low ∨ 1000000 < p.high ∨ p.wide < 0 ∨ p.high - p.low < p.wide
def settleBad (p : Prod) : Bool := p.settle.length != p.months.length || p.settle.any (fun x => decide (x < p.low)) || p.settle.any (fun x => decide (p.high < x))
def kindBad (p : Prod) : Prop := p.rule < 1 ∨ 3 < p.rule
def qtyBad (p : Prod) : Prop := p.top < 0 ∨ 1000000 < p.top ∨ p.least < 1 ∨ 1000 < p.least ∨ p.part < 0 ∨ 100 < p.part
instance (p : Prod) : Decidable (bandBad p) := by unfold bandBad; infer_instance
instance (p : Prod) : Decidable (kindBad p) := by unfold kindBad; infer_instance
instance (p : Prod) : Decidable (qtyBad p) := by unfold qtyBad; infer_instance
def checkP (p : Prod) : Int := if prodB p.code = false then 12 else if monthsB p.months = false then 1 else if ticksB p = false then 22 else if bandBad p then 23 else if settleBad p = true then 1 else if kindBad p then 31 else if qtyBad p then 24 else 0
theorem months_len {L : List Int} (h : monthsB L = true) : 2 ≤ L.length ∧ L.length ≤ 6 := by
  unfold monthsB at h
  simp only [Bool.and_eq_true, decide_eq_true_eq] at h
  exact ⟨h.1.2, h.2⟩
theorem settle_ne {p : Prod} (h : p.settle.length ≠ p.months.length) : settleBad p = true := by
  unfold settleBad
  rw [show (p.settle.length != p.months.length) = true from bne_iff_ne.2 h]; rfl
theorem settle_eq {p : Prod} (h : p.settle.length = p.months.length) (h0 : 0 < p.settle.length) : settleBad p = (decide (minL p.settle < p.low) || decide (p.high < maxL p.settle)) := by
  unfold settleBad
  have hne : p.settle ≠ [] := by intro e; rw [e] at h0; exact absurd h0 (by simp)
  rw [show (p.settle.length != p.months.length) = false from by rw [h]; simp, min_lt hne, max_lt hne]
  rfl

set_option maxRecDepth 20000 in
set_option maxHeartbeats 8000000 in
theorem check_any (p : Prod) (w : World) (hp : PV w p) :
    Calls Try.prog 15 #[p.agg] w fun e w' => e = .returned (.int .i64 (checkP p)) ∧ Below w.heap.size w w' := by
  unfold Prod.agg Prod.cells
  have HB0 : Hid (Below w.heap.size w (w.alloc (.cells #[.string p.code, .slice p.ma p.months.length p.mc, .int .i64 p.tick, .int .i64 p.low, .int .i64 p.high, .int .i64 p.wide, .int .i64 p.rule, .int .i64 p.top, .int .i64 p.least, .int .i64 p.part, .slice p.sa p.settle.length p.sc] 25))) := Lib.hid (Below.allocN _ _)
  have HPC0 : Hid (PC (w.alloc (.cells #[.string p.code, .slice p.ma p.months.length p.mc, .int .i64 p.tick, .int .i64 p.low, .int .i64 p.high, .int .i64 p.wide, .int .i64 p.rule, .int .i64 p.top, .int .i64 p.least, .int .i64 p.part, .slice p.sa p.settle.length p.sc] 25)) w.heap.size p) := Lib.hid (PC.new w p)
  have HLT : Hid (w.heap.size < (w.alloc (.cells #[.string p.code, .slice p.ma p.months.length p.mc, .int .i64 p.tick, .int .i64 p.low, .int .i64 p.high, .int .i64 p.wide, .int .i64 p.rule, .int .i64 p.top, .int .i64 p.least, .int .i64 p.part, .slice p.sa p.settle.length p.sc] 25)).heap.size) := Lib.hid (by simp)
  have HP0 := Lib.hid (hp.below HB0.out)
  have hl1 := hp.tick
  have hl2 := hp.low
  have hl3 := hp.high
  unfold i64ok at hl1 hl2 hl3
  have HIN : Hid (checkP p = if prodB p.code = false then 12 else if monthsB p.months = false then 1 else if ticksB p = false then 22 else if bandBad p then 23 else if settleBad p = true then 1 else if kindBad p then 31 else if qtyBad p then 24 else 0) := Lib.hid rfl
  clear hp
  go_enter Try.func15, Try.ntmps15
  go_wp2_with fail
  refine (product_any p.code _ (by have := HP0.out.code; unfold maxLen; omega)).mono ?_
  rintro e w1 ⟨rfl, hb1⟩
  have HB1 := Lib.hid (HB0.out.trans (hb1.mono HB0.out.size))
  obtain ⟨b0, b1, b2, b3, b4, b5, b6, b7, b8, b9, b10⟩ := HPC0.out.below hb1 HLT.out
  have HP1 := Lib.hid (HP0.out.below hb1)
  have hg1 : w.heap.size < w1.heap.size := Nat.lt_of_lt_of_le HLT.out hb1.size
  clear hb1
  cases hc : prodB p.code with
  | false =>
    have HC := Lib.hid hc
    clear hc
    go_wp2_with fail
    go_ret
    exact ⟨by rw [HIN.out, HC.out]; rfl, HB1.out⟩
  | true =>
    have HC := Lib.hid hc
    clear hc
    go_wp2_with fail
    refine (months_any p.ma p.mc p.months _ HP1.out.mon HP1.out.mlen).mono ?_
    rintro e w2 ⟨rfl, rfl⟩
    cases hm : monthsB p.months with
    | false =>
      have HM := Lib.hid hm
      clear hm
      go_wp2_with fail
      go_ret
      exact ⟨by rw [HIN.out, HC.out, HM.out]; rfl, HB1.out⟩
    | true =>
      have HM := Lib.hid hm
      have hlen := months_len hm
      clear hm
      go_wp2_with fail
      have hti := ticks_any p w1 HP1.out
      unfold Prod.agg Prod.cells at hti
      refine hti.mono ?_
      rintro e w3 ⟨rfl, hb3⟩
      have HB3 := Lib.hid (HB1.out.trans (hb3.mono HB1.out.size))
      have hpc3 : PC w3 w.heap.size p := PC.below ⟨b0, b1, b2, b3, b4, b5, b6, b7, b8, b9, b10⟩ hb3 hg1
      have HP3 := Lib.hid (HP1.out.below hb3)
      clear b0 b1 b2 b3 b4 b5 b6 b7 b8 b9 b10 hb3 hti
      obtain ⟨b0, b1, b2, b3, b4, b5, b6, b7, b8, b9, b10⟩ := hpc3
      cases ht : ticksB p with
      | false =>
        have HT := Lib.hid ht
        clear ht
        go_wp2_with fail
        go_ret
        exact ⟨by rw [HIN.out, HC.out, HM.out, HT.out]; rfl, HB3.out⟩
      | true =>
        have HT := Lib.hid ht
        clear ht
        go_upto_region 7 with (fail)
        obtain ⟨bb, hbb⟩ : ∃ bb, bb = decide (bandBad p) := ⟨_, rfl⟩
        have HBB := Lib.hid hbb
        clear hbb
        go_cut [17] (fun v wx => v = .bool bb ∧ w3 = wx)
        case first =>
          by_cases k0 : p.low < -1000000
          · go_wp2_with fail
            go_meet
            exact ⟨congrArg Value.bool (by rw [HBB.out]; exact (decide_eq_true (p := bandBad p) (by unfold bandBad; omega)).symm), rfl⟩
          · by_cases k1 : p.high ≤ p.low
            · go_wp2_with fail
              go_meet
              exact ⟨congrArg Value.bool (by rw [HBB.out]; exact (decide_eq_true (p := bandBad p) (by unfold bandBad; omega)).symm), rfl⟩
            · by_cases k2 : 1000000 < p.high
              · go_wp2_with fail
                go_meet
                exact ⟨congrArg Value.bool (by rw [HBB.out]; exact (decide_eq_true (p := bandBad p) (by unfold bandBad; omega)).symm), rfl⟩
              · by_cases k3 : p.wide < 0
                · go_wp2_with fail
                  go_meet
                  exact ⟨congrArg Value.bool (by rw [HBB.out]; exact (decide_eq_true (p := bandBad p) (by unfold bandBad; omega)).symm), rfl⟩
                · by_cases k4 : p.high - p.low < p.wide
                  · go_wp2_with fail
                    go_meet
                    exact ⟨congrArg Value.bool (by rw [HBB.out]; exact (decide_eq_true (p := bandBad p) (by unfold bandBad; omega)).symm), rfl⟩
                  · go_wp2_with fail
                    go_meet
                    exact ⟨congrArg Value.bool (by rw [HBB.out]; exact (decide_eq_false (p := bandBad p) (by unfold bandBad; omega)).symm), rfl⟩
        case rest =>
        obtain ⟨rfl, rfl⟩ := hcut
        cases bb with
        | true =>
          go_wp2_with fail
          go_ret
          exact ⟨by rw [HIN.out, HC.out, HM.out, HT.out, if_neg (by simp), if_neg (by simp), if_neg (by simp), if_pos (of_decide_eq_true HBB.out.symm)]; rfl, HB3.out⟩
        | false =>
          have HN1 : Hid (¬ bandBad p) := Lib.hid (of_decide_eq_false HBB.out.symm)
          clear HBB
          go_upto_region 9 with (fail)
          obtain ⟨sb, hsb⟩ : ∃ sb, settleBad p = sb := ⟨_, rfl⟩
          have HSB := Lib.hid hsb
          clear hsb
          go_cut [48] (fun v wx => v = .bool sb ∧ ∃ n, wx = w3.drewN n)
          case first =>
            by_cases hln : p.settle.length = p.months.length
            · have hne : ((p.settle.length : Int) != (p.months.length : Int)) = false := by rw [hln]; simp
              have hs0 : 0 < p.settle.length := by omega
              have HE := Lib.hid (settle_eq hln hs0)
              have HMI := Lib.hid fun n => (min_any p.sa p.sc p.settle (w3.drewN n) (HP3.out.set_.below (Below.drewN_of w3 n)) HP3.out.slen hs0).mono fun e w' (h : e = .returned (.int .i64 (minL p.settle)) ∧ w3.drewN n = w') => (⟨h.1, h.2.symm⟩ : e = .returned (.int .i64 (minL p.settle)) ∧ w' = w3.drewN n)
              have HMA := Lib.hid fun n => (max_any p.sa p.sc p.settle (w3.drewN n) (HP3.out.set_.below (Below.drewN_of w3 n)) HP3.out.slen hs0).mono fun e w' (h : e = .returned (.int .i64 (maxL p.settle)) ∧ w3.drewN n = w') => (⟨h.1, h.2.symm⟩ : e = .returned (.int .i64 (maxL p.settle)) ∧ w' = w3.drewN n)
              generalize minL p.settle = mi at *
              generalize maxL p.settle = ma at *
              by_cases k1 : mi < p.low
              · have e1 : decide (mi < p.low) = true := decide_eq_true k1
                have HE1 := Lib.hid e1
                clear hln
                go_quiet (first | (go_at_call 45; exact Calls.quiet_of_same (HMI.out _)) | (go_at_call 46; exact Calls.quiet_of_same (HMA.out _)))
                go_wp2_with fail
                go_meet
                exact ⟨congrArg Value.bool (by rw [← HSB.out, HE.out, HE1.out]; rfl), nq, rfl⟩
              · have e1 : decide (mi < p.low) = false := decide_eq_false k1
                have HE1 := Lib.hid e1
                clear hln
                go_quiet (first | (go_at_call 45; exact Calls.quiet_of_same (HMI.out _)) | (go_at_call 46; exact Calls.quiet_of_same (HMA.out _)))
                go_wp2_with fail
                go_meet
                exact ⟨congrArg Value.bool (by rw [← HSB.out, HE.out, HE1.out]; rfl), nq, rfl⟩
            · have hne : ((p.settle.length : Int) != (p.months.length : Int)) = true := by rw [bne_iff_ne]; omega
              have HE := Lib.hid (settle_ne hln)
              clear hln
              go_quiet (fail)
              go_wp2_with fail
              go_meet
              exact ⟨congrArg Value.bool (by rw [← HSB.out, HE.out]), nq, rfl⟩
          case rest =>
          obtain ⟨rfl, n4, rfl⟩ := hcut
          have hb4 := Below.drewN_of w3 n4
          have HB4 := Lib.hid (HB3.out.trans (hb4.mono HB3.out.size))
          have hpc4 : PC (w3.drewN n4) w.heap.size p := ⟨b0, b1, b2, b3, b4, b5, b6, b7, b8, b9, b10⟩
          clear b0 b1 b2 b3 b4 b5 b6 b7 b8 b9 b10 hb4
          generalize w3.drewN n4 = w4 at *
          obtain ⟨b0, b1, b2, b3, b4, b5, b6, b7, b8, b9, b10⟩ := hpc4
          cases sb with
          | true =>
            go_wp2_with fail
            go_ret
            exact ⟨by rw [HIN.out, HC.out, HM.out, HT.out, if_neg (by simp), if_neg (by simp), if_neg (by simp), if_neg HN1.out, HSB.out, if_pos rfl]; rfl, HB4.out⟩
          | false =>
            go_upto_region 11 with (fail)
            obtain ⟨bb, hbb⟩ : ∃ bb, bb = decide (kindBad p) := ⟨_, rfl⟩
            have HBB := Lib.hid hbb
            clear hbb
            go_cut [72] (fun v wx => v = .bool bb ∧ w4 = wx)
            case first =>
              by_cases k0 : p.rule < 1
              · go_wp2_with fail
                go_meet
                exact ⟨congrArg Value.bool (by rw [HBB.out]; exact (decide_eq_true (p := kindBad p) (by unfold kindBad; omega)).symm), rfl⟩
              · by_cases k1 : 3 < p.rule
                · go_wp2_with fail
                  go_meet
                  exact ⟨congrArg Value.bool (by rw [HBB.out]; exact (decide_eq_true (p := kindBad p) (by unfold kindBad; omega)).symm), rfl⟩
                · go_wp2_with fail
                  go_meet
                  exact ⟨congrArg Value.bool (by rw [HBB.out]; exact (decide_eq_false (p := kindBad p) (by unfold kindBad; omega)).symm), rfl⟩
            case rest =>
            obtain ⟨rfl, rfl⟩ := hcut
            cases bb with
            | true =>
              go_wp2_with fail
              go_ret
              exact ⟨by rw [HIN.out, HC.out, HM.out, HT.out, if_neg (by simp), if_neg (by simp), if_neg (by simp), if_neg HN1.out, HSB.out, if_neg (by simp), if_pos (of_decide_eq_true HBB.out.symm)]; rfl, HB4.out⟩
            | false =>
              have HN2 : Hid (¬ kindBad p) := Lib.hid (of_decide_eq_false HBB.out.symm)
              clear HBB
              go_upto_region 13 with (fail)
              obtain ⟨bb, hbb⟩ : ∃ bb, bb = decide (qtyBad p) := ⟨_, rfl⟩
              have HBB := Lib.hid hbb
              clear hbb
              go_cut [81] (fun v wx => v = .bool bb ∧ w4 = wx)
              case first =>
                by_cases k0 : p.top < 0
                · go_wp2_with fail
                  go_meet
                  exact ⟨congrArg Value.bool (by rw [HBB.out]; exact (decide_eq_true (p := qtyBad p) (by unfold qtyBad; omega)).symm), rfl⟩
                · by_cases k1 : 1000000 < p.top
                  · go_wp2_with fail
                    go_meet
                    exact ⟨congrArg Value.bool (by rw [HBB.out]; exact (decide_eq_true (p := qtyBad p) (by unfold qtyBad; omega)).symm), rfl⟩
                  · by_cases k2 : p.least < 1
                    · go_wp2_with fail
                      go_meet
                      exact ⟨congrArg Value.bool (by rw [HBB.out]; exact (decide_eq_true (p := qtyBad p) (by unfold qtyBad; omega)).symm), rfl⟩
                    · by_cases k3 : 1000 < p.least
                      · go_wp2_with fail
                        go_meet
                        exact ⟨congrArg Value.bool (by rw [HBB.out]; exact (decide_eq_true (p := qtyBad p) (by unfold qtyBad; omega)).symm), rfl⟩
                      · by_cases k4 : p.part < 0
                        · go_wp2_with fail
                          go_meet
                          exact ⟨congrArg Value.bool (by rw [HBB.out]; exact (decide_eq_true (p := qtyBad p) (by unfold qtyBad; omega)).symm), rfl⟩
                        · by_cases k5 : 100 < p.part
                          · go_wp2_with fail
                            go_meet
                            exact ⟨congrArg Value.bool (by rw [HBB.out]; exact (decide_eq_true (p := qtyBad p) (by unfold qtyBad; omega)).symm), rfl⟩
                          · go_wp2_with fail
                            go_meet
                            exact ⟨congrArg Value.bool (by rw [HBB.out]; exact (decide_eq_false (p := qtyBad p) (by unfold qtyBad; omega)).symm), rfl⟩
              case rest =>
              obtain ⟨rfl, rfl⟩ := hcut
              cases bb with
              | true =>
                go_wp2_with fail
                go_ret
                exact ⟨by rw [HIN.out, HC.out, HM.out, HT.out, if_neg (by simp), if_neg (by simp), if_neg (by simp), if_neg HN1.out, HSB.out, if_neg (by simp), if_neg HN2.out, if_pos (of_decide_eq_true HBB.out.symm)]; rfl, HB4.out⟩
              | false =>
                go_wp2_with fail
                go_ret
                exact ⟨by rw [HIN.out, HC.out, HM.out, HT.out, if_neg (by simp), if_neg (by simp), if_neg (by simp), if_neg HN1.out, HSB.out, if_neg (by simp), if_neg HN2.out, if_neg (of_decide_eq_false HBB.out.symm)]; rfl, HB4.out⟩
end Go.Proofs.Ytmaijkoopjocdaa
