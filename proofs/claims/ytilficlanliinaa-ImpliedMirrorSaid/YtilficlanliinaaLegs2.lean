/- The walks of refdata.Legs, Price and of legs.Prices. -/
import Derived.Test.YtilficlanliinaaLegs
namespace Go.Proofs.Ytilficlanliinaa
open Go.RowKit

theorem countP_zero {p : Prod} (h : checkP p ≠ 0) : countP p = 0 := if_neg h
theorem countP_some {p : Prod} (h : checkP p = 0) : countP p = countN p.months.length := if_pos h
theorem countN_bd : ∀ n, n ≤ 6 → countN n ≤ 21 ∧ n ≤ countN n := by decide
theorem countP_bd (p : Prod) : 0 ≤ countP p ∧ countP p ≤ 21 := by
  unfold countP
  split
  · rename_i h
    have := check_len h
    have := countN_bd p.months.length (by omega)
    omega
  · omega
set_option maxHeartbeats 4000000 in
theorem legs_any (p : Prod) (inst : Int) (w : World) (hp : PV w p) :
    Calls Try.prog 14 #[p.agg, .int .i64 inst] w fun e w' => e = .returned (.tuple #[.int .i64 (legsP p inst).1, .int .i64 (legsP p inst).2.1, .bool (legsP p inst).2.2]) ∧ Below w.heap.size w w' := by
  have hs0 := St.new hp
  unfold Prod.cells at hs0
  have HS0 := Lib.hid hs0
  have hck := count_inst_any p _ hs0.pv
  unfold Prod.agg Prod.cells at hck ⊢
  clear hp hs0
  have hcb := countP_bd p
  by_cases hout : inst < 0 ∨ countP p ≤ inst
  · have HL : Hid (legsP p inst = (0, 0, false)) := Lib.hid (if_pos hout)
    rw [HL.out]
    have hcond : inst < 0 ∨ (¬ inst < 0 ∧ countP p ≤ inst) := by omega
    clear hout
    generalize countP p = cp at *
    go_enter Try.func14, Try.ntmps14
    go_wp2_with fail
    refine hck.mono ?_
    rintro e w1 ⟨rfl, hb1⟩
    have HS := Lib.hid (HS0.out.next hb1)
    clear hck hb1
    rcases hcond with h | ⟨h, h'⟩
    all_goals
      go_wp2_with fail
      go_ret3
      exact ⟨by rfl, HS.out.bel⟩
  · have hz : checkP p = 0 := by
      by_cases h : checkP p = 0
      · exact h
      · have := countP_zero h; omega
    have hlen := check_len hz
    have HCN := Lib.hid (countP_some hz)
    have hin1 : ¬ inst < 0 := by omega
    have hin2 : ¬ countP p ≤ inst := by omega
    by_cases hm : inst < p.months.length
    · have HL : Hid (legsP p inst = (inst, inst, false)) := Lib.hid (by unfold legsP; rw [if_neg hout, if_pos hm])
      rw [HL.out]
      clear hout hz
      generalize countP p = cp at *
      go_enter Try.func14, Try.ntmps14
      go_wp2_with fail
      refine hck.mono ?_
      rintro e w1 ⟨rfl, hb1⟩
      have HS := Lib.hid (HS0.out.next hb1)
      have b1 := HS.out.pc.2.1
      clear hck hb1
      go_wp2_with fail
      go_ret3
      exact ⟨by rfl, HS.out.bel⟩
    · obtain ⟨k, hk⟩ : ∃ k : Nat, inst = (p.months.length : Int) + (k : Int) := ⟨(inst - p.months.length).toNat, by omega⟩
      have HL : Hid (legsP p inst = ((legNear p.months.length k : Int), (legFar p.months.length k : Int), true)) := Lib.hid (by unfold legsP; rw [if_neg hout, if_neg hm, show (inst - (p.months.length : Int)).toNat = k by omega])
      rw [HL.out]
      subst hk
      have hkc : p.months.length + k < countN p.months.length := by rw [HCN.out] at hin2; omega
      have HEND := Lib.hid (offN_end p.months.length hlen.2)
      have HLE := Lib.hid (offN_le p.months.length hlen.2)
      clear hout hz
      generalize countP p = cp at *
      go_enter Try.func14, Try.ntmps14
      go_wp2_with fail
      refine hck.mono ?_
      rintro e w1 ⟨rfl, hb1⟩
      have HS := Lib.hid (HS0.out.next hb1)
      have b1 := HS.out.pc.2.1
      clear hck hb1
      generalize hn : p.months.length = n at *
      go_wp2_with fail
      go_loop [8, 33] (fun at_ i => ∃ j : Nat, i = .int .i64 j ∧ j ≤ n ∧ at_ = .int .i64 ((n : Int) + (offN n j : Nat)) ∧ Hid (∀ i, i < j → ¬ k < offN n (i + 1))) (fun _ i => n - (intOf i).toNat)
      case atStart => exact ⟨0, rfl, Nat.zero_le _, congrArg (Value.int .i64) (by rw [offN_zero]; simp), Lib.hid fun i h => by omega⟩
      case round =>
        obtain ⟨j, rfl, hj, rfl, HJ⟩ := hrel
        by_cases hjn : j < n
        · have hjn' : (j : Int) < (n : Int) := by omega
          have hso := offN_succ n j
          have ho1 := HLE.out j (by omega)
          by_cases hlt : k < offN n (j + 1)
          · have HN := Lib.hid (legNear_eq hjn hlt HJ.out)
            have HF : Hid (legFar n k = j + 1 + (k - offN n j)) := Lib.hid (by unfold legFar; rw [HN.out])
            have hge : offN n j ≤ k := by
              cases j with
              | zero => rw [offN_zero]; omega
              | succ j => have := HJ.out j (by omega); omega
            have hx : (n : Int) + (k : Int) < (n : Int) + (offN n j : Nat) + ((n : Int) - 1 - (j : Int)) := by omega
            clear hlt hso
            generalize offN n j = o at *
            have HV : Hid ((j : Int) + 1 + ((n : Int) + (k : Int)) - ((n : Int) + (o : Int)) = ((j + 1 + (k - o) : Nat) : Int)) := Lib.hid (by omega)
            go_wp2_with fail
            go_ret3
            exact ⟨by rw [HN.out, HF.out, ← HV.out]; rfl, HS.out.bel⟩
          · have HO := Lib.hid hso
            have hx : ¬ (n : Int) + (k : Int) < (n : Int) + (offN n j : Nat) + ((n : Int) - 1 - (j : Int)) := by omega
            have HLT := Lib.hid hlt
            clear hlt hso
            have HOO : Hid ((offN n (j + 1) : Nat) = offN n j + (n - 1 - j)) := Lib.hid HO.out
            generalize offN n j = o at *
            go_wp2_with fail
            go_round
            case rel => exact ⟨j + 1, by go_num, by omega, congrArg (Value.int .i64) (by rw [HOO.out]; omega), Lib.hid fun i hi => by
              by_cases hij : i < j
              · exact HJ.out i hij
              · obtain rfl : i = j := by omega
                exact HLT.out⟩
            case measure => simp [intOf]; omega
        · obtain rfl : j = n := by omega
          exfalso
          have h1 := HEND.out
          cases j with
          | zero => omega
          | succ j => have := HJ.out j (by omega); omega
end Go.Proofs.Ytilficlanliinaa
