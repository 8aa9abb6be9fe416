/- The walks of cornhillref5.Count and Legs. -/
import Derived.Test.YtilficlanliinaaPrice
import Derived.Test.YtilficlanliinaaRCheck
namespace Go.Proofs.Ytilficlanliinaa
open Go.RowKit

set_option maxHeartbeats 2000000 in
theorem rcount_inst_any (p : Prod) (w : World) (hp : PV w p) :
    Calls Try.prog 24 #[p.agg] w fun e w' => e = .returned (.int .i64 (countP p)) ∧ Below w.heap.size w w' := by
  have hs0 := St.new hp
  unfold Prod.cells at hs0
  have HS0 := Lib.hid hs0
  have hck := rcheck_any p _ hs0.pv
  unfold Prod.agg Prod.cells at hck ⊢
  clear hp hs0
  by_cases hz : checkP p = 0
  · have HC : Hid (countP p = countN p.months.length) := Lib.hid (if_pos hz)
    have hlen := check_len hz
    have hn : p.months.length = 2 ∨ p.months.length = 3 ∨ p.months.length = 4 ∨ p.months.length = 5 ∨ p.months.length = 6 := by omega
    have HZ := Lib.hid hz
    clear hz hlen
    go_enter Try.func24, Try.ntmps24
    go_wp2_with fail
    refine hck.mono ?_
    rw [HZ.out]
    rintro e w1 ⟨rfl, hb1⟩
    have HS := Lib.hid (HS0.out.next hb1)
    have b1 := HS.out.pc.2.1
    clear hck hb1
    rcases hn with hn | hn | hn | hn | hn
    all_goals
      rw [hn] at b1
      have HN := Lib.hid hn
      clear hn
      go_wp2_with fail
      go_ret
      exact ⟨by rw [HC.out, HN.out]; rfl, HS.out.bel⟩
  · have HC : Hid (countP p = 0) := Lib.hid (if_neg hz)
    have hz1 : (checkP p == 0) = false := by rw [beq_eq_false_iff_ne]; exact hz
    have hz2 : (checkP p != 0) = true := by rw [bne_iff_ne]; exact hz
    clear hz
    generalize checkP p = cp at *
    go_enter Try.func24, Try.ntmps24
    go_wp2_with fail
    refine hck.mono ?_
    rintro e w1 ⟨rfl, hb1⟩
    have HS := Lib.hid (HS0.out.next hb1)
    clear hck hb1
    go_wp2_with fail
    go_ret
    exact ⟨by rw [HC.out]; rfl, HS.out.bel⟩

theorem offN_mono (n : Nat) {a b : Nat} (h : a ≤ b) : offN n a ≤ offN n b := by
  induction b with
  | zero => obtain rfl : a = 0 := by omega
            exact Nat.le_refl _
  | succ b ih =>
    by_cases hab : a = b + 1
    · rw [hab]; exact Nat.le_refl _
    · have := ih (by omega)
      rw [offN_succ]; omega
/-- the spread of the i-th and the j-th month is the one that the loops come to -/
theorem legs_at {p : Prod} {n k i j : Nat} (hn : p.months.length = n) (hz : checkP p = 0) (hi : i + 1 ≤ j) (hj : j < n) (hk : k = offN n i + (j - (i + 1))) : legsP p ((n : Int) + (k : Int)) = ((i : Int), (j : Int), true) := by
  subst hn
  have hs := offN_succ p.months.length i
  have hl := check_len hz
  have he := offN_end p.months.length hl.2
  have hm := offN_mono p.months.length (show i + 1 ≤ p.months.length by omega)
  have hc := countP_some hz
  have hN : legNear p.months.length k = i := legNear_eq (by omega) (by omega) fun j' hj' => by
    have := offN_mono p.months.length (show j' + 1 ≤ i by omega)
    omega
  unfold legsP
  rw [if_neg (by omega), if_neg (by omega), show ((p.months.length : Int) + (k : Int) - (p.months.length : Int)).toNat = k by omega]
  unfold legFar
  rw [hN, show i + 1 + (k - offN p.months.length i) = j by omega]
theorem legs_out {p : Prod} {n k : Nat} (hn : p.months.length = n) (hz : checkP p = 0) (hk : offN n n ≤ k) : legsP p ((n : Int) + (k : Int)) = (0, 0, false) := by
  subst hn
  have hl := check_len hz
  have he := offN_end p.months.length hl.2
  have hc := countP_some hz
  exact if_pos (by omega)

set_option maxHeartbeats 4000000 in
theorem rlegs_any (p : Prod) (inst : Int) (w : World) (hp : PV w p) :
    Calls Try.prog 42 #[p.agg, .int .i64 inst] w fun e w' => e = .returned (.tuple #[.int .i64 (legsP p inst).1, .int .i64 (legsP p inst).2.1, .bool (legsP p inst).2.2]) ∧ Below w.heap.size w w' := by
  have hs0 := St.new hp
  unfold Prod.cells at hs0
  have HS0 := Lib.hid hs0
  have hck := rcheck_any p _ hs0.pv
  unfold Prod.agg Prod.cells at hck ⊢
  have hml := hp.mlen
  clear hp hs0
  have hcb := countP_bd p
  obtain ⟨b0, b1, b2, b3, b4, b5, b6, b7, b8, b9, b10⟩ := HS0.out.pc
  by_cases hz : checkP p = 0
  · rw [hz] at hck
    by_cases hneg : inst < 0
    · have HL : Hid (legsP p inst = (0, 0, false)) := Lib.hid (if_pos (.inl hneg))
      rw [HL.out]
      clear hz
      go_enter Try.func42, Try.ntmps42
      go_wp2_with fail
      refine hck.mono ?_
      rintro e w1 ⟨rfl, hb1⟩
      have HS := Lib.hid (HS0.out.next hb1)
      clear hck hb1 b0 b1 b2 b3 b4 b5 b6 b7 b8 b9 b10
      go_wp2_with fail
      go_ret3
      exact ⟨by rfl, HS.out.bel⟩
    · have hlen := check_len hz
      have hcn := countN_bd p.months.length hlen.2
      have hcs := countP_some hz
      by_cases hm : inst < p.months.length
      · have HL : Hid (legsP p inst = (inst, inst, false)) := Lib.hid (by unfold legsP; rw [if_neg (by omega), if_pos hm])
        rw [HL.out]
        clear hz hcs hcn
        go_enter Try.func42, Try.ntmps42
        go_wp2_with fail
        refine hck.mono ?_
        rintro e w1 ⟨rfl, hb1⟩
        have HS := Lib.hid (HS0.out.next hb1)
        clear hck hb1 b0 b1 b2 b3 b4 b5 b6 b7 b8 b9 b10
        go_wp2_with fail
        go_ret3
        exact ⟨by rfl, HS.out.bel⟩
      · obtain ⟨k, hk⟩ : ∃ k : Nat, inst = (p.months.length : Int) + (k : Int) := ⟨(inst - p.months.length).toNat, by omega⟩
        subst hk
        have HAT := Lib.hid fun (i j : Nat) (hi : i + 1 ≤ j) (hj : j < p.months.length) (hk : k = offN p.months.length i + (j - (i + 1))) => legs_at rfl hz hi hj hk
        have HOUT := Lib.hid fun (hk : offN p.months.length p.months.length ≤ k) => legs_out rfl hz hk
        have HLE := Lib.hid (offN_le p.months.length hlen.2)
        clear hz hcs hcn hcb
        generalize hv : legsP p ((p.months.length : Int) + (k : Int)) = v at *
        clear hv
        go_enter Try.func42, Try.ntmps42
        go_wp2_with fail
        refine hck.mono ?_
        rintro e w1 ⟨rfl, hb1⟩
        have HS := Lib.hid (HS0.out.next hb1)
        clear hck hb1 b0 b1 b2 b3 b4 b5 b6 b7 b8 b9 b10
        generalize hn : p.months.length = n at *
        clear hn
        go_wp2_with fail
        go_loop [8, 9] (fun at_ i => ∃ j : Nat, i = .int .i64 j ∧ j ≤ n ∧ at_ = .int .i64 ((n : Int) + (offN n j : Nat)) ∧ offN n j ≤ k) (fun _ i => n - (intOf i).toNat)
        case atStart => exact ⟨0, rfl, Nat.zero_le _, congrArg (Value.int .i64) (by rw [offN_zero]; simp), by rw [offN_zero]; omega⟩
        case round =>
          obtain ⟨i, rfl, hi, rfl, hle⟩ := hrel
          by_cases hin : i < n
          · have hin' : (i : Int) < (n : Int) := by omega
            have ho1 := HLE.out i (by omega)
            have HSO := Lib.hid (offN_succ n i)
            have HOI : Hid (∀ j, i + 1 ≤ j → j < n → k = offN n i + (j - (i + 1)) → v = ((i : Int), (j : Int), true)) := Lib.hid fun j h1 h2 h3 => HAT.out i j h1 h2 h3
            generalize offN n i = o at *
            go_wp2_with fail
            go_loop [8, 10] (fun at_ j' => ∃ j : Nat, j' = .int .i64 j ∧ i + 1 ≤ j ∧ j ≤ n ∧ at_ = .int .i64 ((n : Int) + (o : Int) + ((j : Int) - ((i : Int) + 1))) ∧ o + (j - (i + 1)) ≤ k) (fun _ j' => n - (intOf j').toNat)
            case atStart => exact ⟨i + 1, by go_num, by omega, by omega, congrArg (Value.int .i64) (by omega), by omega⟩
            case round =>
              obtain ⟨j, rfl, hj1, hj2, rfl, hjk⟩ := hrel
              by_cases hjn : j < n
              · have hjn' : (j : Int) < (n : Int) := by omega
                by_cases heq : k = o + (j - (i + 1))
                · have hv := HOI.out j hj1 hjn heq
                  have he : ((n : Int) + (o : Int) + ((j : Int) - ((i : Int) + 1)) == (n : Int) + (k : Int)) = true := by rw [beq_iff_eq]; omega
                  subst hv
                  clear heq
                  go_wp2_with fail
                  go_ret3
                  exact ⟨by rfl, HS.out.bel⟩
                · have he : ((n : Int) + (o : Int) + ((j : Int) - ((i : Int) + 1)) == (n : Int) + (k : Int)) = false := by rw [beq_eq_false_iff_ne]; omega
                  go_wp2_with fail
                  go_round
                  case rel => exact ⟨j + 1, by go_num, by omega, by omega, congrArg (Value.int .i64) (by omega), by omega⟩
                  case measure => simp [intOf]; omega
              · obtain rfl : j = n := by omega
                have hso := HSO.out
                go_wp2_with fail
                go_round
                case rel => exact ⟨i + 1, by go_num, by omega, congrArg (Value.int .i64) (by omega), by omega⟩
                case measure => simp [intOf]; omega
          · obtain rfl : i = n := by omega
            have hv : v = (0, 0, false) := HOUT.out hle
            subst hv
            clear hle
            go_wp2_with fail
            go_ret3
            exact ⟨by rfl, HS.out.bel⟩
  · have HL : Hid (legsP p inst = (0, 0, false)) := Lib.hid (by have := countP_zero hz; exact if_pos (by omega))
    rw [HL.out]
    have hz2 : (checkP p != 0) = true := by rw [bne_iff_ne]; exact hz
    clear hz
    generalize checkP p = cp at *
    go_enter Try.func42, Try.ntmps42
    go_wp2_with fail
    refine hck.mono ?_
    rintro e w1 ⟨rfl, hb1⟩
    have HS := Lib.hid (HS0.out.next hb1)
    clear hck hb1 b0 b1 b2 b3 b4 b5 b6 b7 b8 b9 b10
    go_wp2_with fail
    go_ret3
    exact ⟨by rfl, HS.out.bel⟩
end Go.Proofs.Ytilficlanliinaa
