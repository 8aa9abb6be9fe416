/- The walk of cornhillbook.Within: a number brought into lo .. hi. -/
import Derived.Test.YtbpmoomklknkkaaMem
namespace Go.Proofs.Ytbpmoomklknkkaa
open Go.RowKit

def withI (n lo hi : Int) : Int := lo + n % (hi - lo + 1)
theorem withI_bd (n lo hi : Int) (h : lo ≤ hi) : lo ≤ withI n lo hi ∧ withI n lo hi ≤ hi := by
  unfold withI
  have h1 := Int.emod_nonneg n (show hi - lo + 1 ≠ 0 by omega)
  have h2 := Int.emod_lt_of_pos n (show 0 < hi - lo + 1 by omega)
  omega
set_option maxHeartbeats 400000 in
theorem within_any (n lo hi : Int) (w : World) (hn0 : -9223372036854775808 ≤ n) (hn1 : n ≤ 9223372036854775807) (h : lo ≤ hi) (h0 : -1000000000 ≤ lo) (h1 : hi ≤ 1000000000) :
    Calls Try.prog 8 #[.int .i64 n, .int .i64 lo, .int .i64 hi] w fun e w' => e = .returned (.int .i64 (withI n lo hi)) ∧ w = w' := by
  obtain ⟨m, hm⟩ : ∃ m : Int, hi - lo + 1 = m := ⟨_, rfl⟩
  have hm0 : 1 ≤ m := by omega
  have hm1 : m ≤ 2000000001 := by omega
  have hW : withI n lo hi = lo + n % m := by unfold withI; rw [hm]
  obtain ⟨t, ht⟩ : ∃ t : Int, n.tmod m = t := ⟨_, rfl⟩
  have hmz : (m == 0) = false := by rw [beq_eq_false_iff_ne]; omega
  have hmm : (m == -1) = false := by rw [beq_eq_false_iff_ne]; omega
  have htb : -m < t ∧ t < m := by
    subst ht
    have a := Int.tmod_lt_of_pos n (show 0 < m by omega)
    have b := Int.lt_tmod_of_pos n (show 0 < m by omega)
    omega
  have hW2 : withI n lo hi = if t < 0 then lo + (t + hi - lo + 1) else lo + t := by
    rw [hW, ← ht, Int.emod_eq_tmod]
    by_cases hn : 0 ≤ n
    · rw [if_pos (Or.inl hn)]
      have : 0 ≤ n.tmod m := Int.tmod_nonneg _ hn
      rw [if_neg (by omega)]; omega
    · by_cases hd : m ∣ n
      · rw [if_pos (Or.inr hd)]
        have : n.tmod m = 0 := Int.tmod_eq_zero_of_dvd hd
        rw [if_neg (by omega)]; omega
      · rw [if_neg (by rintro (h | h); exact hn h; exact hd h)]
        have h2 : n.tmod m ≤ 0 := by
          have h4 := Int.tmod_nonneg m (show 0 ≤ -n by omega)
          rw [Int.neg_tmod] at h4
          omega
        have h3 : n.tmod m ≠ 0 := fun h => hd (Int.dvd_of_tmod_eq_zero h)
        rw [if_pos (by omega)]
        have : ((m.natAbs : Nat) : Int) = m := by omega
        omega
  have HW := Lib.hid hW2
  clear hW hW2
  go_enter Try.func8, Try.ntmps8
  go_wp2
  all_goals
    go_ret
    refine ⟨?_, rfl⟩
    rw [HW.out]
    first | (rw [if_pos ‹t < 0›]; rfl) | (rw [if_neg (by omega)]; rfl)
end Go.Proofs.Ytbpmoomklknkkaa
