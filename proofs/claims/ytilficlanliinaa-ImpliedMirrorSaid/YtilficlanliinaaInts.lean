/- Sums and differences that are told when they are too great: the walks of ints.Add, Sub and of cornhillref1.Add, Sub. -/
import Derived.Test.YtilficlanliinaaMake
namespace Go.Proofs.Ytilficlanliinaa
open Go.RowKit

def addP (a b : Int) : Int × Bool := if i64ok (a + b) then (a + b, true) else (0, false)
def subP (a b : Int) : Int × Bool := if i64ok (a - b) then (a - b, true) else (0, false)
set_option maxHeartbeats 1000000 in
theorem add_any (a b : Int) (w : World) (ha : i64ok a) (hb : i64ok b) :
    Calls Try.prog 40 #[.int .i64 a, .int .i64 b] w fun e w' => e = .returned (.tuple #[.int .i64 (addP a b).1, .bool (addP a b).2]) ∧ w = w' := by
  obtain ⟨c, hc⟩ : ∃ c, IntKind.i64.wrap (a + b) = c := ⟨_, rfl⟩
  have hcc := hc
  rw [IntKind.wrap_i64] at hcc
  unfold i64ok at ha hb
  by_cases hr : i64ok (a + b)
  · have hv : addP a b = (a + b, true) := if_pos hr
    rw [hv]
    unfold i64ok at hr
    have hcv : a + b = c := by omega
    have HCV := Lib.hid hcv
    have hcs : (a < 0 ∧ ¬ b < 0) ∨ (¬ a < 0 ∧ b < 0) ∨ (a < 0 ∧ b < 0 ∧ c < 0) ∨ (¬ a < 0 ∧ ¬ b < 0 ∧ ¬ c < 0) := by omega
    clear hr hv hcc hcv ha hb
    rcases hcs with ⟨h1, h2⟩ | ⟨h1, h2⟩ | ⟨h1, h2, h3⟩ | ⟨h1, h2, h3⟩
    all_goals
      go_enter Try.func40, Try.ntmps40
      go_wp2_with fail
      go_ret2
      exact ⟨by rw [HCV.out]; rfl, by trivial⟩
  · have hv : addP a b = (0, false) := if_neg hr
    rw [hv]
    unfold i64ok at hr
    have hcs : (a < 0 ∧ b < 0 ∧ ¬ c < 0) ∨ (¬ a < 0 ∧ ¬ b < 0 ∧ c < 0) := by omega
    clear hr hv hcc ha hb
    rcases hcs with ⟨h1, h2, h3⟩ | ⟨h1, h2, h3⟩
    all_goals
      go_enter Try.func40, Try.ntmps40
      go_wp2_with fail
      go_ret2
      exact ⟨by trivial, by trivial⟩
set_option maxHeartbeats 1000000 in
theorem sub_any (a b : Int) (w : World) (ha : i64ok a) (hb : i64ok b) :
    Calls Try.prog 41 #[.int .i64 a, .int .i64 b] w fun e w' => e = .returned (.tuple #[.int .i64 (subP a b).1, .bool (subP a b).2]) ∧ w = w' := by
  obtain ⟨c, hc⟩ : ∃ c, IntKind.i64.wrap (a - b) = c := ⟨_, rfl⟩
  have hcc := hc
  rw [IntKind.wrap_i64] at hcc
  unfold i64ok at ha hb
  by_cases hr : i64ok (a - b)
  · have hv : subP a b = (a - b, true) := if_pos hr
    rw [hv]
    unfold i64ok at hr
    have hcv : a - b = c := by omega
    have HCV := Lib.hid hcv
    have hcs : (a < 0 ∧ b < 0) ∨ (¬ a < 0 ∧ ¬ b < 0) ∨ (a < 0 ∧ ¬ b < 0 ∧ c < 0) ∨ (¬ a < 0 ∧ b < 0 ∧ ¬ c < 0) := by omega
    clear hr hv hcc hcv ha hb
    rcases hcs with ⟨h1, h2⟩ | ⟨h1, h2⟩ | ⟨h1, h2, h3⟩ | ⟨h1, h2, h3⟩
    all_goals
      go_enter Try.func41, Try.ntmps41
      go_wp2_with fail
      go_ret2
      exact ⟨by rw [HCV.out]; rfl, by trivial⟩
  · have hv : subP a b = (0, false) := if_neg hr
    rw [hv]
    unfold i64ok at hr
    have hcs : (a < 0 ∧ ¬ b < 0 ∧ ¬ c < 0) ∨ (¬ a < 0 ∧ b < 0 ∧ c < 0) := by omega
    clear hr hv hcc ha hb
    rcases hcs with ⟨h1, h2, h3⟩ | ⟨h1, h2, h3⟩
    all_goals
      go_enter Try.func41, Try.ntmps41
      go_wp2_with fail
      go_ret2
      exact ⟨by trivial, by trivial⟩
set_option maxHeartbeats 1000000 in
theorem radd_any (a b : Int) (w : World) (ha : i64ok a) (hb : i64ok b) :
    Calls Try.prog 54 #[.int .i64 a, .int .i64 b] w fun e w' => e = .returned (.tuple #[.int .i64 (addP a b).1, .bool (addP a b).2]) ∧ w = w' := by
  unfold i64ok at ha hb
  by_cases h1 : 0 < b
  · have y1 : IntKind.i64.wrap (9223372036854775807 - b) = 9223372036854775807 - b := IntWalk.i64_in _ (by omega)
    have h2 : ¬ b < 0 := by omega
    by_cases hr : i64ok (a + b)
    · have hv : addP a b = (a + b, true) := if_pos hr
      rw [hv]
      have y2 : IntKind.i64.wrap (a + b) = a + b := IntWalk.i64_in _ hr
      unfold i64ok at hr
      have h3 : ¬ 9223372036854775807 - b < a := by omega
      clear hr hv ha hb
      go_enter Try.func54, Try.ntmps54
      go_wp2_with fail
      go_ret2
      exact ⟨by trivial, by trivial⟩
    · have hv : addP a b = (0, false) := if_neg hr
      rw [hv]
      unfold i64ok at hr
      have h3 : 9223372036854775807 - b < a := by omega
      clear hr hv ha hb
      go_enter Try.func54, Try.ntmps54
      go_wp2_with fail
      go_ret2
      exact ⟨by trivial, by trivial⟩
  · by_cases h2 : b < 0
    · have y1 : IntKind.i64.wrap (-9223372036854775808 - b) = -9223372036854775808 - b := IntWalk.i64_in _ (by omega)
      by_cases hr : i64ok (a + b)
      · have hv : addP a b = (a + b, true) := if_pos hr
        rw [hv]
        have y2 : IntKind.i64.wrap (a + b) = a + b := IntWalk.i64_in _ hr
        unfold i64ok at hr
        have h3 : ¬ a < -9223372036854775808 - b := by omega
        clear hr hv ha hb
        go_enter Try.func54, Try.ntmps54
        go_wp2_with fail
        go_ret2
        exact ⟨by trivial, by trivial⟩
      · have hv : addP a b = (0, false) := if_neg hr
        rw [hv]
        unfold i64ok at hr
        have h3 : a < -9223372036854775808 - b := by omega
        clear hr hv ha hb
        go_enter Try.func54, Try.ntmps54
        go_wp2_with fail
        go_ret2
        exact ⟨by trivial, by trivial⟩
    · have hr : i64ok (a + b) := by unfold i64ok; omega
      have hv : addP a b = (a + b, true) := if_pos hr
      rw [hv]
      have y2 : IntKind.i64.wrap (a + b) = a + b := IntWalk.i64_in _ hr
      clear hr hv ha hb
      go_enter Try.func54, Try.ntmps54
      go_wp2_with fail
      go_ret2
      exact ⟨by trivial, by trivial⟩
set_option maxHeartbeats 1000000 in
theorem rsub_any (a b : Int) (w : World) (ha : i64ok a) (hb : i64ok b) :
    Calls Try.prog 55 #[.int .i64 a, .int .i64 b] w fun e w' => e = .returned (.tuple #[.int .i64 (subP a b).1, .bool (subP a b).2]) ∧ w = w' := by
  unfold i64ok at ha hb
  by_cases h1 : b < 0
  · have y1 : IntKind.i64.wrap (9223372036854775807 + b) = 9223372036854775807 + b := IntWalk.i64_in _ (by omega)
    have h2 : ¬ 0 < b := by omega
    by_cases hr : i64ok (a - b)
    · have hv : subP a b = (a - b, true) := if_pos hr
      rw [hv]
      have y2 : IntKind.i64.wrap (a - b) = a - b := IntWalk.i64_in _ hr
      unfold i64ok at hr
      have h3 : ¬ 9223372036854775807 + b < a := by omega
      clear hr hv ha hb
      go_enter Try.func55, Try.ntmps55
      go_wp2_with fail
      go_ret2
      exact ⟨by trivial, by trivial⟩
    · have hv : subP a b = (0, false) := if_neg hr
      rw [hv]
      unfold i64ok at hr
      have h3 : 9223372036854775807 + b < a := by omega
      clear hr hv ha hb
      go_enter Try.func55, Try.ntmps55
      go_wp2_with fail
      go_ret2
      exact ⟨by trivial, by trivial⟩
  · by_cases h2 : 0 < b
    · have y1 : IntKind.i64.wrap (-9223372036854775808 + b) = -9223372036854775808 + b := IntWalk.i64_in _ (by omega)
      by_cases hr : i64ok (a - b)
      · have hv : subP a b = (a - b, true) := if_pos hr
        rw [hv]
        have y2 : IntKind.i64.wrap (a - b) = a - b := IntWalk.i64_in _ hr
        unfold i64ok at hr
        have h3 : ¬ a < -9223372036854775808 + b := by omega
        clear hr hv ha hb
        go_enter Try.func55, Try.ntmps55
        go_wp2_with fail
        go_ret2
        exact ⟨by trivial, by trivial⟩
      · have hv : subP a b = (0, false) := if_neg hr
        rw [hv]
        unfold i64ok at hr
        have h3 : a < -9223372036854775808 + b := by omega
        clear hr hv ha hb
        go_enter Try.func55, Try.ntmps55
        go_wp2_with fail
        go_ret2
        exact ⟨by trivial, by trivial⟩
    · have hr : i64ok (a - b) := by unfold i64ok; omega
      have hv : subP a b = (a - b, true) := if_pos hr
      rw [hv]
      have y2 : IntKind.i64.wrap (a - b) = a - b := IntWalk.i64_in _ hr
      clear hr hv ha hb
      go_enter Try.func55, Try.ntmps55
      go_wp2_with fail
      go_ret2
      exact ⟨by trivial, by trivial⟩
end Go.Proofs.Ytilficlanliinaa
