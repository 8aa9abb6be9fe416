/- The walks of cornhillref5.Count. -/
import Derived.Test.YtmaijkoopjocdaaRCheck
namespace Go.Proofs.Ytmaijkoopjocdaa
open Go.RowKit

set_option maxHeartbeats 2000000 in
theorem rcount_inst_any (p : Prod) (w : World) (hp : PV w p) :
    Calls Try.prog 17 #[p.agg] w fun e w' => e = .returned (.int .i64 (countP p)) ∧ Below w.heap.size w w' := by
  have hs0 := St.new hp
  unfold Prod.cells at hs0
  have HS0 := Lib.hid hs0
  have hck := rcheck_any p _ hs0.pv
  unfold Prod.agg Prod.cells at hck ⊢
  clear hp hs0
  by_cases hz : checkP p = 0
  · have HC : Hid (countP p = countN p.months.length) := Lib.hid (if_pos hz)
    have hlen := check_len hz
    have hn : p.months.length = 2 ∨ p.months.length = 3 ∨ p.months.length = 4 ∨ p.months.length = 5 ∨ p.months.length = 6 := by omega
    have HZ := Lib.hid hz
    clear hz hlen
    go_enter Try.func17, Try.ntmps17
    go_wp2_with fail
    refine hck.mono ?_
    rw [HZ.out]
    rintro e w1 ⟨rfl, hb1⟩
    have HS := Lib.hid (HS0.out.next hb1)
    have b1 := HS.out.pc.2.1
    clear hck hb1
    rcases hn with hn | hn | hn | hn | hn
    all_goals
      rw [hn] at b1
      have HN := Lib.hid hn
      clear hn
      go_wp2_with fail
      go_ret
      exact ⟨by rw [HC.out, HN.out]; rfl, HS.out.bel⟩
  · have HC : Hid (countP p = 0) := Lib.hid (if_neg hz)
    have hz1 : (checkP p == 0) = false := by rw [beq_eq_false_iff_ne]; exact hz
    have hz2 : (checkP p != 0) = true := by rw [bne_iff_ne]; exact hz
    clear hz
    generalize checkP p = cp at *
    go_enter Try.func17, Try.ntmps17
    go_wp2_with fail
    refine hck.mono ?_
    rintro e w1 ⟨rfl, hb1⟩
    have HS := Lib.hid (HS0.out.next hb1)
    clear hck hb1
    go_wp2_with fail
    go_ret
    exact ⟨by rw [HC.out]; rfl, HS.out.bel⟩

end Go.Proofs.Ytmaijkoopjocdaa
