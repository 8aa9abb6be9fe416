/- The walks of cornhilllaw15.same, cornhillkeep.Head and Short. -/
import Derived.Test.YtjjddlfbadahhaaRPrices
import Derived.Test.YtjjddlfbadahhaaMirr
import Derived.Test.YtjjddlfbadahhaaMem
namespace Go.Proofs.Ytjjddlfbadahhaa
open Go.RowKit

set_option maxHeartbeats 4000000 in
theorem same15_any (p : Prod) (inst price : Int) (w : World) (hp : PV w p) :
    Calls Try.prog 17 #[p.agg, .int .i64 inst, .int .i64 price] w fun e w' => e = .returned (.bool true) ∧ Below w.heap.size w w' := by
  have hs0 := St.new hp
  unfold Prod.cells at hs0
  have HS0 := Lib.hid hs0
  have hck := prices_any p inst price _ hs0.pv
  have HRP := Lib.hid fun wz (h : PV wz p) => rprices_any p inst price wz h
  unfold Prod.agg Prod.cells at hck HRP ⊢
  obtain ⟨l0, l1, l2, hl⟩ : ∃ l0 l1 l2, pricesP p inst price = (l0, l1, l2) := ⟨_, _, _, rfl⟩
  rw [hl] at hck HRP
  clear hp hs0 hl
  obtain ⟨b0, b1, b2, b3, b4, b5, b6, b7, b8, b9, b10⟩ := HS0.out.pc
  go_enter Try.func17, Try.ntmps17
  go_wp2_with fail
  refine hck.mono ?_
  rintro e w1 ⟨rfl, hb1⟩
  have HS := Lib.hid (HS0.out.next hb1)
  clear hck hb1 b0 b1 b2 b3 b4 b5 b6 b7 b8 b9 b10
  obtain ⟨b0, b1, b2, b3, b4, b5, b6, b7, b8, b9, b10⟩ := HS.out.pc
  go_wp2_with fail
  refine (HRP.out _ HS.out.pv).mono ?_
  rintro e w2 ⟨rfl, hb2⟩
  have HS2 := Lib.hid (HS.out.next hb2)
  clear hb2 b0 b1 b2 b3 b4 b5 b6 b7 b8 b9 b10
  go_wp2_with fail
  go_ret
  exact ⟨by trivial, HS2.out.bel⟩
end Go.Proofs.Ytjjddlfbadahhaa
