/- A region that draws its order, where one of two operations may come up. No function of the program in sight. -/
import Derived.Test.YtilficlanliinaaLast
namespace Go.Proofs.Ytilficlanliinaa

section
variable {P : Program} {ops : Array Oper} {Q : Exit → Act → World → Prop} {md : Region.Mode} {S : World → Prop}
theorem wpE_two {i j : Nat} {oi oj : Oper} {f : Nat} {L : Array Bool} {a : Act} {w : World} (hoi : ops[i]? = some oi) (hoj : ops[j]? = some oj) (hr : Region.ready md ops L = [i, j])
    (h1 : ∀ K' : Act → World → Prop, Shut (∀ a w, S w → (S w → wpE P md ops Q S f (L.setIfInBounds i true) a w) → K' a w) → if Region.wanted oi (yielded ops a.tmps) = true then Oper.wp P oi a w K' Q else K' (a.put oi.dst undef) w)
    (h2 : ∀ K' : Act → World → Prop, Shut (∀ a w, S w → (S w → wpE P md ops Q S f (L.setIfInBounds j true) a w) → K' a w) → if Region.wanted oj (yielded ops a.tmps) = true then Oper.wp P oj a w K' Q else K' (a.put oj.dst undef) w) : wpE P md ops Q S (f + 1) L a w := by
  refine ⟨fun h0 => (by rw [hr] at h0; cases h0), fun k hk => ?_⟩
  rw [hr] at hk
  have hk2 : k = i ∨ k = j := by simpa using hk
  rcases hk2 with rfl | rfl
  · exact wpOp_step hoi fun K' hK => h1 K' fun b u hS hW => hK b u ⟨fun _ => hS, hW hS⟩
  · exact wpOp_step hoj fun K' hK => h2 K' fun b u hS hW => hK b u ⟨fun _ => hS, hW hS⟩
end
end Go.Proofs.Ytilficlanliinaa
