/- Rows of structs: append of many as a step of a region that draws its order. -/
import Derived.Test.YtilficlanliinaaRow
namespace Go.Proofs.Ytilficlanliinaa
open Go.RowKit

section
variable {α : Type}
/-- append of many that are read, none of them too, as a step of a region that draws its order -/
theorem Lay.steps (Y : Lay α) {w : World} {ops : Array Oper} {o : Oper} {a : Act} {K : Act → World → Prop} {Q : Exit → Act → World → Prop} {E : Prop} (hgd : o.guard = none) (s x : Operand)
    (ho : o.op = .call { callee := .builtin .append, args := #[s, x], argTypes := #[Y.ts, Y.ts] })
    (B : Nat) (v : Value) (L : List α) (hs : a.eval s = v) (hown : Y.Row w B v L) (A : Option Addr) (n c : Nat) (M : List α) (hn : M.length = n) (hx : a.eval x = .slice A n c) (hac : A = none → c = 0) (hrd : Y.Rd w A M)
    (hA : ∀ ad, A = some ad → ∃ b off, ad = ⟨b, off, none⟩) (hle : L.length + M.length ≤ 1000000) (hbase : B ≤ w.heap.size)
    (h : ∀ v' w', Y.Row w' B v' (L ++ M) → w.grownBy w' v.ownBlock → (v'.ownBlock = v.ownBlock ∨ v'.ownBlock = some w.heap.size) → K (a.put o.dst v') w') :
    if Region.wanted o (yielded ops a.tmps) = true then Oper.wp Try.prog o a w K Q else E := by
  subst hn
  have hw : Region.wanted o (yielded ops a.tmps) = true := by simp [Region.wanted, hgd]
  rw [if_pos hw]
  obtain ⟨i0, hi, hz0, hz1, hz2⟩ := info_parts Y.info
  rcases A with _ | ad
  · have hM : M = [] := by
      cases M with
      | nil => rfl
      | cons e M => obtain ⟨b, off, h1, _⟩ := hrd 0 e rfl; cases h1
    subst hM
    have hc := hac rfl
    subst hc
    have hrun := run_append_owned_none (P := Try.prog) (w := w) B Y.ts o.type Y.t i0 Y.m Y.und hi v L.length _ hown
    have hk := h v w (by rw [List.append_nil]; exact hown) (World.grownBy.refl w _) (.inl rfl)
    have hx' : a.eval x = .slice none 0 0 := hx
    unfold Oper.wp
    simp [execOp, ho, resolve, invoke, builtin, hs, hx', hrun, Result.andThen]
    exact hk
  · obtain ⟨v', w', hr, h2, h3, h5⟩ := Y.run_append o.type hown ad c M (hA ad rfl) hrd hle hbase
    unfold Oper.wp execOp
    simp only [ho, resolve, invoke, builtin, Sem.run_bind, Sem.run_pure, Result.andThen_ok, List.map_toArray, List.map_cons, List.map_nil, hs, hx, hr]
    exact h v' w' h2 h3 h5
end
end Go.Proofs.Ytilficlanliinaa
