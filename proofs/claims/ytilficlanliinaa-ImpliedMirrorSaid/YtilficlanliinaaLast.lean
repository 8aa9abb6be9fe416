/- A region that draws its order, walked under one condition on the world that need not hold any more behind the operation that comes last: so that a store there may undo it. No function of the program in sight. -/
import Derived.Test.YtilficlanliinaaChecked
import Derived.OrdersHeld
import Derived.StillTail
import Derived.RegionTactic
import Derived.Deep.RegionHeld3
namespace Go.Proofs.Ytilficlanliinaa

section
variable {P : Program} {ops : Array Oper} {Q : Exit → Act → World → Prop} {md : Region.Mode} {S : World → Prop}

/-- whatever order is picked from here on; S holds behind each operation as long as one is still to come -/
def wpE (P : Program) (md : Region.Mode) (ops : Array Oper) (Q : Exit → Act → World → Prop) (S : World → Prop) : Nat → Array Bool → Act → World → Prop
  | 0, L, a, w => Region.ready md ops L = [] ∧ Q .normal a w
  | f + 1, L, a, w => (Region.ready md ops L = [] → Q .normal a w) ∧ ∀ i ∈ Region.ready md ops L, wpOp P ops Q i (fun b u => ((∃ k, (L.setIfInBounds i true).getD k true = false) → S u) ∧ wpE P md ops Q S f (L.setIfInBounds i true) b u) a w

theorem wpAny_of_E : ∀ (f : Nat) (L : Array Bool) (a : Act) (w : World), wpE P md ops Q S f L a w → wpAny P md ops Q f L a w
  | 0, _, _, _, h => h
  | f + 1, _, _, _, h => ⟨h.1, fun i hi => wpOp_mono (fun b u hb => wpAny_of_E f _ b u hb.2) (h.2 i hi)⟩

/-- does an operation that has not come up yet wait for this one? -/
def awaited (md : Region.Mode) (ops : Array Oper) (L : Array Bool) (i : Nat) : Bool := (List.range ops.size).any fun k => decide (k ≠ i) && !L.getD k true && Region.waitsFor md ops k i

theorem wpE_first {i k : Nat} {oi : Oper} {v : Value} (hi : ops[i]? = some oi) (hsel : ∀ (j : Nat) (o : Oper) cs b, ops[j]? = some o → o.op ≠ .select cs b)
    (hQ : ∀ c a w, Q (.panic c) (a.put oi.dst v) w → Q (.panic c) a w) (hki : k ≠ i) (hkw : Region.waitsFor md ops k i = true) :
    ∀ (f : Nat) (L : Array Bool) (a : Act) (w : World), L.getD k true = false →
      (∀ j oj, ops[j]? = some oj → j ≠ i → L.getD j true = false → (∀ e ∈ oj.after, Region.binds md e = true → e.on ≠ i) → oi.apart ops oj = true) →
      i ∈ Region.ready md ops L → YieldsIf P ops S oi v a → S w → wpE P md ops Q S f (L.setIfInBounds i true) (a.put oi.dst v) w → wpE P md ops Q S (f + 1) L a w := by
  intro f
  induction f with
  | zero =>
    intro L a w _ _ hr hy hS H
    refine ⟨fun h0 => absurd hr (by rw [h0]; simp), fun j hj => ?_⟩
    by_cases hji : j = i
    · subst hji
      exact hy.wpOp hi hS ⟨fun _ => hS, H⟩
    · have h0 := ready_mono hj hji
      rw [H.1] at h0
      cases h0
  | succ f ih =>
    intro L a w hk hfree hr hy hS H
    refine ⟨fun h0 => absurd hr (by rw [h0]; simp), fun j hj => ?_⟩
    by_cases hji : j = i
    · subst hji
      exact hy.wpOp hi hS ⟨fun _ => hS, H⟩
    · have hiun := (mem_ready.1 hr).1
      obtain ⟨hjun, oj, hoj, hall⟩ := mem_ready.1 hj
      have hno : ∀ e ∈ oj.after, Region.binds md e = true → e.on ≠ i := fun e he hb heq => by
        have h1 := hall e he hb
        rw [heq, getD_both hiun] at h1
        cases h1
      have hjk : j ≠ k := by
        rintro rfl
        obtain ⟨o', ho', e, he, hb, hon⟩ := Region.waitsFor_spec hkw
        rw [hoj] at ho'
        injection ho' with ho'
        subst ho'
        exact hno e he hb hon
      have h2 := wpOp_putIf hoj (hfree j oj hoj hji hjun hno) (fun cs b => hsel i oi cs b hi) (fun cs b => hsel j oj cs b hoj) hQ hy (H.2 j (ready_mono hj hji))
      refine wpOp_mono (fun b u hb => ?_) h2
      have hkj : (L.setIfInBounds j true).getD k true = false := by rw [getD_set_ne true hjk]; exact hk
      have hSu : S u := hb.2.1 ⟨k, by rw [getD_set_ne true hjk, getD_set_ne true (Ne.symm hki)]; exact hk⟩
      refine ⟨fun _ => hSu, ih (L.setIfInBounds j true) b u hkj (fun k' ok hk' hki' hun hno' => hfree k' ok hk' hki' (by
        by_cases hx : j = k'
        · subst hx; exact hjun
        · rw [getD_set_ne true hx] at hun; exact hun) hno') (ready_mono hr (Ne.symm hji)) hb.1 hSu ?_⟩
      rw [Array.setIfInBounds_comm _ _ hji]
      exact hb.2.2

theorem wpE_take {i : Nat} {oi : Oper} {v : Value} {f : Nat} {L : Array Bool} {a : Act} {w : World} (hi : ops[i]? = some oi) (hs : Region.noSelect ops = true) (hf : Region.free md ops L i = true)
    (hr : (Region.ready md ops L).contains i = true) (ha : awaited md ops L i = true) (hQ : ∀ c a w, Q (.panic c) (a.put oi.dst v) w → Q (.panic c) a w) (hy : YieldsIf P ops S oi v a) (hS : S w)
    (h : wpE P md ops Q S f (L.setIfInBounds i true) (a.put oi.dst v) w) : wpE P md ops Q S (f + 1) L a w := by
  obtain ⟨k, _, hk⟩ := List.any_eq_true.1 ha
  simp only [Bool.and_eq_true, decide_eq_true_eq, Bool.not_eq_true'] at hk
  exact wpE_first hi (Region.noSelect_spec hs) hQ hk.1.1 hk.2 f L a w hk.1.2 (Region.free_spec hi hf) (by simpa using hr) hy hS h

/-- one operation alone may come up, and others are still to come -/
theorem wpE_one {i : Nat} {o : Oper} {f : Nat} {L : Array Bool} {a : Act} {w : World} (ho : ops[i]? = some o) (hr : Region.ready md ops L = [i])
    (h : ∀ K' : Act → World → Prop, Shut (∀ a w, S w → (S w → wpE P md ops Q S f (L.setIfInBounds i true) a w) → K' a w) → if Region.wanted o (yielded ops a.tmps) = true then Oper.wp P o a w K' Q else K' (a.put o.dst undef) w) : wpE P md ops Q S (f + 1) L a w := by
  refine ⟨fun h0 => (by rw [hr] at h0; cases h0), fun j hj => ?_⟩
  rw [hr] at hj
  obtain rfl : j = i := by simpa using hj
  exact wpOp_step ho fun K' hK => h K' fun b u hS hW => hK b u ⟨fun _ => hS, hW hS⟩
/-- the operation that comes last -/
theorem wpE_last {i : Nat} {o : Oper} {f : Nat} {L : Array Bool} {a : Act} {w : World} (ho : ops[i]? = some o) (hr : Region.ready md ops L = [i]) (hall : (L.setIfInBounds i true).all (fun b => b) = true) (hz : Region.ready md ops (L.setIfInBounds i true) = [])
    (h : ∀ K' : Act → World → Prop, Shut (∀ a w, Q .normal a w → K' a w) → if Region.wanted o (yielded ops a.tmps) = true then Oper.wp P o a w K' Q else K' (a.put o.dst undef) w) : wpE P md ops Q S (f + 1) L a w := by
  refine ⟨fun h0 => (by rw [hr] at h0; cases h0), fun j hj => ?_⟩
  rw [hr] at hj
  obtain rfl : j = i := by simpa using hj
  refine wpOp_step ho fun K' hK => h K' fun b u hW => hK b u ⟨?_, ?_⟩
  · rintro ⟨k, hk⟩
    rcases Nat.lt_or_ge k (L.setIfInBounds j true).size with hlt | hge
    · have h1 := Array.all_eq_true.1 hall k hlt
      rw [show (L.setIfInBounds j true).getD k true = (L.setIfInBounds j true)[k]'hlt from by simp only [Array.getD, hlt, dite_true]; rfl] at hk
      rw [h1] at hk
      cases hk
    · have : (L.setIfInBounds j true).getD k true = true := by simp only [Array.getD, Nat.not_lt.2 hge, dite_false]
      rw [this] at hk
      cases hk
  · cases f with
    | zero => exact ⟨hz, hW⟩
    | succ f => exact ⟨fun _ => hW, fun i hi => by rw [hz] at hi; cases hi⟩
/-- from here on S holds behind each, the last one too -/
theorem wpE_of_held : ∀ (f : Nat) (L : Array Bool) (a : Act) (w : World), wpAnyH P md ops Q S f L a w → wpE P md ops Q S f L a w
  | 0, _, _, _, h => h
  | f + 1, _, _, _, h => ⟨h.1, fun i hi => wpOp_mono (fun b u hb => ⟨fun _ => hb.1, wpE_of_held f _ b u hb.2⟩) (h.2 i hi)⟩
/-- the beginning -/
theorem wp_region_E {id : Nat} {a : Act} {w : World} (hm : P.follows .mixedOrders = true) (hS : S w.drew) (h : S w.drew → wpE P .any ops Q S ops.size (Array.replicate ops.size false) a w.drew) : (Code.region id ops true).wp P Q a w :=
  wp_region_any hm (wpAny_of_E _ _ _ _ (h hS))
end
end Go.Proofs.Ytilficlanliinaa
