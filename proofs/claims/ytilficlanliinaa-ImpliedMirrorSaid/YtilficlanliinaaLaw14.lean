/- What the laws of chapter 14 stand on: a right product, its tops; how many quotes there are; the best is the first of its price. -/
import Derived.Test.YtilficlanliinaaKnown14
namespace Go.Proofs.Ytilficlanliinaa
open Go.RowKit

theorem allP_len (p : Prod) (L : List Tp) (inst side : Int) : (allP p L inst side).length ≤ 27 := by
  unfold allP
  split
  · simp
  · rename_i hb
    split
    · exact Nat.le_trans (opt_len _) (by omega)
    · unfold badAll at hb
      have h1 := ups_len p L inst.toNat side (p.months.length - (inst.toNat + 1))
      have h2 := downs_len p L inst.toNat side inst.toNat
      have h3 := countP_bd p
      have h4 : p.months.length ≤ 6 := (check_len (count_ne (p := p) (by omega))).2
      rw [List.length_append]
      omega
theorem quotesP_len (p : Prod) (L : List Tp) (inst side : Int) : (quotesP p L inst side).length ≤ 27 := Nat.le_trans (List.length_filter_le _ _) (allP_len p L inst side)
theorem tame_ok {t : Int} (x : Tp) (h1 : 1 ≤ t) (h2 : t ≤ 1000) : (tameTp t x).ok := by
  have a := withI_bd x.q0 0 20 (by omega)
  have b := withI_bd x.q1 0 20 (by omega)
  have h5 : i64ok (1 + withI x.q0 0 20) := by unfold i64ok; omega
  have h6 : i64ok (1 + withI x.q1 0 20) := by unfold i64ok; omega
  exact ⟨rem_mul h1 h2, rem_mul h1 h2, h5, h6⟩
theorem tops_mem {t : Int} {n : Nat} {L : List Tp} {i : Nat} {x : Tp} (h : x ∈ topsTo t n L i) : x = zeroTp ∨ ∃ y ∈ L, x = tameTp t y := by
  unfold topsTo at h
  rw [List.mem_map] at h
  obtain ⟨m, _, hm⟩ := h
  split at hm
  · split at hm
    · rename_i y hy
      exact .inr ⟨y, List.mem_of_getElem? hy, hm.symm⟩
    · exact .inl hm.symm
  · exact .inl hm.symm
theorem zero_ok : zeroTp.ok := ⟨by decide, by decide, by decide, by decide⟩
theorem topsP_ok {p : Prod} (hz : checkP p = 0) (L : List Tp) : ∀ x ∈ topsP p L, x.ok := by
  intro x hx
  have ht := check_tick hz
  rcases tops_mem hx with rfl | ⟨y, _, rfl⟩
  · exact zero_ok
  · exact tame_ok y ht.1 ht.2
theorem topsP_len {p : Prod} (L : List Tp) : (topsP p L).length = countN p.months.length := topsTo_len _ _ _ _
/-- where a law stands: a right product in its box, its tops in a block -/
structure LT (w w1 : World) (gp : Nat) (p : Prod) (gt : Nat) (S : List Tp) : Prop where
  bel : Below w.heap.size w w1
  box : Blk w1 gp 25 p.cells
  pv : PV w1 p
  tp : Blk w1 gt 42 (S.flatMap Tp.cells).toArray
  gp0 : w.heap.size ≤ gp
  gt0 : w.heap.size ≤ gt
section
variable {w w1 w2 : World} {gp gt : Nat} {p : Prod} {S : List Tp}
theorem LT.next (h : LT w w1 gp p gt S) (hb : Below w1.heap.size w1 w2) : LT w w2 gp p gt S :=
  ⟨h.bel.trans (hb.mono h.bel.size), h.box.below hb, h.pv.below hb, h.tp.below hb, h.gp0, h.gt0⟩
theorem LT.pc (h : LT w w1 gp p gt S) : PC w1 gp p := PC.of5 h.box
theorem LT.rd (h : LT w w1 gp p gt S) : TP.Rd w1 (some ⟨gt, 0, none⟩) S := h.tp.tops
end
/-- a row, wherever its calls began -/
theorem row_base {w : World} {B B' : Nat} {v : Value} {Q : List Qt} (h : QT.Row w B v Q) (hb : B' ≤ B) : QT.Row w B' v Q :=
  ⟨h.1, h.2.imp id (fun ⟨g, c, cu, h1, h2, h3⟩ => ⟨g, c, cu, h1, Nat.le_trans hb h2, h3⟩)⟩

/-! ### the best -/
theorem better_trans {side a b c : Int} (h1 : betterP side a b = true) (h2 : betterP side c b = false) : betterP side a c = true := by
  unfold betterP at *
  split at h1 <;> simp_all <;> omega
theorem better_irr {side a b c : Int} (h1 : betterP side a b = false) (h2 : betterP side b c = false) : betterP side a c = false := by
  unfold betterP at *
  split at h1 <;> simp_all <;> omega
/-- the first k's best: it is one of them, betters all ahead of it, and none betters it -/
theorem bestTo_spec {l : List Qt} (side : Int) : ∀ k, 0 < k → k ≤ l.length → ∃ j, j < k ∧ l[j]? = some (bestTo l side k) ∧ (∀ i q, i < j → l[i]? = some q → betterP side (bestTo l side k).price q.price = true) ∧ (∀ i q, i < k → l[i]? = some q → betterP side q.price (bestTo l side k).price = false) := by
  intro k
  induction k with
  | zero => intro h; omega
  | succ k ih =>
    intro _ hk
    obtain ⟨q, hq⟩ : ∃ q, l[k]? = some q := ⟨_, List.getElem?_eq_getElem (by omega)⟩
    rw [bestTo_succ side hq]
    unfold bestStep
    by_cases hk0 : k = 0
    · subst hk0
      have hb : bestTo l side 0 = q := by
        unfold bestTo
        cases l with
        | nil => simp at hq
        | cons x l => simp at hq; simp [hq]
      rw [hb, better_self, if_neg (by simp)]
      refine ⟨0, by omega, hq, fun i x hi => by omega, fun i x hi hx => ?_⟩
      obtain rfl : i = 0 := by omega
      rw [hq] at hx
      injection hx with hx
      rw [hx, better_self]
    · obtain ⟨j, hj, h1, h2, h3⟩ := ih (by omega) (by omega)
      cases hb : betterP side q.price (bestTo l side k).price with
      | true =>
        rw [if_pos rfl]
        refine ⟨k, by omega, hq, fun i x hi hx => better_trans hb (h3 i x hi hx), fun i x hi hx => ?_⟩
        by_cases hik : i = k
        · subst hik
          rw [hq] at hx
          injection hx with hx
          rw [hx, better_self]
        · have h4 := better_trans hb (h3 i x (by omega) hx)
          unfold betterP at h4 ⊢
          split at h4 <;> simp_all <;> omega
      | false =>
        rw [if_neg (by simp)]
        refine ⟨j, by omega, h1, h2, fun i x hi hx => ?_⟩
        by_cases hik : i = k
        · subst hik
          rw [hq] at hx
          injection hx with hx
          rw [← hx]; exact hb
        · exact h3 i x (by omega) hx
end Go.Proofs.Ytilficlanliinaa
