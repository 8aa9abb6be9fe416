/- The walks of implied.Best and Show. -/
import Derived.Test.YtilficlanliinaaQuo14
namespace Go.Proofs.Ytilficlanliinaa
open Go.RowKit

def bestStep (side : Int) (x q : Qt) : Qt := if betterP side q.price x.price = true then q else x
def bestP (l : List Qt) (side : Int) : Qt × Bool :=
  match l with
  | [] => (zeroQt, false)
  | x :: l' => (l'.foldl (bestStep side) x, true)
/-- the best of the first k, where the first is there -/
def bestTo (l : List Qt) (side : Int) (k : Nat) : Qt := (l.take k).foldl (bestStep side) (l.headD zeroQt)
theorem bestTo_succ {l : List Qt} {k : Nat} {q : Qt} (side : Int) (h : l[k]? = some q) : bestTo l side (k + 1) = bestStep side (bestTo l side k) q := by
  unfold bestTo
  rw [List.take_add_one, h, List.foldl_append]
  rfl
theorem better_self (side x : Int) : betterP side x x = false := by
  unfold betterP
  split <;> simp
theorem bestTo_end {l : List Qt} (side : Int) (h : 0 < l.length) : bestP l side = (bestTo l side l.length, true) := by
  cases l with
  | nil => simp at h
  | cons x l =>
    unfold bestP bestTo
    rw [List.take_length]
    show _ = ((l.foldl (bestStep side) (bestStep side x x)), true)
    have : bestStep side x x = x := by unfold bestStep; rw [better_self, if_neg (by simp)]
    rw [this]
/-- a quote in a box -/
def QAgg (q : Qt) : Value := .agg q.cells.toArray
theorem Keeps.fill6 (w : World) (g : Nat) (v0 v1 v2 v3 v4 v5 : Value) : Keeps (fun k => k = g) w ((((((w.setCell ⟨g, 0, none⟩ v0).setCell ⟨g, 1, none⟩ v1).setCell ⟨g, 2, none⟩ v2).setCell ⟨g, 3, none⟩ v3).setCell ⟨g, 4, none⟩ v4).setCell ⟨g, 5, none⟩ v5) :=
  ((((((Keeps.refl (fun k => k = g) w).setCell (p := ⟨g, 0, none⟩) (fun _ => rfl) v0).setCell (p := ⟨g, 1, none⟩) (fun _ => rfl) v1).setCell (p := ⟨g, 2, none⟩) (fun _ => rfl) v2).setCell (p := ⟨g, 3, none⟩) (fun _ => rfl) v3).setCell (p := ⟨g, 4, none⟩) (fun _ => rfl) v4).setCell (p := ⟨g, 5, none⟩) (fun _ => rfl) v5
theorem Blk.fill6 {w : World} {g : Nat} {t : TypeId} {x0 x1 x2 x3 x4 x5 : Value} (h : Blk w g t #[x0, x1, x2, x3, x4, x5]) (v0 v1 v2 v3 v4 v5 : Value) : Blk ((((((w.setCell ⟨g, 0, none⟩ v0).setCell ⟨g, 1, none⟩ v1).setCell ⟨g, 2, none⟩ v2).setCell ⟨g, 3, none⟩ v3).setCell ⟨g, 4, none⟩ v4).setCell ⟨g, 5, none⟩ v5) g t #[v0, v1, v2, v3, v4, v5] := by
  have h1 := (((((h.set_ 0 v0).set_ 1 v1).set_ 2 v2).set_ 3 v3).set_ 4 v4).set_ 5 v5
  simp only [List.setIfInBounds_toArray, List.set_cons_zero, List.set_cons_succ] at h1
  exact h1
/-- a quote's box, cell by cell -/
def QC (w : World) (g : Nat) (q : Qt) : Prop := w.cell? ⟨g, 0, none⟩ = some (.int .i64 q.price) ∧ w.cell? ⟨g, 1, none⟩ = some (.int .i64 q.qty) ∧ w.cell? ⟨g, 2, none⟩ = some (.int .i64 q.i0) ∧ w.cell? ⟨g, 3, none⟩ = some (.int .i64 q.s0) ∧ w.cell? ⟨g, 4, none⟩ = some (.int .i64 q.i1) ∧ w.cell? ⟨g, 5, none⟩ = some (.int .i64 q.s1)
theorem QC.of {w : World} {g : Nat} {t : TypeId} {q : Qt} (h : Blk w g t q.cells.toArray) : QC w g q := ⟨h.cell 0, h.cell 1, h.cell 2, h.cell 3, h.cell 4, h.cell 5⟩
/-- where Best stands: the boxes of the result and of the best, the row that is read -/
structure BS (W w : World) (gr gb : Nat) (aa : Option Addr) (A : List Qt) (r x : Qt) : Prop where
  bel : Below W.heap.size W w
  res : Blk w gr 38 r.cells.toArray
  best : Blk w gb 38 x.cells.toArray
  rd : QT.Rd W aa A
  gr0 : W.heap.size ≤ gr
  gb0 : W.heap.size ≤ gb
  ne : gr ≠ gb
theorem BS.next {W w w' : World} {gr gb : Nat} {aa : Option Addr} {A : List Qt} {r x : Qt} (h : BS W w gr gb aa A r x) (hb : Below w.heap.size w w') : BS W w' gr gb aa A r x :=
  ⟨h.bel.trans (hb.mono h.bel.size), h.res.below hb, h.best.below hb, h.rd, h.gr0, h.gb0, h.ne⟩
end Go.Proofs.Ytilficlanliinaa
