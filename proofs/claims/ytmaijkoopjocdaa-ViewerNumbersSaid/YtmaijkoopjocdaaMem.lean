/- Words for memory: rows of structs in one block; a block known whole; what a call leaves alone. No function of the program in sight. -/
import Derived.Test.YtmaijkoopjocdaaChecked
import Derived.WalkKit
import Derived.WalkSpells
import Derived.WalkLawsBesides
import Derived.Lib.Hide
import Derived.Deep.LoopGhost
import Derived.BigRegion
import Derived.BigQuiet
import Derived.Outline
namespace Go.Proofs.Ytmaijkoopjocdaa
open Go.RowKit

/-! ### lists laid flat -/
section
variable {α β : Type} (c : α → List β) (m : Nat)
theorem fm_length (hc : ∀ x, (c x).length = m) (S : List α) : (S.flatMap c).length = S.length * m := by
  induction S with
  | nil => simp
  | cons x S ih => rw [List.flatMap_cons, List.length_append, hc, ih, List.length_cons, Nat.succ_mul]; omega
theorem fm_get (hc : ∀ x, (c x).length = m) : ∀ (S : List α) (i k : Nat) (hi : i < S.length), k < m → (S.flatMap c)[i * m + k]? = (c (S[i]'hi))[k]? := by
  intro S
  induction S with
  | nil => intro i k hi; exact absurd hi (by simp)
  | cons x S ih =>
    intro i k hi hk
    rw [List.flatMap_cons]
    cases i with
    | zero =>
      rw [Nat.zero_mul, Nat.zero_add, List.getElem?_append_left (by rw [hc]; exact hk)]
      rfl
    | succ i =>
      rw [Nat.succ_mul, List.getElem?_append_right (by rw [hc]; omega), hc, show i * m + m + k - m = i * m + k by omega]
      exact ih i k (by simpa using hi) hk
theorem fm_set (hc : ∀ x, (c x).length = m) (v : β) (y : α) : ∀ (S : List α) (i k : Nat) (hi : i < S.length), k < m → c y = (c (S[i]'hi)).set k v → (S.flatMap c).set (i * m + k) v = (S.set i y).flatMap c := by
  intro S
  induction S with
  | nil => intro i k hi; exact absurd hi (by simp)
  | cons x S ih =>
    intro i k hi hk hy
    cases i with
    | zero =>
      rw [Nat.zero_mul, Nat.zero_add, List.flatMap_cons, List.set_append_left _ _ (by rw [hc]; exact hk)]
      show _ = (y :: S).flatMap c
      rw [List.flatMap_cons, hy]
      rfl
    | succ i =>
      rw [Nat.succ_mul, List.flatMap_cons, List.set_append_right _ _ (by rw [hc]; omega), hc, show i * m + m + k - m = i * m + k by omega]
      show _ = (x :: S.set i y).flatMap c
      rw [List.flatMap_cons, ih i k (by simpa using hi) hk hy]
end

/-! ### a block known whole -/
def Blk (w : World) (g : Nat) (t : TypeId) (cs : Array Value) : Prop := w.heap[g]? = some (.cells cs t (0, 0))
section
variable {w w' : World} {g : Nat} {t : TypeId} {cs : Array Value}
theorem Blk.lt (h : Blk w g t cs) : g < w.heap.size := by
  rcases Nat.lt_or_ge g w.heap.size with hlt | hge
  · exact hlt
  · unfold Blk at h; rw [Array.getElem?_eq_none hge] at h; cases h
theorem Blk.cell (h : Blk w g t cs) (i : Nat) : w.cell? ⟨g, i, none⟩ = cs[i]? := cell_of_row w g i cs t (0, 0) h
theorem Blk.frozen (h : Blk w g t cs) (i : Nat) : w.frozen? ⟨g, i, none⟩ = false := by
  unfold Blk at h
  simp [World.frozen?, h]
theorem Blk.new (w : World) (t : TypeId) (cs : Array Value) : Blk (w.alloc (.cells cs t)) w.heap.size t cs := heap_alloc_new w _
theorem Blk.drew (h : Blk w g t cs) : Blk w.drew g t cs := h
theorem Blk.drewN (h : Blk w g t cs) (n : Nat) : Blk (w.drewN n) g t cs := h
theorem Blk.alloc (h : Blk w g t cs) (o : Obj) : Blk (w.alloc o) g t cs := (Below.heap_alloc w o g h.lt).trans h
theorem Blk.set_ (h : Blk w g t cs) (i : Nat) (u : Value) : Blk (w.setCell ⟨g, i, none⟩ u) g t (cs.setIfInBounds i u) := by
  unfold Blk at h ⊢
  simp [World.setCell, Array.getElem?_modify, h]
theorem Blk.far (h : Blk w g t cs) {p : Addr} (hp : g ≠ p.block) (u : Value) : Blk (w.setCell p u) g t cs := (Below.heap_setCell w p u g hp).trans h
end

/-! ### what a call leaves alone: every block that was there, but for those of F -/
structure Keeps (F : Nat → Prop) (w w' : World) : Prop where
  os : w'.os = w.os
  tape : w'.tape = w.tape
  output : w'.output = w.output
  size : w.heap.size ≤ w'.heap.size
  block : ∀ k, k < w.heap.size → ¬ F k → w'.heap[k]? = w.heap[k]?
section
variable {F G : Nat → Prop} {w w1 w2 : World}
theorem Keeps.refl (F : Nat → Prop) (w : World) : Keeps F w w := ⟨rfl, rfl, rfl, Nat.le_refl _, fun _ _ _ => rfl⟩
theorem Keeps.trans (h : Keeps F w w1) (k : Keeps F w1 w2) : Keeps F w w2 :=
  ⟨k.os.trans h.os, k.tape.trans h.tape, k.output.trans h.output, Nat.le_trans h.size k.size, fun i hi hf => (k.block i (Nat.lt_of_lt_of_le hi h.size) hf).trans (h.block i hi hf)⟩
theorem Keeps.more (h : Keeps F w w1) (hFG : ∀ k, F k → G k) : Keeps G w w1 := ⟨h.os, h.tape, h.output, h.size, fun k hk hg => h.block k hk fun hf => hg (hFG k hf)⟩
/-- the same, of two steps: what the second one turns was not there before the first, or the first may turn it -/
theorem Keeps.step (h : Keeps F w w1) (k : Keeps G w1 w2) (hG : ∀ i, i < w.heap.size → G i → F i) : Keeps F w w2 :=
  ⟨k.os.trans h.os, k.tape.trans h.tape, k.output.trans h.output, Nat.le_trans h.size k.size, fun i hi hf => (k.block i (Nat.lt_of_lt_of_le hi h.size) fun hg => hf (hG i hi hg)).trans (h.block i hi hf)⟩
theorem Keeps.drew (h : Keeps F w w1) : Keeps F w w1.drew := ⟨h.os, h.tape, h.output, h.size, h.block⟩
theorem Keeps.drewN (h : Keeps F w w1) (n : Nat) : Keeps F w (w1.drewN n) := ⟨h.os, h.tape, h.output, h.size, h.block⟩
theorem Keeps.alloc (h : Keeps F w w1) (o : Obj) : Keeps F w (w1.alloc o) :=
  ⟨h.os, h.tape, h.output, by have := h.size; simp; omega, fun k hk hf => (Below.heap_alloc w1 o k (Nat.lt_of_lt_of_le hk h.size)).trans (h.block k hk hf)⟩
theorem Keeps.setCell (h : Keeps F w w1) {p : Addr} (hp : p.block < w.heap.size → F p.block) (u : Value) : Keeps F w (w1.setCell p u) :=
  ⟨h.os, h.tape, h.output, by have := h.size; simp [World.setCell]; omega, fun k hk hf => (Below.heap_setCell w1 p u k fun e => hf (by rw [e]; exact hp (by rw [← e]; exact hk))).trans (h.block k hk hf)⟩
theorem Keeps.below {B : Nat} (h : Keeps F w w1) (hF : ∀ k, F k → B ≤ k) (hB : B ≤ w.heap.size) : Below B w w1 :=
  ⟨h.os, h.tape, h.output, h.size, fun k hk => h.block k (Nat.lt_of_lt_of_le hk hB) fun hf => by have := hF k hf; omega⟩
theorem Below.keeps (h : Below w.heap.size w w1) : Keeps F w w1 := ⟨h.os, h.tape, h.output, h.size, fun k hk _ => h.block k hk⟩
theorem Blk.keeps {g : Nat} {t : TypeId} {cs : Array Value} (h : Blk w g t cs) (hk : Keeps F w w1) (hg : ¬ F g) : Blk w1 g t cs := (hk.block g h.lt hg).trans h
end
end Go.Proofs.Ytmaijkoopjocdaa
