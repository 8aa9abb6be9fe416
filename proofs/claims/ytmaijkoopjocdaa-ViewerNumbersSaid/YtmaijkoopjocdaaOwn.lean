/- Rows of numbers of the call's own; numbers brought into bounds. No function of refdata in sight. -/
import Derived.Test.YtmaijkoopjocdaaProd
import Derived.Test.YtmaijkoopjocdaaMem
import Derived.Maps.AppendAt
import Derived.Laws.AppendOwnNone
namespace Go.Proofs.Ytmaijkoopjocdaa
open Go.RowKit

theorem own_form {w : World} {B : Nat} {t : TypeId} {size n : Nat} {v : Value} {xs : List Value} (h : w.ownsRow B t size v n xs) : ∃ a c, v = .slice a n c := by
  rcases h.2 with ⟨rfl, h0⟩ | ⟨g, cap, cur, rfl, _⟩
  · exact ⟨none, 0, by rw [h0]⟩
  · exact ⟨_, _, rfl⟩
theorem own_base {w : World} {B : Nat} {t : TypeId} {size n : Nat} {v : Value} {xs : List Value} (h : w.ownsRow B t size v n xs) : ∀ g, v.ownBlock = some g → B ≤ g := by
  intro g hg
  rcases h.2 with ⟨rfl, h0⟩ | ⟨g', cap, cur, rfl, hb, _⟩
  · cases hg
  · have : g' = g := by simpa [Value.ownBlock] using hg
    omega
theorem own_lt {w : World} {B : Nat} {t : TypeId} {size n : Nat} {v : Value} {xs : List Value} (h : w.ownsRow B t size v n xs) : ∀ g, v.ownBlock = some g → g < w.heap.size := by
  intro g hg
  rcases h.2 with ⟨rfl, h0⟩ | ⟨g', cap, cur, rfl, hb, hh, _⟩
  · cases hg
  · have : g' = g := by simpa [Value.ownBlock] using hg
    subst this
    rcases Nat.lt_or_ge g' w.heap.size with hlt | hge
    · exact hlt
    · rw [Array.getElem?_eq_none hge] at hh; cases hh
theorem own_keep {w w' : World} {B : Nat} {t : TypeId} {size n : Nat} {v : Value} {xs : List Value} {F : Nat → Prop} (h : w.ownsRow B t size v n xs) (hk : Keeps F w w') (hf : ∀ g, v.ownBlock = some g → ¬ F g) : w'.ownsRow B t size v n xs := by
  have hl := own_lt h
  refine ⟨h.1, ?_⟩
  rcases h.2 with h2 | ⟨g, cap, cur, hv, hb, hh, r⟩
  · exact .inl h2
  · have hg : v.ownBlock = some g := by rw [hv]; rfl
    exact .inr ⟨g, cap, cur, hv, hb, (hk.block g (hl g hg) (hf g hg)).trans hh, r⟩
theorem own_below {w w' : World} {B : Nat} {t : TypeId} {size n : Nat} {v : Value} {xs : List Value} (h : w.ownsRow B t size v n xs) (hb : Below w.heap.size w w') : w'.ownsRow B t size v n xs :=
  own_keep h (Below.keeps (F := fun _ => False) hb) fun _ _ x => x
theorem grown_keeps {w w' : World} {r : Option Nat} (h : w.grownBy w' r) : Keeps (fun g => r = some g) w w' :=
  ⟨h.os, h.tape, h.output, h.size, fun k hk hf => h.block k hk fun e => hf e.symm⟩
theorem grown_below {w0 w w' : World} {r : Option Nat} (h : w.grownBy w' r) (hb : Below w0.heap.size w0 w) (hr : ∀ g, r = some g → w0.heap.size ≤ g) : Below w0.heap.size w0 w' :=
  ⟨h.os.trans hb.os, h.tape.trans hb.tape, h.output.trans hb.output, Nat.le_trans hb.size h.size, fun k hk => (h.block k (Nat.lt_of_lt_of_le hk hb.size) (fun e => by have := hr k e.symm; omega)).trans (hb.block k hk)⟩
/-- the type of a block of cells -/
def Tyd (w : World) (g : Nat) (t : TypeId) : Prop := ∃ cs, w.heap[g]? = some (.cells cs t (0, 0))
theorem Tyd.ne {w : World} {g g' : Nat} {t t' : TypeId} (h : Tyd w g t) (h' : Tyd w g' t') (hne : t ≠ t') : g ≠ g' := by
  rintro rfl
  obtain ⟨cs, h⟩ := h
  obtain ⟨cs', h'⟩ := h'
  rw [h] at h'
  injection h' with h'
  injection h' with _ h'
  exact hne h'
theorem own_tyd {w : World} {B : Nat} {t : TypeId} {size n : Nat} {v : Value} {xs : List Value} (h : w.ownsRow B t size v n xs) : ∀ g, v.ownBlock = some g → Tyd w g t := by
  intro g hg
  rcases h.2 with ⟨rfl, h0⟩ | ⟨g', cap, cur, rfl, hb, hh, _⟩
  · cases hg
  · have : g' = g := by simpa [Value.ownBlock] using hg
    subst this
    exact ⟨_, hh⟩
theorem Blk.tyd {w : World} {g : Nat} {t : TypeId} {cs : Array Value} (h : Blk w g t cs) : Tyd w g t := ⟨_, h⟩
theorem qa_of {qa : Option Addr} {n c g : Nat} {w : World} {B : Nat} {t : TypeId} {size m : Nat} {xs : List Value} (h : w.ownsRow B t size (.slice qa n c) m xs) (hg : (Value.slice qa n c).ownBlock = some g) : qa = some ⟨g, 0, none⟩ := by
  rcases h.2 with ⟨hv, _⟩ | ⟨g', cap', _, hv, _⟩
  · rw [hv] at hg; cases hg
  · rw [hv] at hg
    have e : g' = g := by simpa [Value.ownBlock] using hg
    injection hv with e1
    rw [e1, e]
theorem add_at (b off m : Nat) : (⟨b, off, none⟩ : Addr).add m = ⟨b, off + m, none⟩ := by
  unfold Addr.add
  split
  · rename_i h; rw [h, Nat.add_zero]
  · rfl

/-- a row of numbers of the call's own -/
def RowI (w : World) (B : Nat) (t : TypeId) (v : Value) (L : List Int) : Prop := w.ownsRow B t 1 v L.length (L.map (Value.int .i64))
theorem RowI.ints {w : World} {B : Nat} {t : TypeId} {a : Option Addr} {m c : Nat} {L : List Int} (h : RowI w B t (.slice a m c) L) (hok : ∀ x ∈ L, i64ok x) : Ints w a L := by
  intro j x hj
  have hjl := lt_of_get hj
  refine ⟨hok x (List.mem_of_getElem? hj), ?_⟩
  have hl := own_lt h
  rcases h.2 with ⟨hv, h0⟩ | ⟨g, cap, cur, hv, hb, hh, r⟩
  · omega
  · injection hv with hv1 hv2 hv3
    subst hv1
    subst hv2
    refine ⟨g, 0, rfl, hl g rfl, ?_⟩
    have := World.ownsRow.cellAt h j (by omega)
    rw [Nat.zero_add, this, List.getElem?_map, hj]; rfl

/-- what an append onto a row of the call's own leaves as it was -/
theorem grow_blk {w w5 : World} {o : Obj} {B : Nat} {t : TypeId} {size n : Nat} {v : Value} {xs : List Value} (hown : w.ownsRow B t size v n xs) (hg : (w.alloc o).grownBy w5 v.ownBlock) {g : Nat} {t' : TypeId} {cs : Array Value} (hb : Blk w g t' cs) (hne : t' ≠ t) : Blk w5 g t' cs :=
  (hb.alloc o).keeps (grown_keeps hg) fun h => hb.tyd.ne (own_tyd hown g h) hne rfl
theorem grow_own {w w5 : World} {o : Obj} {B : Nat} {t : TypeId} {size n : Nat} {v : Value} {xs : List Value} (hown : w.ownsRow B t size v n xs) (hg : (w.alloc o).grownBy w5 v.ownBlock) {B' : Nat} {t' : TypeId} {size' n' : Nat} {v' : Value} {xs' : List Value} (h : w.ownsRow B' t' size' v' n' xs') (hne : t' ≠ t) : w5.ownsRow B' t' size' v' n' xs' :=
  own_keep (own_below h (Below.allocN w o)) (grown_keeps hg) fun g h1 h2 => (own_tyd h g h1).ne (own_tyd hown g h2) hne rfl
theorem grow_below {W w w5 : World} {o : Obj} {t : TypeId} {size n : Nat} {v : Value} {xs : List Value} (hown : w.ownsRow W.heap.size t size v n xs) (hg : (w.alloc o).grownBy w5 v.ownBlock) (hb : Below W.heap.size W w) : Below W.heap.size W w5 :=
  grown_below hg (hb.alloc hb.size o) (own_base hown)
theorem store_own {w : World} {B : Nat} {t : TypeId} {size n : Nat} {v : Value} {xs : List Value} (h : w.ownsRow B t size v n xs) {g : Nat} {t' : TypeId} {cs : Array Value} (hb : Blk w g t' cs) (hne : t ≠ t') (i : Nat) (u : Value) : (w.setCell ⟨g, i, none⟩ u).ownsRow B t size v n xs :=
  own_keep h ((Keeps.refl (fun k => k = g) w).setCell (p := ⟨g, i, none⟩) (fun _ => rfl) u) fun k hk e => (own_tyd h k hk).ne hb.tyd hne e

theorem info_int : (Try.prog.info? 3).map (fun i => (i.zero, i.size, i.bytes)) = some (some (.int .i64 0), 1, 8) := by kernel_rfl
theorem info_int64 : (Try.prog.info? 2).map (fun i => (i.zero, i.size, i.bytes)) = some (some (.int .i64 0), 1, 8) := by kernel_rfl
/-- append of one number onto a row of the call's own -/
theorem push_int {w : World} {ops : Array Oper} {rest : List Oper} {o : Oper} {a : Act} {Q : Exit → Act → World → Prop} (hgd : o.guard = none) (s x : Operand)
    (ho : o.op = .call { callee := .builtin .append, args := #[s, x], argTypes := #[22, 22] })
    (B : Nat) (a0 : Option Addr) (c0 n : Nat) (L : List Int) (hn : L.length = n) (hs : a.eval s = .slice a0 n c0) (hown : RowI w B 3 (.slice a0 n c0) L)
    (g : Nat) (y : Int) (hx : a.eval x = .slice (some ⟨g, 0, none⟩) 1 1) (hc : w.cell? ⟨g, 0, none⟩ = some (.int .i64 y)) (hle : n ≤ 1000000) (hB : B ≤ w.heap.size)
    (h : ∀ g' cap w', RowI w' B 3 (.slice (some ⟨g', 0, none⟩) (n + 1) cap) (L ++ [y]) → w.grownBy w' (Value.slice a0 n c0).ownBlock → (a0 = some ⟨g', 0, none⟩ ∨ g' = w.heap.size) → wpList Try.prog ops Q rest (a.put o.dst (.slice (some ⟨g', 0, none⟩) (n + 1) cap)) w') : wpList Try.prog ops Q (o :: rest) a w := by
  subst hn
  obtain ⟨i0, hi, hz0, hz1, hz2⟩ := info_parts info_int
  refine wpList_append_own_at w hgd s x 22 ho B 3 i0 _ 1 8 Try.underlying22 hi hz0 hz1 hz2 rfl (by omega) (.slice a0 L.length c0) L.length (L.map (Value.int .i64)) hs hown ⟨g, 0, none⟩ 1 1 [.int .i64 y] hx rfl ?_ ?_ (by unfold maxLen; omega) (by omega) hB ?_
  · intro j u hj
    have hj0 : j = 0 := by have := lt_of_get hj; simp at this; exact this
    subst hj0
    simp at hj
    subst hj
    rw [add_at]; exact hc
  · intro u hu
    simp at hu
    subst hu
    rfl
  · intro v' w' h1 h2 h3 h4
    obtain ⟨g', cap, hv⟩ : ∃ g' cap, v' = .slice (some ⟨g', 0, none⟩) (L.length + 1) cap := by
      rcases h1.2 with ⟨_, h0⟩ | ⟨g', cap, _, hv, _⟩
      · omega
      · exact ⟨g', cap, hv⟩
    subst hv
    refine h g' cap w' ?_ h2 ?_
    · unfold RowI
      rw [List.length_append, List.map_append]
      exact h1
    · rcases h4 with h4 | h4
      · exact .inl (qa_of hown h4.symm)
      · have h6 : some g' = some w.heap.size := h4
        injection h6 with h6
        exact .inr h6
/-- append of one number onto a row of the call's own -/
theorem push_int64 {w : World} {ops : Array Oper} {rest : List Oper} {o : Oper} {a : Act} {Q : Exit → Act → World → Prop} (hgd : o.guard = none) (s x : Operand)
    (ho : o.op = .call { callee := .builtin .append, args := #[s, x], argTypes := #[23, 23] })
    (B : Nat) (a0 : Option Addr) (c0 n : Nat) (L : List Int) (hn : L.length = n) (hs : a.eval s = .slice a0 n c0) (hown : RowI w B 2 (.slice a0 n c0) L)
    (g : Nat) (y : Int) (hx : a.eval x = .slice (some ⟨g, 0, none⟩) 1 1) (hc : w.cell? ⟨g, 0, none⟩ = some (.int .i64 y)) (hle : n ≤ 1000000) (hB : B ≤ w.heap.size)
    (h : ∀ g' cap w', RowI w' B 2 (.slice (some ⟨g', 0, none⟩) (n + 1) cap) (L ++ [y]) → w.grownBy w' (Value.slice a0 n c0).ownBlock → (a0 = some ⟨g', 0, none⟩ ∨ g' = w.heap.size) → wpList Try.prog ops Q rest (a.put o.dst (.slice (some ⟨g', 0, none⟩) (n + 1) cap)) w') : wpList Try.prog ops Q (o :: rest) a w := by
  subst hn
  obtain ⟨i0, hi, hz0, hz1, hz2⟩ := info_parts info_int64
  refine wpList_append_own_at w hgd s x 23 ho B 2 i0 _ 1 8 Try.underlying23 hi hz0 hz1 hz2 rfl (by omega) (.slice a0 L.length c0) L.length (L.map (Value.int .i64)) hs hown ⟨g, 0, none⟩ 1 1 [.int .i64 y] hx rfl ?_ ?_ (by unfold maxLen; omega) (by omega) hB ?_
  · intro j u hj
    have hj0 : j = 0 := by have := lt_of_get hj; simp at this; exact this
    subst hj0
    simp at hj
    subst hj
    rw [add_at]; exact hc
  · intro u hu
    simp at hu
    subst hu
    rfl
  · intro v' w' h1 h2 h3 h4
    obtain ⟨g', cap, hv⟩ : ∃ g' cap, v' = .slice (some ⟨g', 0, none⟩) (L.length + 1) cap := by
      rcases h1.2 with ⟨_, h0⟩ | ⟨g', cap, _, hv, _⟩
      · omega
      · exact ⟨g', cap, hv⟩
    subst hv
    refine h g' cap w' ?_ h2 ?_
    · unfold RowI
      rw [List.length_append, List.map_append]
      exact h1
    · rcases h4 with h4 | h4
      · exact .inl (qa_of hown h4.symm)
      · have h6 : some g' = some w.heap.size := h4
        injection h6 with h6
        exact .inr h6

/-! ### a number brought into lo .. hi -/
end Go.Proofs.Ytmaijkoopjocdaa
