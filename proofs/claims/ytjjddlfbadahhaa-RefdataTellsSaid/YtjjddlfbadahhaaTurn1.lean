/- Rows of numbers of the call's own: copied, stored into, cut. No walk. -/
import Derived.Test.YtjjddlfbadahhaaLim2
import Derived.Test.YtjjddlfbadahhaaLast
namespace Go.Proofs.Ytjjddlfbadahhaa
open Go.RowKit

theorem append_rowI {w : World} {ops : Array Oper} {rest : List Oper} {o : Oper} {a : Act} {Q : Exit → Act → World → Prop} (hgd : o.guard = none) (s x : Operand)
    (ho : o.op = .call { callee := .builtin .append, args := #[s, x], argTypes := #[22, 22] })
    (B g0 : Nat) (hs : a.eval s = .slice (some ⟨g0, 0, none⟩) 0 0) (hown : RowI w B 3 (.slice (some ⟨g0, 0, none⟩) 0 0) [])
    (sa : Option Addr) (c : Nat) (M : List Int) (hx : a.eval x = .slice sa M.length c) (hI : Ints w sa M) (h0 : 0 < M.length) (hle : M.length ≤ 1000000) (hB : B ≤ w.heap.size)
    (h : ∀ g' cap w', RowI w' B 3 (.slice (some ⟨g', 0, none⟩) M.length cap) M → w.grownBy w' (some g0) → wpList Try.prog ops Q rest (a.put o.dst (.slice (some ⟨g', 0, none⟩) M.length cap)) w') : wpList Try.prog ops Q (o :: rest) a w := by
  obtain ⟨i0, hi, hz0, hz1, hz2⟩ := info_parts info_int
  obtain ⟨x0, hx0⟩ : ∃ x, M[0]? = some x := ⟨_, List.getElem?_eq_getElem h0⟩
  obtain ⟨_, b, off, rfl, _, _⟩ := hI 0 x0 hx0
  refine wpList_append_own_at w hgd s x 22 ho B 3 i0 _ 1 8 Try.underlying22 hi hz0 hz1 hz2 rfl (by omega) (.slice (some ⟨g0, 0, none⟩) 0 0) 0 [] hs hown ⟨b, off, none⟩ M.length c (M.map (Value.int .i64)) hx (by simp) ?_ ?_ (by unfold maxLen; omega) (by omega) hB ?_
  · intro j u hj
    rw [List.getElem?_map, Option.map_eq_some_iff] at hj
    obtain ⟨y, hy, rfl⟩ := hj
    obtain ⟨_, b2, off2, he, _, hc⟩ := hI j y hy
    injection he with he
    injection he with h1 h2
    subst h1
    subst h2
    rw [add_at]; exact hc
  · intro u hu
    rw [List.mem_map] at hu
    obtain ⟨y, _, rfl⟩ := hu
    rfl
  · intro v' w' h1 h2 h3 h4
    rw [Nat.zero_add, List.nil_append] at h1
    obtain ⟨g', cap, hv⟩ : ∃ g' cap, v' = .slice (some ⟨g', 0, none⟩) M.length cap := by
      rcases h1.2 with ⟨_, h0'⟩ | ⟨g', cap, _, hv, _⟩
      · omega
      · exact ⟨g', cap, hv⟩
    subst hv
    exact h g' cap w' h1 h2
/-- append of one number, as a step of a region that draws its order -/
theorem step_push_int {w : World} {ops : Array Oper} {o : Oper} {a : Act} {K : Act → World → Prop} {Q : Exit → Act → World → Prop} {E : Prop} (hgd : o.guard = none) (s x : Operand)
    (ho : o.op = .call { callee := .builtin .append, args := #[s, x], argTypes := #[22, 22] })
    (B : Nat) (a0 : Option Addr) (c0 n : Nat) (L : List Int) (hn : L.length = n) (hs : a.eval s = .slice a0 n c0) (hown : RowI w B 3 (.slice a0 n c0) L)
    (g : Nat) (y : Int) (hx : a.eval x = .slice (some ⟨g, 0, none⟩) 1 1) (hc : w.cell? ⟨g, 0, none⟩ = some (.int .i64 y)) (hle : n ≤ 1000000) (hB : B ≤ w.heap.size)
    (h : ∀ g' cap w', RowI w' B 3 (.slice (some ⟨g', 0, none⟩) (n + 1) cap) (L ++ [y]) → w.grownBy w' (Value.slice a0 n c0).ownBlock → K (a.put o.dst (.slice (some ⟨g', 0, none⟩) (n + 1) cap)) w') :
    if Region.wanted o (yielded ops a.tmps) = true then Oper.wp Try.prog o a w K Q else E := by
  subst hn
  have hw : Region.wanted o (yielded ops a.tmps) = true := by simp [Region.wanted, hgd]
  rw [if_pos hw]
  obtain ⟨i0, hi, hz0, hz1, hz2⟩ := info_parts info_int
  obtain ⟨v', w', hrun, h2, h3, h4, h5⟩ := run_append_own_at (P := Try.prog) w B 22 o.type 3 i0 _ 1 8 Try.underlying22 hi hz0 hz1 hz2 rfl (by omega) _ L.length _ hown ⟨g, 0, none⟩ 1 1 [.int .i64 y] rfl (by
    intro j u hj
    have hj0 : j = 0 := by have := lt_of_get hj; simp at this; exact this
    subst hj0
    simp at hj
    subst hj
    rw [add_at]; exact hc) (by
    intro u hu
    simp at hu
    subst hu
    rfl) (by unfold maxLen; omega) (by omega) hB
  obtain ⟨g', cap, rfl⟩ : ∃ g' cap, v' = .slice (some ⟨g', 0, none⟩) (L.length + 1) cap := by
    rcases h2.2 with ⟨_, h0⟩ | ⟨g', cap, _, hv, _⟩
    · omega
    · exact ⟨g', cap, hv⟩
  unfold Oper.wp execOp
  simp only [ho, resolve, invoke, builtin, Sem.run_bind, Sem.run_pure, Result.andThen_ok, List.map_toArray, List.map_cons, List.map_nil, hs, hx, hrun]
  refine h g' cap w' ?_ h3
  unfold RowI
  rw [List.length_append, List.map_append]
  exact h2
/-- a row's cell stored -/
theorem RowI.setAt {w : World} {B g c : Nat} {t : TypeId} {L : List Int} (h : RowI w B t (.slice (some ⟨g, 0, none⟩) L.length c) L) (i : Nat) (h0 : i < L.length) (hok : ∀ x ∈ L, i64ok x) (y : Int) (hy : i64ok y) :
    (∃ v, w.cell? ⟨g, i, none⟩ = some v) ∧ w.frozen? ⟨g, i, none⟩ = false ∧ B ≤ g ∧ g < w.heap.size ∧ Ints (w.setCell ⟨g, i, none⟩ (.int .i64 y)) (some ⟨g, 0, none⟩) (L.set i y) := by
  have hI := h.ints hok
  have hlt := own_lt h g rfl
  have hb := own_base h g rfl
  obtain ⟨cs, hcs⟩ := own_tyd h g rfl
  have hblk : Blk w g t cs := hcs
  obtain ⟨x0, hx0⟩ : ∃ x, L[i]? = some x := ⟨_, List.getElem?_eq_getElem h0⟩
  have hcell : ∀ (j : Nat) (x : Int), L[j]? = some x → w.cell? ⟨g, j, none⟩ = some (.int .i64 x) := by
    intro j x hj
    obtain ⟨_, b, off, he, _, hc⟩ := hI j x hj
    injection he with he
    injection he with h1 h2
    subst h1
    subst h2
    rw [Nat.zero_add] at hc
    exact hc
  refine ⟨⟨_, hcell i x0 hx0⟩, hblk.frozen i, hb, hlt, fun j x hj => ?_⟩
  have hset := hblk.set_ i (.int .i64 y)
  by_cases hji : j = i
  · subst hji
    rw [List.getElem?_set_self h0] at hj
    injection hj with hxy
    subst hxy
    refine ⟨hy, g, 0, rfl, hset.lt, ?_⟩
    rw [hset.cell, Nat.zero_add]
    have hc0 := hcell j x0 hx0
    rw [hblk.cell] at hc0
    have hsz : j < cs.size := (Array.getElem?_eq_some_iff.1 hc0).1
    simp [hsz]
  · rw [List.getElem?_set_ne (fun e => hji e.symm)] at hj
    refine ⟨hok x (List.mem_of_getElem? hj), g, 0, rfl, hset.lt, ?_⟩
    rw [Nat.zero_add, hset.cell]
    have hc0 := hcell j x hj
    rw [hblk.cell] at hc0
    rw [Array.getElem?_setIfInBounds_ne (fun e => hji e.symm)]
    exact hc0
theorem Ints.tail_ {w : World} {g : Nat} {L : List Int} (h : Ints w (some ⟨g, 0, none⟩) L) : Ints w (some ⟨g, 1, none⟩) L.tail := by
  intro j x hj
  rw [List.getElem?_tail] at hj
  obtain ⟨h0, b, off, he, hl, hc⟩ := h (j + 1) x hj
  injection he with he
  injection he with h1 h2
  subst h1
  subst h2
  exact ⟨h0, g, 1, rfl, hl, by rw [show 1 + j = 0 + (j + 1) by omega]; exact hc⟩
theorem own_cap {w : World} {B g n c : Nat} {t : TypeId} {size : Nat} {xs : List Value} (h : w.ownsRow B t size (.slice (some ⟨g, 0, none⟩) n c) n xs) : n ≤ c := by
  rcases h.2 with ⟨h, _⟩ | ⟨g', cap, cur, hv, _, _, h1, _⟩
  · cases h
  · injection hv with _ _ h2
    omega
end Go.Proofs.Ytjjddlfbadahhaa
