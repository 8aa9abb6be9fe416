/- More words for cornhilllaw8.LevelOrders: where an order is found, a take of the law's, an append whose source may be empty. No walk. -/
import Derived.Test.YtbpmoomklknkkaaOrd
import Derived.Deep.AppendLies
namespace Go.Proofs.Ytbpmoomklknkkaa
open Go.RowKit

theorem find_of {A : List (List Ent)} (ha : Apart A) {n j : Nat} {L : List Ent} {e : Ent} (hn : A[n]? = some L) (hj : L[j]? = some e) : findA A (e.slot : Int) = some (n, j, e) := by
  have h1 := (taken_iff A e.slot).2 ⟨n, j, L, e, hn, hj, rfl⟩
  rw [Option.isSome_iff_exists] at h1
  obtain ⟨⟨n', j', e'⟩, h2⟩ := h1
  obtain ⟨L', k1, k2, k3⟩ := findA_some h2
  obtain ⟨rfl, rfl⟩ := ha n j n' j' L L' e e' hn hj k1 k2 (by omega)
  rw [hn] at k1
  injection k1 with k1
  subst k1
  rw [hj] at k2
  injection k2 with k2
  rw [h2, k2]
theorem take_less_three {Q : Nat → List Ent} (ha : Apart (three Q)) {q m : Nat} (hq : q < 3) {L : List Ent} (hL : Q q = L) {e : Ent} (hm : L[m]? = some e) (by_ : Int) (h1 : 1 ≤ by_) (h2 : by_ < e.qty) :
    takeA (three Q) (e.slot : Int) by_ = (three (upd Q q (L.set m { e with qty := e.qty - by_ })), 0) := by
  have hg := three_get Q hq
  unfold takeA
  rw [find_of ha hg (by rw [hL]; exact hm)]
  show (if by_ < 1 ∨ e.qty < by_ then (three Q, (24 : Int)) else if e.qty = by_ then (_, 0) else (_, 0)) = _
  rw [if_neg (by omega), if_neg (by omega), getD_of hg, hL, three_set Q hq]
theorem take_all_three {Q : Nat → List Ent} (ha : Apart (three Q)) {q m : Nat} (hq : q < 3) {L : List Ent} (hL : Q q = L) {e : Ent} (hm : L[m]? = some e) (h1 : 1 ≤ e.qty) :
    takeA (three Q) (e.slot : Int) e.qty = (three (upd Q q (L.eraseIdx m)), 0) := by
  have hg := three_get Q hq
  unfold takeA
  rw [find_of ha hg (by rw [hL]; exact hm)]
  show (if e.qty < 1 ∨ e.qty < e.qty then (three Q, (24 : Int)) else if e.qty = e.qty then (_, 0) else (_, 0)) = _
  rw [if_neg (by omega), if_pos rfl, getD_of hg, hL, three_set Q hq]
theorem erase_app {α : Type} (L : List α) (m : Nat) (x : α) : ((L.set m x).take m) ++ ((L.set m x).drop (m + 1)) = L.eraseIdx m := by
  rw [List.eraseIdx_eq_take_drop_succ]
  congr 1
  · rw [List.take_set_of_le (Nat.le_refl _)]
  · rw [List.drop_set_of_lt (by omega)]

theorem or_no {a b : Prop} [Decidable a] [Decidable b] (h : false = (decide a || decide b)) : ¬ a ∧ ¬ b := by
  have h1 := h.symm
  rw [Bool.or_eq_false_iff] at h1
  exact ⟨of_decide_eq_false h1.1, of_decide_eq_false h1.2⟩
/-- append onto a row of the call's own that is not nil: the source lies somewhere, it may be empty -/
theorem step_append_ents {w : World} {ops : Array Oper} {o : Oper} {a : Act} {K : Act → World → Prop} {Q : Exit → Act → World → Prop} {E : Prop} (hgd : o.guard = none) (s x : Operand)
    (ho : o.op = .call { callee := .builtin .append, args := #[s, x], argTypes := #[42, 42] })
    (B g0 c0 n m : Nat) (L : List Ent) (hn : L.length = n) (hs : a.eval s = .slice (some ⟨g0, 0, none⟩) n c0) (hown : RowV w B (.slice (some ⟨g0, 0, none⟩) n c0) L)
    (b off c : Nat) (M : List Ent) (hm : M.length = m) (hx : a.eval x = .slice (some ⟨b, off, none⟩) m c) (hr : Rd w (some ⟨b, off, none⟩) M)
    (nm : Nat) (hnm : n + m = nm) (hle : n + m ≤ 1000000) (hbase : B ≤ w.heap.size)
    (h : ∀ g cap w', RowV w' B (.slice (some ⟨g, 0, none⟩) nm cap) (L ++ M) → w.grownBy w' (some g0) → (g = g0 ∨ g = w.heap.size) → K (a.put o.dst (.slice (some ⟨g, 0, none⟩) nm cap)) w') :
    if Region.wanted o (yielded ops a.tmps) = true then Oper.wp Try.prog o a w K Q else E := by
  subst hn
  subst hm
  subst hnm
  have hw : Region.wanted o (yielded ops a.tmps) = true := by simp [Region.wanted, hgd]
  rw [if_pos hw]
  obtain ⟨i0, hi, hz0, hz1, hz2⟩ := info_parts info_ent
  have hcells : ∀ j u, (M.flatMap Ent.cells)[j]? = some u → w.cell? ((⟨b, off, none⟩ : Addr).add j) = some u := hr.cells
  obtain ⟨v', w', hrun, h2, h3, h4, h5⟩ := run_append_own_at (P := Try.prog) w B 42 o.type 33 i0 _ 4 32 Try.underlying42 hi hz0 hz1 hz2 rfl (by omega) _ L.length _ hown ⟨b, off, none⟩ M.length c (M.flatMap Ent.cells) (by rw [fm_length Ent.cells 4 Ent.len]) hcells (Ent.one M) (by unfold maxLen; omega) (by omega) hbase
  have hform : ∃ g cap, v' = .slice (some ⟨g, 0, none⟩) (L.length + M.length) cap := by
    rcases h2.2 with ⟨hv, _⟩ | ⟨g, cap, cur, hv, _⟩
    · have := (h4.1 hv).1
      injection this with this
      cases this
    · exact ⟨g, cap, hv⟩
  obtain ⟨g, cap, rfl⟩ := hform
  unfold Oper.wp execOp
  simp only [ho, resolve, invoke, builtin, Sem.run_bind, Sem.run_pure, Result.andThen_ok, List.map_toArray, List.map_cons, List.map_nil, hs, hx, hrun]
  refine h g cap w' ?_ h3 ?_
  · unfold RowV
    rw [List.flatMap_append, List.length_append]
    exact h2
  · rcases h5 with h5 | h5
    · have h6 : some g = some g0 := h5
      injection h6 with h6
      exact .inl h6
    · have h6 : some g = some w.heap.size := h5
      injection h6 with h6
      exact .inr h6
/-- the same as an equation: where it lies is named ahead of the walk -/
theorem run_append_ents {w : World} (B g0 c0 n m : Nat) (L : List Ent) (hn : L.length = n) (hown : RowV w B (.slice (some ⟨g0, 0, none⟩) n c0) L)
    (b off c : Nat) (M : List Ent) (hm : M.length = m) (hr : Rd w (some ⟨b, off, none⟩) M) (nm : Nat) (hnm : n + m = nm) (hle : n + m ≤ 1000000) (hbase : B ≤ w.heap.size) :
    ∃ g cap w', (Builtin.append_ #[42, 42] 42 #[.slice (some ⟨g0, 0, none⟩) n c0, .slice (some ⟨b, off, none⟩) m c]).run Try.prog w = .ok (.slice (some ⟨g, 0, none⟩) nm cap) w' ∧ RowV w' B (.slice (some ⟨g, 0, none⟩) nm cap) (L ++ M) ∧ w.grownBy w' (some g0) ∧ (g = g0 ∨ g = w.heap.size) := by
  subst hn
  subst hm
  subst hnm
  obtain ⟨i0, hi, hz0, hz1, hz2⟩ := info_parts info_ent
  have hcells : ∀ j u, (M.flatMap Ent.cells)[j]? = some u → w.cell? ((⟨b, off, none⟩ : Addr).add j) = some u := hr.cells
  obtain ⟨v', w', hrun, h2, h3, h4, h5⟩ := run_append_own_at (P := Try.prog) w B 42 42 33 i0 _ 4 32 Try.underlying42 hi hz0 hz1 hz2 rfl (by omega) _ L.length _ hown ⟨b, off, none⟩ M.length c (M.flatMap Ent.cells) (by rw [fm_length Ent.cells 4 Ent.len]) hcells (Ent.one M) (by unfold maxLen; omega) (by omega) hbase
  have hform : ∃ g cap, v' = .slice (some ⟨g, 0, none⟩) (L.length + M.length) cap := by
    rcases h2.2 with ⟨hv, _⟩ | ⟨g, cap, cur, hv, _⟩
    · have := (h4.1 hv).1
      injection this with this
      cases this
    · exact ⟨g, cap, hv⟩
  obtain ⟨g, cap, rfl⟩ := hform
  refine ⟨g, cap, w', hrun, ?_, h3, ?_⟩
  · unfold RowV
    rw [List.flatMap_append, List.length_append]
    exact h2
  · rcases h5 with h5 | h5
    · have h6 : some g = some g0 := h5
      injection h6 with h6
      exact .inl h6
    · have h6 : some g = some w.heap.size := h5
      injection h6 with h6
      exact .inr h6
theorem Rd.take {w : World} {b off : Nat} {L : List Ent} (h : Rd w (some ⟨b, off, none⟩) L) (m : Nat) : Rd w (some ⟨b, off, none⟩) (L.take m) := by
  intro j e hj
  rw [List.getElem?_take] at hj
  split at hj
  · exact h j e hj
  · cases hj
theorem Rd.drop {w : World} {b off : Nat} {L : List Ent} (h : Rd w (some ⟨b, off, none⟩) L) (m : Nat) : Rd w (some ⟨b, off + m * 4, none⟩) (L.drop m) := by
  intro j e hj
  rw [List.getElem?_drop] at hj
  obtain ⟨b', off', h1, h2, h3⟩ := h (m + j) e hj
  have e1 : b = b' ∧ off = off' := by injection h1 with h1; injection h1 with x y; exact ⟨x, y⟩
  obtain ⟨rfl, rfl⟩ := e1
  refine ⟨b, off + m * 4, rfl, h2, ?_⟩
  rw [show off + m * 4 + j * 4 = off + (m + j) * 4 by omega]
  exact h3
theorem upd_upd {α : Type} (f : Nat → α) (k : Nat) (x y : α) : upd (upd f k x) k y = upd f k y := by
  funext i
  unfold upd
  by_cases h : i = k
  · simp [h]
  · simp [h]
/-- a row is a new one -/
theorem Ors.row_fresh {W w w3 : World} {pb sb qb ab room : Nat} {A : List (List Ent)} {Q : Nat → List Ent} {V : Nat → Option Addr × Nat} {q : Nat} {Lz L : List Ent} (h : Ors W w pb sb qb ab room A (upd Q q Lz) V) (n : RmN W pb sb qb ab) (hq : q < 3) {g n3 cap : Nat}
    (hb : Below w.heap.size w w3) (hv : RowV w3 W.heap.size (.slice (some ⟨g, 0, none⟩) n3 cap) L) (hn : L.length = n3) (hg : w.heap.size ≤ g) :
    Ors W (w3.setCell ⟨ab, q, none⟩ (.slice (some ⟨g, 0, none⟩) n3 cap)) pb sb qb ab room A (upd Q q L) (upd V q (some ⟨g, 0, none⟩, cap)) := by
  subst hn
  have hgr : w.grownBy w3 none := ⟨hb.os, hb.tape, hb.output, hb.size, fun k hk _ => hb.block k hk⟩
  have := h.row_new n hq hgr (.inl rfl) hv (.inr (.inr ⟨g, rfl, hg⟩))
  rw [upd_upd] at this
  exact this
theorem RowV.rd0 {w : World} {B g c : Nat} {L : List Ent} (h : RowV w B (.slice (some ⟨g, 0, none⟩) L.length c) L) : Rd w (some ⟨g, 0, none⟩) L := by
  obtain ⟨a, c', hv, _, hr⟩ := h.rd
  injection hv with h1
  rw [h1]; exact hr
end Go.Proofs.Ytbpmoomklknkkaa
