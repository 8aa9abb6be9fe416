/- Plain: a quote's two legs, and itself, are a spread and its months. -/
import Derived.Test.YtilficlanliinaaIBest
namespace Go.Proofs.Ytilficlanliinaa
open Go.RowKit

theorem mkQ_some {L : List Tp} {ai sa bi sb : Int} {less : Bool} {q : Qt} (h : mkQ L ai sa bi sb less = some q) :
    ∃ x y, L[ai.toNat]? = some x ∧ L[bi.toNat]? = some y ∧ x.has sa = true ∧ y.has sb = true ∧ q = ⟨if less = true then y.price sb - x.price sa else x.price sa + y.price sb, min (x.qty sa) (y.qty sb), ai, sa, bi, sb⟩ := by
  unfold mkQ at h
  split at h
  · rename_i x y hx hy
    split at h
    · rename_i hh
      refine ⟨x, y, hx, hy, hh.1, hh.2, ?_⟩
      cases less with
      | true =>
        simp only [if_true] at h ⊢
        unfold subP at h
        split at h
        · simpa using h.symm
        · simp at h
      | false =>
        simp only [Bool.false_eq_true, if_false] at h ⊢
        unfold addP at h
        split at h
        · simpa using h.symm
        · simp at h
    · cases h
  · cases h
/-- a leg that is there -/
def LegIn (S : List Tp) (qty i s : Int) : Prop := ∃ (a : Nat) (x : Tp), i = (a : Int) ∧ S[a]? = some x ∧ (s = 1 ∨ s = 2) ∧ x.has s = true ∧ qty ≤ x.qty s
def prAt (S : List Tp) (i s : Int) : Int := match S[i.toNat]? with | some x => x.price s | none => 0
theorem prAt_eq {S : List Tp} {a : Nat} {x : Tp} {s : Int} (h : S[a]? = some x) : prAt S (a : Int) s = x.price s := by
  unfold prAt; rw [Int.toNat_natCast, h]
/-- a spread and its months -/
def Hit (p : Prod) (a0 a1 a2 x0 x1 x2 : Int) : Prop :=
  (legsP p a1 = (a0, a2, true) ∧ x0 - x2 = x1) ∨ (legsP p a1 = (a2, a0, true) ∧ x2 - x0 = x1) ∨ (legsP p a0 = (a1, a2, true) ∧ x1 - x2 = x0)
structure QR (p : Prod) (S : List Tp) (k : Int) (q : Qt) : Prop where
  l0 : LegIn S q.qty q.i0 q.s0
  l1 : LegIn S q.qty q.i1 q.s1
  hit : Hit p k q.i0 q.i1 q.price (prAt S q.i0 q.s0) (prAt S q.i1 q.s1)
theorem spread_legs {p : Prod} (hz : checkP p = 0) {i j : Nat} (hij : i < j) (hj : j < p.months.length) : ∃ a : Nat, spreadP p (i : Int) (j : Int) = ((a : Int), true) ∧ legsP p (a : Int) = ((i : Int), (j : Int), true) := by
  have hl := check_len hz
  have hat := legs_at (p := p) (k := offN p.months.length i + (j - (i + 1))) rfl hz (i := i) (j := j) (by omega) hj rfl
  refine ⟨p.months.length + (offN p.months.length i + (j - (i + 1))), ?_, ?_⟩
  · unfold spreadP
    rw [if_pos ⟨hz, by unfold spreadOk; omega⟩, Int.toNat_natCast]
    congr 1
    omega
  · rw [← hat]; congr 1
theorem qr_all {p : Prod} {S : List Tp} {inst side : Int} (hs : side = 1 ∨ side = 2) {q : Qt} (h : q ∈ allP p S inst side) : QR p S inst q := by
  unfold allP at h
  split at h
  · cases h
  rename_i hb
  unfold badAll at hb
  have hz : checkP p = 0 := count_ne (by omega)
  have hl := check_len hz
  split at h
  · rename_i hsp
    obtain ⟨_, i, j, hlg, hij, hj, _, _⟩ := legs_some hsp
    rw [hlg] at h
    simp only [Option.mem_toList, Option.map_eq_some_iff] at h
    obtain ⟨q', h1, rfl⟩ := h
    obtain ⟨x, y, hx, hy, hhx, hhy, rfl⟩ := mkQ_some h1
    rw [Int.toNat_natCast] at hx hy
    simp only [if_true, swapQ]
    refine ⟨⟨i, y, rfl, hy, hs, hhy, ?_⟩, ⟨j, x, rfl, hx, ?_, hhx, ?_⟩, ?_⟩
    · exact Int.min_le_right _ _
    · show 3 - side = 1 ∨ 3 - side = 2; omega
    · exact Int.min_le_left _ _
    · refine .inr (.inr ⟨hlg, ?_⟩)
      show prAt S i side - prAt S j (3 - side) = _
      rw [prAt_eq hx, prAt_eq hy]
  · rename_i hsp
    have hsp' : (legsP p inst).2.2 = false := by simpa using hsp
    obtain ⟨i, hlg, hi⟩ := legs_none (by omega) (by omega) hsp'
    obtain rfl : inst = (i : Int) := by
      unfold legsP at hlg
      split at hlg
      · omega
      · split at hlg
        · injection hlg
        · injection hlg with _ h2; injection h2 with _ h3; cases h3
    rw [Int.toNat_natCast, List.mem_append] at h
    rcases h with h | h
    · obtain ⟨m, hm, h⟩ := ups_mem _ h
      obtain ⟨a, hsa, hla⟩ := spread_legs hz (show i < i + 1 + m by omega) (by omega)
      rw [hsa] at h
      obtain ⟨x, y, hx, hy, hhx, hhy, rfl⟩ := mkQ_some h
      rw [Int.toNat_natCast] at hx hy
      refine ⟨⟨a, x, rfl, hx, hs, hhx, Int.min_le_left _ _⟩, ⟨i + 1 + m, y, rfl, hy, hs, hhy, Int.min_le_right _ _⟩, .inl ⟨hla, ?_⟩⟩
      show x.price side + y.price side - prAt S ((i + 1 + m : Nat) : Int) side = prAt S (a : Int) side
      rw [prAt_eq hx, prAt_eq hy]; omega
    · obtain ⟨m, hm, h⟩ := downs_mem _ h
      obtain ⟨a, hsa, hla⟩ := spread_legs hz (show m < i by omega) (by omega)
      rw [hsa] at h
      obtain ⟨x, y, hx, hy, hhx, hhy, rfl⟩ := mkQ_some h
      rw [Int.toNat_natCast] at hx hy
      refine ⟨⟨a, x, rfl, hx, by show 3 - side = 1 ∨ 3 - side = 2; omega, hhx, Int.min_le_left _ _⟩, ⟨m, y, rfl, hy, hs, hhy, Int.min_le_right _ _⟩, .inr (.inl ⟨hla, ?_⟩)⟩
      show prAt S (m : Int) side - (y.price side - x.price (3 - side)) = prAt S (a : Int) (3 - side)
      rw [prAt_eq hx, prAt_eq hy]; omega
/-- a top's prices are small -/
theorem tops_price {p : Prod} (hz : checkP p = 0) {L : List Tp} {x : Tp} (h : x ∈ topsP p L) (s : Int) : -29000 ≤ x.price s ∧ x.price s ≤ 29000 := by
  have ht := check_tick hz
  have hm : ∀ y : Int, -29000 ≤ p.tick * y.tmod 30 ∧ p.tick * y.tmod 30 ≤ 29000 := by
    intro y
    have h3 := Int.tmod_lt_of_pos y (show (0 : Int) < 30 by omega)
    have h4 := Int.lt_tmod_of_pos y (show (0 : Int) < 30 by omega)
    have := mul_bd (i := y.tmod 30) (a := -29) (b := 29) ht.1 (by omega) (by omega)
    omega
  rcases tops_mem h with rfl | ⟨y, _, rfl⟩
  · unfold Tp.price; split <;> decide
  · unfold Tp.price; split
    · exact hm y.p0
    · exact hm y.p1
theorem qr_price {p : Prod} {S : List Tp} {k : Int} {q : Qt} (h : q ∈ quotesP p S k 1 ∨ q ∈ quotesP p S k 2) : priceP p k q.price = 0 := by
  rcases h with h | h <;> (unfold quotesP at h; have := (List.mem_filter.1 h).2; simpa using this)
theorem qr_quotes {p : Prod} {S : List Tp} {inst side : Int} (hs : side = 1 ∨ side = 2) {q : Qt} (h : q ∈ quotesP p S inst side) : QR p S inst q := qr_all hs (List.mem_filter.1 h).1
end Go.Proofs.Ytilficlanliinaa
