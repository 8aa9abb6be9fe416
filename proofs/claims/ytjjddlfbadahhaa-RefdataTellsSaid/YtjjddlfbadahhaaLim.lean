/- Products of any rising months and bands on ticks: what Check answers. No walk. -/
import Derived.Test.YtjjddlfbadahhaaName
namespace Go.Proofs.Ytjjddlfbadahhaa
open Go.RowKit

/-- months that rise, the last of them z -/
structure Rise (M : List Int) (z : Int) : Prop where
  ok : ∀ j, j < M.length → monthOk M j = true
  none_ : M.length = 0 → z = -1
  last : 0 < M.length → M.getD (M.length - 1) 0 = z
  lo : -1 ≤ z
  hi : z ≤ 191 * M.length - 1
theorem Rise.nil : Rise [] (-1) := ⟨fun j h => absurd h (Nat.not_lt_zero _), fun _ => rfl, fun h => absurd h (Nat.lt_irrefl _), by omega, by simp⟩
theorem getD_left {L : List Int} {x : Int} {j : Nat} (h : j < L.length) : (L ++ [x]).getD j 0 = L.getD j 0 := by
  rw [List.getD_eq_getElem?_getD, List.getD_eq_getElem?_getD, List.getElem?_append_left h]
theorem getD_end (L : List Int) (x : Int) : (L ++ [x]).getD L.length 0 = x := by
  rw [List.getD_eq_getElem?_getD, List.getElem?_append_right (Nat.le_refl _), Nat.sub_self]; rfl
theorem Rise.push {M : List Int} {z g : Int} (h : Rise M z) (hl : M.length < 6) (hg : 0 ≤ g ∧ g ≤ 190) : Rise (M ++ [z + 1 + g]) (z + 1 + g) := by
  have hz := h.lo
  have hz2 := h.hi
  refine ⟨fun j hj => ?_, fun h0 => by simp at h0, fun _ => by rw [List.length_append]; exact getD_end M _, by omega, by simp; omega⟩
  rw [List.length_append] at hj
  simp only [List.length_cons, List.length_nil] at hj
  by_cases hjl : j < M.length
  · have := h.ok j hjl
    unfold monthOk at this ⊢
    rw [getD_left hjl, getD_left (show j - 1 < M.length by omega)]
    exact this
  · obtain rfl : j = M.length := by omega
    unfold monthOk
    rw [getD_end, decide_eq_true (show 0 ≤ z + 1 + g by omega), decide_eq_true (show z + 1 + g ≤ 1199 by omega)]
    by_cases h0 : M.length = 0
    · rw [h0]; rfl
    · rw [getD_left (show M.length - 1 < M.length by omega), h.last (by omega), decide_eq_true (show z < z + 1 + g by omega)]
      simp
def limP (M S : List Int) (T lo hi wd : Int) (ma : Option Addr) (mc : Nat) (sa : Option Addr) (sc : Nat) : Prod := ⟨⟨#[67, 76]⟩, ma, M, mc, T, lo, hi, wd, 3, 4, 2, 40, sa, S, sc⟩
theorem Rise.months {M : List Int} {z : Int} (h : Rise M z) : monthsB M = (decide (2 ≤ M.length) && decide (M.length ≤ 6)) := monthsB_all h.ok
theorem lim_short {M S : List Int} {T lo hi wd : Int} (h : M.length < 2) (ma : Option Addr) (mc : Nat) (sa : Option Addr) (sc : Nat) : checkP (limP M S T lo hi wd ma mc sa sc) = 1 := by
  have h1 : prodB (limP M S T lo hi wd ma mc sa sc).code = true := cl_good
  have h2 : monthsB (limP M S T lo hi wd ma mc sa sc).months = false := by
    show monthsB M = false
    unfold monthsB
    rw [decide_eq_false (show ¬ 2 ≤ M.length by omega)]; simp
  unfold checkP
  rw [h1, h2, if_neg (by simp), if_pos rfl]
/-- the three products of the law: as it is, a tick too wide, a settled price a tick too high -/
theorem lim_check {M S : List Int} {z T lo hi wd : Int} (hR : Rise M z) (h2 : 2 ≤ M.length) (h6 : M.length ≤ 6) (hT : 1 ≤ T ∧ T ≤ 1000) (d1 : T ∣ lo) (d2 : T ∣ hi) (d3 : T ∣ wd) (hlo : -1000000 ≤ lo) (hlh : lo < hi) (hhi : hi ≤ 1000000) (hwd : 0 ≤ wd) (hS : S.length = M.length) (dS : ∀ x ∈ S, T ∣ x) (ma : Option Addr) (mc : Nat) (sa : Option Addr) (sc : Nat) :
    checkP (limP M S T lo hi wd ma mc sa sc) = if hi - lo < wd then 23 else if S.any (fun x => decide (x < lo)) = true ∨ S.any (fun x => decide (hi < x)) = true then 1 else 0 := by
  have h1 : prodB (limP M S T lo hi wd ma mc sa sc).code = true := cl_good
  have hm : monthsB (limP M S T lo hi wd ma mc sa sc).months = true := by
    show monthsB M = true
    rw [hR.months, decide_eq_true h2, decide_eq_true h6]; rfl
  have e : ∀ {x : Int}, T ∣ x → offB T x = false := by
    rintro x ⟨y, rfl⟩
    exact off_mul _ _
  have ht : ticksB (limP M S T lo hi wd ma mc sa sc) = true := by
    unfold ticksB
    show (decide (1 ≤ T) && decide (T ≤ 1000) && !offB T lo && !offB T hi && !offB T wd && !S.any (offB T)) = true
    rw [e d1, e d2, e d3, decide_eq_true hT.1, decide_eq_true hT.2, any_none fun j x hx => e (dS x (List.mem_of_getElem? hx))]
    rfl
  have h6' : ¬ kindBad (limP M S T lo hi wd ma mc sa sc) := by
    show ¬ ((3 : Int) < 1 ∨ (3 : Int) < 3)
    omega
  have h7' : ¬ qtyBad (limP M S T lo hi wd ma mc sa sc) := by
    show ¬ ((4 : Int) < 0 ∨ (1000000 : Int) < 4 ∨ (2 : Int) < 1 ∨ (1000 : Int) < 2 ∨ (40 : Int) < 0 ∨ (100 : Int) < 40)
    omega
  unfold checkP
  rw [h1, hm, ht, if_neg (by simp), if_neg (by simp), if_neg (by simp), if_neg h6', if_neg h7']
  by_cases hb : hi - lo < wd
  · rw [if_pos hb, if_pos (show bandBad (limP M S T lo hi wd ma mc sa sc) from by show lo < -1000000 ∨ hi ≤ lo ∨ 1000000 < hi ∨ wd < 0 ∨ hi - lo < wd; omega)]
  · rw [if_neg hb, if_neg (show ¬ bandBad (limP M S T lo hi wd ma mc sa sc) from by show ¬ (lo < -1000000 ∨ hi ≤ lo ∨ 1000000 < hi ∨ wd < 0 ∨ hi - lo < wd); omega)]
    have hsb : settleBad (limP M S T lo hi wd ma mc sa sc) = (S.any (fun x => decide (x < lo)) || S.any (fun x => decide (hi < x))) := by
      unfold settleBad
      show (S.length != M.length || S.any (fun x => decide (x < lo)) || S.any (fun x => decide (hi < x))) = _
      rw [show (S.length != M.length) = false from by rw [hS]; simp]
      rfl
    rw [hsb]
    simp only [Bool.or_eq_true]
end Go.Proofs.Ytjjddlfbadahhaa
