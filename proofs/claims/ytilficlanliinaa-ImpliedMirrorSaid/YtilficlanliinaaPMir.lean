/- Plain: tops whose sides are swapped and prices turned about 0 have the same quotes, swapped and turned. -/
import Derived.Test.YtilficlanliinaaPFew
namespace Go.Proofs.Ytilficlanliinaa
open Go.RowKit

def mirT (x : Tp) : Tp := ⟨x.h1, x.h0, -x.p1, -x.p0, x.q1, x.q0⟩
def mirQ (q : Qt) : Qt := ⟨-q.price, q.qty, q.i0, 3 - q.s0, q.i1, 3 - q.s1⟩
theorem addP_small {a b : Int} (ha : -2000000 ≤ a ∧ a ≤ 2000000) (hb : -2000000 ≤ b ∧ b ≤ 2000000) : addP a b = (a + b, true) := by
  unfold addP; rw [if_pos (by unfold i64ok; omega)]
theorem subP_small {a b : Int} (ha : -2000000 ≤ a ∧ a ≤ 2000000) (hb : -2000000 ≤ b ∧ b ≤ 2000000) : subP a b = (a - b, true) := by
  unfold subP; rw [if_pos (by unfold i64ok; omega)]
/-- tops of small prices -/
def Small (S : List Tp) : Prop := ∀ x ∈ S, ∀ s : Int, -1000000 ≤ x.price s ∧ x.price s ≤ 1000000
theorem mkQ_small {L : List Tp} (hL : Small L) {ai bi : Nat} {sa sb : Int} {less : Bool} {x y : Tp} (hx : L[ai]? = some x) (hy : L[bi]? = some y) : mkQ L ai sa bi sb less =
    if x.has sa = true ∧ y.has sb = true then some ⟨if less = true then y.price sb - x.price sa else x.price sa + y.price sb, min (x.qty sa) (y.qty sb), ai, sa, bi, sb⟩ else none := by
  have h1 := hL x (List.mem_of_getElem? hx) sa
  have h2 := hL y (List.mem_of_getElem? hy) sb
  rw [mkQ_eq hx hy]
  cases less with
  | true => simp only [if_true]; rw [subP_small (by omega) (by omega)]; simp
  | false => simp only [Bool.false_eq_true, if_false]; rw [addP_small (by omega) (by omega)]; simp
theorem mirT_has {s : Int} (hs : s = 1 ∨ s = 2) (x : Tp) : (mirT x).has (3 - s) = x.has s := by
  rcases hs with rfl | rfl <;> rfl
theorem mirT_price {s : Int} (hs : s = 1 ∨ s = 2) (x : Tp) : (mirT x).price (3 - s) = -(x.price s) := by
  rcases hs with rfl | rfl <;> rfl
theorem mirT_qty {s : Int} (hs : s = 1 ∨ s = 2) (x : Tp) : (mirT x).qty (3 - s) = x.qty s := by
  rcases hs with rfl | rfl <;> rfl
theorem mir_small {S : List Tp} (h : Small S) : Small (S.map mirT) := by
  intro x hx s
  rw [List.mem_map] at hx
  obtain ⟨y, hy, rfl⟩ := hx
  have h1 := h y hy 1
  have h2 := h y hy 2
  simp only [Tp.price, if_true, show ¬ (2 : Int) = 1 by decide, if_false] at h1 h2
  unfold mirT Tp.price
  split <;> (dsimp only; omega)
theorem mir_ok {S : List Tp} (h : ∀ x ∈ S, x.ok) (hs : Small S) : ∀ x ∈ S.map mirT, x.ok := by
  intro x hx
  rw [List.mem_map] at hx
  obtain ⟨y, hy, rfl⟩ := hx
  have h1 := hs y hy 1
  have h2 := hs y hy 2
  simp only [Tp.price, if_true, show ¬ (2 : Int) = 1 by decide, if_false] at h1 h2
  exact ⟨by show i64ok (-y.p1); unfold i64ok; omega, by show i64ok (-y.p0); unfold i64ok; omega, (h y hy).q1, (h y hy).q0⟩
theorem mkQ_mir {S : List Tp} (hS : Small S) {ai bi : Nat} {sa sb : Int} (less : Bool) (hsa : sa = 1 ∨ sa = 2) (hsb : sb = 1 ∨ sb = 2) :
    mkQ (S.map mirT) ai (3 - sa) bi (3 - sb) less = (mkQ S ai sa bi sb less).map mirQ := by
  cases hx : S[ai]? with
  | none => rw [mkQ_none1 (by rw [Int.toNat_natCast, List.getElem?_map, hx]; rfl), mkQ_none1 (by rw [Int.toNat_natCast]; exact hx)]; rfl
  | some x =>
  cases hy : S[bi]? with
  | none => rw [mkQ_none2 (by rw [Int.toNat_natCast, List.getElem?_map, hy]; rfl), mkQ_none2 (by rw [Int.toNat_natCast]; exact hy)]; rfl
  | some y =>
  rw [mkQ_small (mir_small hS) (x := mirT x) (y := mirT y) (by rw [List.getElem?_map, hx]; rfl) (by rw [List.getElem?_map, hy]; rfl), mkQ_small hS hx hy, mirT_has hsa, mirT_has hsb, mirT_price hsa, mirT_price hsb, mirT_qty hsa, mirT_qty hsb]
  by_cases hc : x.has sa = true ∧ y.has sb = true
  · rw [if_pos hc, if_pos hc]
    simp only [Option.map_some, mirQ]
    congr 2
    cases less <;> simp <;> omega
  · rw [if_neg hc, if_neg hc]; rfl
/-- a list's inst, of one kind or the other -/
theorem inst_nat {p : Prod} {S : List Tp} {inst side : Int} (hb : ¬ badAll p S inst side) (hsp : ¬ (legsP p inst).2.2 = true) : ∃ i : Nat, inst = (i : Int) ∧ i < p.months.length := by
  unfold badAll at hb
  have hsp' : (legsP p inst).2.2 = false := by simpa using hsp
  obtain ⟨i, hlg, hi⟩ := legs_none (by omega) (by omega) hsp'
  refine ⟨i, ?_, hi⟩
  unfold legsP at hlg
  split at hlg
  · omega
  · split at hlg
    · injection hlg
    · injection hlg with _ h2; injection h2 with _ h3; cases h3
theorem ups_mir {p : Prod} (hz : checkP p = 0) {S : List Tp} (hS : Small S) {i : Nat} {side : Int} (hs : side = 1 ∨ side = 2) : ∀ k, i + k < p.months.length → ups p (S.map mirT) i (3 - side) k = (ups p S i side k).map mirQ := by
  intro k
  induction k with
  | zero => intro _; simp [ups]
  | succ k ih =>
    intro hk
    obtain ⟨a, ha, _⟩ := spread_legs hz (show i < i + 1 + k by omega) (by omega)
    simp only [ups, List.map_append]
    rw [ih (by omega), ha]
    congr 1
    rw [← Option.toList_map]
    congr 1
    exact mkQ_mir hS false hs hs
theorem downs_mir {p : Prod} (hz : checkP p = 0) {S : List Tp} (hS : Small S) {i : Nat} {side : Int} (hi : i < p.months.length) (hs : side = 1 ∨ side = 2) : ∀ k, k ≤ i → downs p (S.map mirT) i (3 - side) k = (downs p S i side k).map mirQ := by
  intro k
  induction k with
  | zero => intro _; simp [downs]
  | succ k ih =>
    intro hk
    obtain ⟨a, ha, _⟩ := spread_legs hz (show k < i by omega) (by omega)
    simp only [downs, List.map_append]
    rw [ih (by omega), ha]
    congr 1
    rw [← Option.toList_map]
    congr 1
    exact mkQ_mir hS true (sa := 3 - side) (sb := side) (by omega) hs
theorem allP_mir {p : Prod} {S : List Tp} (hS : Small S) {inst side : Int} (hs : side = 1 ∨ side = 2) : allP p (S.map mirT) inst (3 - side) = (allP p S inst side).map mirQ := by
  unfold allP
  have hbb : badAll p (S.map mirT) inst (3 - side) ↔ badAll p S inst side := by unfold badAll; rw [List.length_map]; omega
  by_cases hb : badAll p S inst side
  · rw [if_pos hb, if_pos (hbb.2 hb)]; rfl
  rw [if_neg hb, if_neg (fun h => hb (hbb.1 h))]
  have hz : checkP p = 0 := count_ne (by unfold badAll at hb; omega)
  by_cases hsp : (legsP p inst).2.2 = true
  · rw [if_pos hsp, if_pos hsp]
    obtain ⟨_, i, j, hlg, hij, hj, _, _⟩ := legs_some hsp
    rw [hlg]
    show (Option.map swapQ (mkQ (S.map mirT) j (3 - (3 - side)) i (3 - side) true)).toList = (Option.map swapQ (mkQ S j (3 - side) i side true)).toList.map mirQ
    rw [mkQ_mir hS true (sa := 3 - side) (sb := side) (by omega) hs, ← Option.toList_map, Option.map_map, Option.map_map]
    rfl
  · rw [if_neg hsp, if_neg hsp, List.map_append]
    obtain ⟨i, rfl, hi⟩ := inst_nat hb hsp
    rw [Int.toNat_natCast, ups_mir hz hS hs _ (by omega), downs_mir hz hS hi hs _ (Nat.le_refl _)]
theorem price_neg {p : Prod} (h : p.low = -p.high) (k x : Int) : (priceP p k (-x) == 0) = (priceP p k x == 0) := by
  rw [Bool.eq_iff_iff, beq_iff_eq, beq_iff_eq]
  unfold priceP
  have hl : lowP p k = -highP p k := by unfold lowP highP; split <;> first | rfl | exact h
  rw [Int.neg_tmod, hl]
  have e1 : (-(x.tmod p.tick) ≠ 0) ↔ (x.tmod p.tick ≠ 0) := by omega
  have e2 : (-x < -highP p k ∨ highP p k < -x) ↔ (x < -highP p k ∨ highP p k < x) := by omega
  simp only [e1, e2]
theorem quotesP_mir {p : Prod} (h : p.low = -p.high) {S : List Tp} (hS : Small S) {inst side : Int} (hs : side = 1 ∨ side = 2) : quotesP p (S.map mirT) inst (3 - side) = (quotesP p S inst side).map mirQ := by
  unfold quotesP
  rw [allP_mir hS hs, List.filter_map]
  congr 1
  apply List.filter_congr
  intro q _
  exact price_neg h inst q.price
/-! ### what is shown -/
theorem better_mir {side x y : Int} (hs : side = 1 ∨ side = 2) : betterP (3 - side) (-x) (-y) = betterP side x y := by
  rcases hs with rfl | rfl
  · show decide (-x < -y) = decide (y < x); rw [decide_eq_decide]; omega
  · show decide (-y < -x) = decide (x < y); rw [decide_eq_decide]; omega
theorem best_mir {side : Int} (hs : side = 1 ∨ side = 2) (l : List Qt) (x : Qt) : (l.map mirQ).foldl (bestStep (3 - side)) (mirQ x) = mirQ (l.foldl (bestStep side) x) := by
  induction l generalizing x with
  | nil => rfl
  | cons q l ih =>
    show (l.map mirQ).foldl (bestStep (3 - side)) (bestStep (3 - side) (mirQ x) (mirQ q)) = mirQ (l.foldl (bestStep side) (bestStep side x q))
    rw [← ih]
    congr 1
    show (if betterP (3 - side) (-q.price) (-x.price) = true then mirQ q else mirQ x) = mirQ (if betterP side q.price x.price = true then q else x)
    rw [better_mir hs]
    split <;> rfl
theorem bestP_mir {side : Int} (hs : side = 1 ∨ side = 2) (l : List Qt) : bestP (l.map mirQ) (3 - side) = (if l = [] then zeroQt else mirQ (bestP l side).1, (bestP l side).2) := by
  cases l with
  | nil => rfl
  | cons x l =>
    show ((l.map mirQ).foldl (bestStep (3 - side)) (mirQ x), true) = _
    rw [best_mir hs]; simp [bestP]
theorem most_mir (l : List Qt) (x : Qt) (k : Nat) : mostTo (l.map mirQ) (mirQ x) k = mostTo l x k := by
  unfold mostTo
  rw [← List.map_take, List.foldl_map]
  congr 1
  funext m q
  show (if -q.price = -x.price then _ else _) = _
  have e1 : (-q.price = -x.price) ↔ (q.price = x.price) := by omega
  simp only [e1]
  rfl
theorem many_mir (l : List Qt) (x : Qt) (k : Nat) : manyTo (l.map mirQ) (mirQ x) k = manyTo l x k := by
  unfold manyTo
  rw [← List.map_take, List.filter_map, List.length_map]
  congr 2
  funext q
  show (-q.price == -x.price) = (q.price == x.price)
  rw [Bool.eq_iff_iff, beq_iff_eq, beq_iff_eq]; omega
theorem show_mir {side : Int} (hs : side = 1 ∨ side = 2) (l : List Qt) : showP (l.map mirQ) (3 - side) = (-(showP l side).1, (showP l side).2) := by
  cases l with
  | nil => rfl
  | cons x l =>
    unfold showP
    rw [bestP_mir hs]
    simp only [List.cons_ne_nil, if_false, show (bestP (x :: l) side).2 = true from rfl, if_true]
    rw [most_mir, many_mir, List.length_map]
    rfl
end Go.Proofs.Ytilficlanliinaa
