/- Plain: months' prices that are all so much higher move months' quotes by that, and leave spreads'. -/
import Derived.Test.YtilficlanliinaaPMir
namespace Go.Proofs.Ytilficlanliinaa
open Go.RowKit

/-- a product of another band -/
def Prod.band (p : Prod) (lo hi : Int) (sa : Option Addr) (st : List Int) (sc : Nat) : Prod := { p with low := lo, high := hi, sa := sa, settle := st, sc := sc }
theorem band_check {p : Prod} (h : checkP p = 0) {lo hi : Int} {st : List Int} (sa : Option Addr) (sc : Nat) (h1 : p.tick ∣ lo) (h2 : p.tick ∣ hi) (h3 : -1000000 ≤ lo ∧ lo < hi ∧ hi ≤ 1000000 ∧ p.wide ≤ hi - lo) (h4 : st.length = p.months.length) (h5 : ∀ x ∈ st, p.tick ∣ x ∧ lo ≤ x ∧ x ≤ hi) : checkP (p.band lo hi sa st sc) = 0 := by
  obtain ⟨k1, k2, k3, k4, k5, k6, k7⟩ := check_zero h
  have hb := check_band h
  have hoff : ∀ x, p.tick ∣ x → offB p.tick x = false := by
    rintro _ ⟨c, rfl⟩
    exact off_mul _ _
  have e1 : prodB (p.band lo hi sa st sc).code = true := k1
  have e2 : monthsB (p.band lo hi sa st sc).months = true := k2
  have e3 : ticksB (p.band lo hi sa st sc) = true := by
    unfold ticksB at k3 ⊢
    simp only [Bool.and_eq_true, Bool.not_eq_true', decide_eq_true_eq] at k3
    show (decide (1 ≤ p.tick) && decide (p.tick ≤ 1000) && !offB p.tick lo && !offB p.tick hi && !offB p.tick p.wide && !st.any (offB p.tick)) = true
    rw [hoff lo h1, hoff hi h2, k3.1.2, decide_eq_true k3.1.1.1.1.1, decide_eq_true k3.1.1.1.1.2]
    have : st.any (offB p.tick) = false := by
      rw [List.any_eq_false]
      intro x hx
      rw [hoff x (h5 x hx).1]; simp
    rw [this]; rfl
  have e4 : ¬ bandBad (p.band lo hi sa st sc) := by
    unfold bandBad
    show ¬ (lo < -1000000 ∨ hi ≤ lo ∨ 1000000 < hi ∨ p.wide < 0 ∨ hi - lo < p.wide)
    omega
  have e5 : settleBad (p.band lo hi sa st sc) = false := by
    unfold settleBad
    show (st.length != p.months.length || st.any (fun x => decide (x < lo)) || st.any (fun x => decide (hi < x))) = false
    have f1 : st.any (fun x => decide (x < lo)) = false := by
      rw [List.any_eq_false]; intro x hx; have := h5 x hx; simp; omega
    have f2 : st.any (fun x => decide (hi < x)) = false := by
      rw [List.any_eq_false]; intro x hx; have := h5 x hx; simp; omega
    rw [f1, f2, h4]; simp
  have e6 : ¬ kindBad (p.band lo hi sa st sc) := k6
  have e7 : ¬ qtyBad (p.band lo hi sa st sc) := k7
  unfold checkP
  rw [e1, e2, e3, e5, if_neg (by simp), if_neg (by simp), if_neg (by simp), if_neg e4, if_neg (by simp), if_neg e6, if_neg e7]
section
variable {p : Prod} {lo hi : Int} {st : List Int} {sa : Option Addr} {sc : Nat}
theorem band_count (h : checkP p = 0) (h' : checkP (p.band lo hi sa st sc) = 0) : countP (p.band lo hi sa st sc) = countP p := by
  rw [countP_some h, countP_some h']; rfl
theorem band_legs (h : checkP p = 0) (h' : checkP (p.band lo hi sa st sc) = 0) (s : Int) : legsP (p.band lo hi sa st sc) s = legsP p s := by
  unfold legsP; rw [band_count h h']; rfl
theorem band_spread (h : checkP p = 0) (h' : checkP (p.band lo hi sa st sc) = 0) (a b : Int) : spreadP (p.band lo hi sa st sc) a b = spreadP p a b := by
  unfold spreadP; rw [h, h']; rfl
end
/-- tops that are so much higher, the first m of them -/
def shT (K : Int) (x : Tp) : Tp := ⟨x.h0, x.h1, x.p0 + K, x.p1 + K, x.q0, x.q1⟩
def shS (S : List Tp) (K : Int) (m : Nat) : List Tp := (S.take m).map (shT K) ++ S.drop m
theorem shS_len (S : List Tp) (K : Int) (m : Nat) : (shS S K m).length = S.length := by
  unfold shS; rw [List.length_append, List.length_map, List.length_take, List.length_drop]; omega
theorem shS_zero (S : List Tp) (K : Int) : shS S K 0 = S := by simp [shS]
theorem shS_get {S : List Tp} {K : Int} {m i : Nat} {x : Tp} (h : S[i]? = some x) : (shS S K m)[i]? = some (if i < m then shT K x else x) := by
  have hi := lt_of_get h
  unfold shS
  by_cases hm : i < m
  · rw [List.getElem?_append_left (by rw [List.length_map, List.length_take]; omega), List.getElem?_map, List.getElem?_take, if_pos hm, h, if_pos hm]; rfl
  · rw [List.getElem?_append_right (by rw [List.length_map, List.length_take]; omega), List.length_map, List.length_take, List.getElem?_drop, if_neg hm, show m + (i - min m S.length) = i by omega, h]
theorem shS_none {S : List Tp} {K : Int} {m i : Nat} (h : S[i]? = none) : (shS S K m)[i]? = none := by
  rw [List.getElem?_eq_none_iff] at h ⊢; rw [shS_len]; exact h
theorem shS_succ {S : List Tp} {K : Int} {m : Nat} {x : Tp} (h : S[m]? = some x) : (shS S K m).set m (shT K x) = shS S K (m + 1) := by
  have hm := lt_of_get h
  apply List.ext_getElem?
  intro i
  rw [List.getElem?_set]
  cases hx : S[i]? with
  | none =>
    have hn := (List.getElem?_eq_none_iff.1 hx)
    rw [if_neg (by omega), shS_none hx, shS_none hx]
  | some y =>
    by_cases hc : m = i
    · subst hc
      rw [if_pos rfl, shS_len, if_pos hm, shS_get hx, if_pos (by omega)]
      rw [hx] at h; injection h with h; rw [h]
    · rw [if_neg hc, shS_get hx, shS_get hx]
      congr 1
      by_cases h1 : i < m
      · rw [if_pos h1, if_pos (by omega)]
      · rw [if_neg h1, if_neg (by omega)]
theorem shS_mem {S : List Tp} {K : Int} {m : Nat} {x : Tp} (h : x ∈ shS S K m) : ∃ y ∈ S, x = y ∨ x = shT K y := by
  unfold shS at h
  rw [List.mem_append, List.mem_map] at h
  rcases h with ⟨y, hy, rfl⟩ | h
  · exact ⟨y, List.mem_of_mem_take hy, .inr rfl⟩
  · exact ⟨x, List.mem_of_mem_drop h, .inl rfl⟩
/-- tops of smaller prices yet -/
def Tiny (S : List Tp) : Prop := ∀ x ∈ S, ∀ s : Int, -100000 ≤ x.price s ∧ x.price s ≤ 100000
theorem Tiny.small {S : List Tp} (h : Tiny S) : Small S := fun x hx s => by have := h x hx s; omega
theorem shT_price (K s : Int) (x : Tp) : (shT K x).price s = x.price s + K := by unfold shT Tp.price; split <;> rfl
theorem shT_has (K s : Int) (x : Tp) : (shT K x).has s = x.has s := by unfold shT Tp.has; split <;> rfl
theorem shT_qty (K s : Int) (x : Tp) : (shT K x).qty s = x.qty s := by unfold shT Tp.qty; split <;> rfl
theorem sh_small {S : List Tp} (h : Tiny S) {K : Int} (hK : 0 ≤ K ∧ K ≤ 100000) (m : Nat) : Small (shS S K m) := by
  intro x hx s
  obtain ⟨y, hy, rfl | rfl⟩ := shS_mem hx
  · have := h x hy s; omega
  · have := h y hy s; rw [shT_price]; omega
theorem sh_ok {S : List Tp} (hok : ∀ x ∈ S, x.ok) (h : Tiny S) {K : Int} (hK : 0 ≤ K ∧ K ≤ 100000) (m : Nat) : ∀ x ∈ shS S K m, x.ok := by
  intro x hx
  obtain ⟨y, hy, rfl | rfl⟩ := shS_mem hx
  · exact hok x hy
  · have h1 := h y hy 1
    have h2 := h y hy 2
    simp only [Tp.price, if_true, show ¬ (2 : Int) = 1 by decide, if_false] at h1 h2
    exact ⟨by show i64ok (y.p0 + K); unfold i64ok; omega, by show i64ok (y.p1 + K); unfold i64ok; omega, (hok y hy).q0, (hok y hy).q1⟩
def addQ (K : Int) (q : Qt) : Qt := ⟨q.price + K, q.qty, q.i0, q.s0, q.i1, q.s1⟩
theorem addQ_zero (q : Qt) : addQ 0 q = q := by unfold addQ; rw [Int.add_zero]
theorem mkQ_sh {S : List Tp} (hS : Tiny S) {K : Int} (hK : 0 ≤ K ∧ K ≤ 100000) {n ai bi : Nat} {sa sb : Int} (less : Bool) :
    mkQ (shS S K n) ai sa bi sb less = (mkQ S ai sa bi sb less).map (addQ (if less = true then (if bi < n then K else 0) - (if ai < n then K else 0) else (if ai < n then K else 0) + (if bi < n then K else 0))) := by
  cases hx : S[ai]? with
  | none => rw [mkQ_none1 (by rw [Int.toNat_natCast]; exact shS_none hx), mkQ_none1 (by rw [Int.toNat_natCast]; exact hx)]; rfl
  | some x =>
  cases hy : S[bi]? with
  | none => rw [mkQ_none2 (by rw [Int.toNat_natCast]; exact shS_none hy), mkQ_none2 (by rw [Int.toNat_natCast]; exact hy)]; rfl
  | some y =>
  rw [mkQ_small (sh_small hS hK n) (shS_get hx) (shS_get hy), mkQ_small hS.small hx hy]
  have e1 : ∀ (i : Nat) (z : Tp) (s : Int), (if i < n then shT K z else z).price s = z.price s + (if i < n then K else 0) := by intro i z s; split <;> first | exact shT_price _ _ _ | simp
  have e2 : ∀ (i : Nat) (z : Tp) (s : Int), (if i < n then shT K z else z).qty s = z.qty s := by intro i z s; split <;> first | exact shT_qty _ _ _ | rfl
  have e3 : ∀ (i : Nat) (z : Tp) (s : Int), (if i < n then shT K z else z).has s = z.has s := by intro i z s; split <;> first | exact shT_has _ _ _ | rfl
  rw [e1, e1, e2, e2, e3, e3]
  by_cases hc : x.has sa = true ∧ y.has sb = true
  · rw [if_pos hc, if_pos hc]
    simp only [Option.map_some, addQ]
    congr 2
    cases less <;> simp <;> omega
  · rw [if_neg hc, if_neg hc]; rfl
theorem spread_far {p : Prod} {a : Nat} {i j : Int} (h : legsP p (a : Int) = (i, j, true)) : ¬ a < p.months.length := by
  intro hlt
  unfold legsP at h
  split at h
  · injection h with _ h; injection h with _ h; cases h
  · rw [if_pos (by omega)] at h
    injection h with _ h; injection h with _ h; cases h
section
variable {p : Prod} {lo hi : Int} {st : List Int} {sa : Option Addr} {sc : Nat} {S : List Tp} {K : Int}
theorem ups_sh (hz : checkP p = 0) (hz' : checkP (p.band lo hi sa st sc) = 0) (hS : Tiny S) (hK : 0 ≤ K ∧ K ≤ 100000) {i : Nat} {side : Int} : ∀ k, i + k < p.months.length → ups (p.band lo hi sa st sc) (shS S K p.months.length) i side k = (ups p S i side k).map (addQ K) := by
  intro k
  induction k with
  | zero => intro _; simp [ups]
  | succ k ih =>
    intro hk
    obtain ⟨a, ha, hl⟩ := spread_legs hz (show i < i + 1 + k by omega) (by omega)
    simp only [ups, List.map_append]
    rw [ih (by omega), band_spread hz hz', ha]
    congr 1
    rw [← Option.toList_map]
    congr 1
    have := mkQ_sh hS hK (n := p.months.length) (ai := a) (bi := i + 1 + k) (sa := side) (sb := side) false
    rw [if_neg (spread_far hl), if_pos (show i + 1 + k < p.months.length by omega)] at this
    simpa using this
theorem downs_sh (hz : checkP p = 0) (hz' : checkP (p.band lo hi sa st sc) = 0) (hS : Tiny S) (hK : 0 ≤ K ∧ K ≤ 100000) {i : Nat} {side : Int} (hi' : i < p.months.length) : ∀ k, k ≤ i → downs (p.band lo hi sa st sc) (shS S K p.months.length) i side k = (downs p S i side k).map (addQ K) := by
  intro k
  induction k with
  | zero => intro _; simp [downs]
  | succ k ih =>
    intro hk
    obtain ⟨a, ha, hl⟩ := spread_legs hz (show k < i by omega) (by omega)
    simp only [downs, List.map_append]
    rw [ih (by omega), band_spread hz hz', ha]
    congr 1
    rw [← Option.toList_map]
    congr 1
    have := mkQ_sh hS hK (n := p.months.length) (ai := a) (bi := k) (sa := 3 - side) (sb := side) true
    rw [if_neg (spread_far hl), if_pos (show k < p.months.length by omega)] at this
    simpa using this
theorem allP_sh (hz : checkP p = 0) (hz' : checkP (p.band lo hi sa st sc) = 0) (hS : Tiny S) (hK : 0 ≤ K ∧ K ≤ 100000) {inst side : Int} :
    allP (p.band lo hi sa st sc) (shS S K p.months.length) inst side = (allP p S inst side).map (addQ (if inst < p.months.length then K else 0)) := by
  unfold allP
  have hbb : badAll (p.band lo hi sa st sc) (shS S K p.months.length) inst side ↔ badAll p S inst side := by unfold badAll; rw [shS_len, band_count hz hz']
  by_cases hb : badAll p S inst side
  · rw [if_pos hb, if_pos (hbb.2 hb)]; rfl
  rw [if_neg hb, if_neg (fun h => hb (hbb.1 h)), band_legs hz hz']
  by_cases hsp : (legsP p inst).2.2 = true
  · rw [if_pos hsp, if_pos hsp]
    obtain ⟨_, i, j, hlg, hij, hj, hm, _⟩ := legs_some hsp
    rw [hlg, if_neg (by omega)]
    have := mkQ_sh hS hK (n := p.months.length) (ai := j) (bi := i) (sa := 3 - side) (sb := side) true
    rw [if_pos hj, if_pos (show i < p.months.length by omega)] at this
    simp only [if_true, Int.sub_self] at this
    show (Option.map swapQ (mkQ (shS S K p.months.length) j (3 - side) i side true)).toList = (Option.map swapQ (mkQ S j (3 - side) i side true)).toList.map (addQ 0)
    rw [this, ← Option.toList_map, Option.map_map, Option.map_map]
    rfl
  · rw [if_neg hsp, if_neg hsp, List.map_append]
    obtain ⟨i, rfl, hi2⟩ := inst_nat hb hsp
    rw [Int.toNat_natCast, if_pos (by omega)]
    have e1 := ups_sh hz hz' hS hK (i := i) (side := side) (p.months.length - (i + 1)) (by omega)
    have e2 := downs_sh hz hz' hS hK (side := side) hi2 i (Nat.le_refl _)
    rw [← e1, ← e2]
    rfl
theorem price_sh (hz : checkP p = 0) (hz' : checkP (p.band (p.low + K) (p.high + K) sa st sc) = 0) (hd : p.tick ∣ K) (inst x : Int) :
    (priceP (p.band (p.low + K) (p.high + K) sa st sc) inst (x + (if inst < p.months.length then K else 0)) == 0) = (priceP p inst x == 0) := by
  rw [Bool.eq_iff_iff, beq_iff_eq, beq_iff_eq]
  have ht := check_tick hz
  unfold priceP
  rw [band_count hz hz']
  have e1 : (p.band (p.low + K) (p.high + K) sa st sc).tick = p.tick := rfl
  have e2 : lowP (p.band (p.low + K) (p.high + K) sa st sc) inst = if (p.months.length : Int) ≤ inst then -p.wide else p.low + K := rfl
  have e3 : highP (p.band (p.low + K) (p.high + K) sa st sc) inst = if (p.months.length : Int) ≤ inst then p.wide else p.high + K := rfl
  rw [e1, e2, e3]
  have e4 : ((x + (if inst < p.months.length then K else 0)).tmod p.tick ≠ 0) ↔ (x.tmod p.tick ≠ 0) := by
    have hd2 : p.tick ∣ (if inst < p.months.length then K else 0) := by split <;> first | exact hd | exact Int.dvd_zero _
    rw [ne_eq, ne_eq, ← Int.dvd_iff_tmod_eq_zero, ← Int.dvd_iff_tmod_eq_zero, Int.dvd_add_left hd2]
  simp only [e4]
  unfold lowP highP
  by_cases hm : (p.months.length : Int) ≤ inst
  · simp only [if_pos hm, if_neg (show ¬ inst < p.months.length by omega), Int.add_zero]
  · simp only [if_neg hm, if_pos (show inst < p.months.length by omega)]
    have e5 : (x + K < p.low + K ∨ p.high + K < x + K) ↔ (x < p.low ∨ p.high < x) := by omega
    simp only [e5]
theorem quotesP_sh (hz : checkP p = 0) (hz' : checkP (p.band (p.low + K) (p.high + K) sa st sc) = 0) (hd : p.tick ∣ K) (hS : Tiny S) (hK : 0 ≤ K ∧ K ≤ 100000) {inst side : Int} :
    quotesP (p.band (p.low + K) (p.high + K) sa st sc) (shS S K p.months.length) inst side = (quotesP p S inst side).map (addQ (if inst < p.months.length then K else 0)) := by
  unfold quotesP
  rw [allP_sh hz hz' hS hK, List.filter_map]
  congr 1
  apply List.filter_congr
  intro q _
  exact price_sh hz hz' hd inst q.price
end
end Go.Proofs.Ytilficlanliinaa
