/- Plain: with one top's side gone the quotes are those, in order, that it is no leg of. -/
import Derived.Test.YtilficlanliinaaTri
namespace Go.Proofs.Ytilficlanliinaa
open Go.RowKit

/-- a top without a side -/
def clrT (sd : Int) (x : Tp) : Tp := if sd = 1 then ⟨false, x.h1, x.p0, x.p1, x.q0, x.q1⟩ else ⟨x.h0, false, x.p0, x.p1, x.q0, x.q1⟩
def clrS (S : List Tp) (n : Nat) (sd : Int) : List Tp := match S[n]? with | some x => S.set n (clrT sd x) | none => S
/-- a quote that has the leg -/
def legQ (n sd : Int) (q : Qt) : Bool := (decide (q.i0 = n) && decide (q.s0 = sd)) || (decide (q.i1 = n) && decide (q.s1 = sd))
theorem clrS_len (S : List Tp) (n : Nat) (sd : Int) : (clrS S n sd).length = S.length := by
  unfold clrS; split <;> simp
theorem clrS_get {S : List Tp} {n : Nat} {sd : Int} {i : Nat} {x : Tp} (h : S[i]? = some x) : (clrS S n sd)[i]? = some (if i = n then clrT sd x else x) := by
  unfold clrS
  split
  · rename_i y hy
    rw [List.getElem?_set]
    by_cases hc : n = i
    · subst hc
      obtain rfl : y = x := by rw [hy] at h; injection h
      have hlt := lt_of_get hy
      simp [hlt]
    · rw [if_neg hc, if_neg (Ne.symm hc)]; exact h
  · rename_i hy
    rw [if_neg (by rintro rfl; rw [hy] at h; cases h)]; exact h
theorem clrT_has {sd s : Int} (hsd : sd = 1 ∨ sd = 2) (hs : s = 1 ∨ s = 2) (x : Tp) : (clrT sd x).has s = (x.has s && !decide (s = sd)) := by
  rcases hsd with rfl | rfl <;> rcases hs with rfl | rfl <;> simp [clrT, Tp.has]
theorem clrT_price (sd s : Int) (x : Tp) : (clrT sd x).price s = x.price s := by
  unfold clrT Tp.price; (repeat' split) <;> rfl
theorem clrT_qty (sd s : Int) (x : Tp) : (clrT sd x).qty s = x.qty s := by
  unfold clrT Tp.qty; (repeat' split) <;> rfl
theorem clrT_ok {x : Tp} (h : x.ok) (sd : Int) : (clrT sd x).ok := by
  obtain ⟨a, b, c, d⟩ := h
  unfold clrT; split <;> exact ⟨a, b, c, d⟩
theorem clrS_ok {S : List Tp} (h : ∀ x ∈ S, x.ok) (n : Nat) (sd : Int) : ∀ x ∈ clrS S n sd, x.ok := by
  intro x hx
  unfold clrS at hx
  split at hx
  · rename_i y hy
    rcases List.mem_or_eq_of_mem_set hx with hx | rfl
    · exact h x hx
    · exact clrT_ok (h y (List.mem_of_getElem? hy)) sd
  · exact h x hx
theorem mkQ_none1 {L : List Tp} {ai sa bi sb : Int} {less : Bool} (h : L[ai.toNat]? = none) : mkQ L ai sa bi sb less = none := by
  unfold mkQ; rw [h]
theorem mkQ_none2 {L : List Tp} {ai sa bi sb : Int} {less : Bool} (h : L[bi.toNat]? = none) : mkQ L ai sa bi sb less = none := by
  unfold mkQ; rw [h]; split <;> first | rfl | (rename_i hx; cases hx)
theorem mkQ_clr {S : List Tp} {n : Nat} {ai bi : Nat} {sd sa sb : Int} (less : Bool) (hsd : sd = 1 ∨ sd = 2) (hsa : sa = 1 ∨ sa = 2) (hsb : sb = 1 ∨ sb = 2) :
    (mkQ (clrS S n sd) ai sa bi sb less).toList = (mkQ S ai sa bi sb less).toList.filter (fun q => !legQ n sd q) := by
  cases hx : S[ai]? with
  | none =>
    have hx' : (clrS S n sd)[ai]? = none := by rw [List.getElem?_eq_none_iff] at hx ⊢; rw [clrS_len]; exact hx
    rw [mkQ_none1 (by rw [Int.toNat_natCast]; exact hx'), mkQ_none1 (by rw [Int.toNat_natCast]; exact hx)]; rfl
  | some x =>
  cases hy : S[bi]? with
  | none =>
    have hy' : (clrS S n sd)[bi]? = none := by rw [List.getElem?_eq_none_iff] at hy ⊢; rw [clrS_len]; exact hy
    rw [mkQ_none2 (by rw [Int.toNat_natCast]; exact hy'), mkQ_none2 (by rw [Int.toNat_natCast]; exact hy)]; rfl
  | some y =>
  rw [mkQ_eq (clrS_get hx) (clrS_get hy), mkQ_eq hx hy]
  have e1 : ∀ (b : Prop) [Decidable b] (z : Tp) (s : Int), (if b then clrT sd z else z).price s = z.price s := by intro b _ z s; split <;> first | exact clrT_price _ _ _ | rfl
  have e2 : ∀ (b : Prop) [Decidable b] (z : Tp) (s : Int), (if b then clrT sd z else z).qty s = z.qty s := by intro b _ z s; split <;> first | exact clrT_qty _ _ _ | rfl
  have e3 : ∀ (m : Nat) (z : Tp) (s : Int), (s = 1 ∨ s = 2) → (if m = n then clrT sd z else z).has s = (z.has s && !(decide ((m : Int) = (n : Int)) && decide (s = sd))) := by
    intro m z s hs
    by_cases hc : m = n
    · subst hc; rw [if_pos rfl, clrT_has hsd hs]; simp
    · have : ¬ (m : Int) = (n : Int) := by omega
      rw [if_neg hc]; simp [this]
  simp only [e1, e2]
  rw [e3 ai x sa hsa, e3 bi y sb hsb]
  generalize hr : (if less = true then subP (y.price sb) (x.price sa) else addP (x.price sa) (y.price sb)) = r
  cases x.has sa with
  | false => simp
  | true =>
  cases y.has sb with
  | false => simp
  | true =>
  by_cases hr2 : r.2 = true
  · simp only [hr2, Bool.true_and, if_true, and_self, Option.toList_some, List.filter_cons, List.filter_nil, legQ]
    cases (decide ((ai : Int) = (n : Int)) && decide (sa = sd)) <;> cases (decide ((bi : Int) = (n : Int)) && decide (sb = sd)) <;> simp
  · simp [hr2]
theorem ups_clr {p : Prod} (hz : checkP p = 0) {S : List Tp} {n i : Nat} {sd side : Int} (hsd : sd = 1 ∨ sd = 2) (hs : side = 1 ∨ side = 2) : ∀ k, i + k < p.months.length → ups p (clrS S n sd) i side k = (ups p S i side k).filter (fun q => !legQ n sd q) := by
  intro k
  induction k with
  | zero => intro _; simp [ups]
  | succ k ih =>
    intro hk
    obtain ⟨a, ha, _⟩ := spread_legs hz (show i < i + 1 + k by omega) (by omega)
    simp only [ups, List.filter_append]
    rw [ih (by omega), ha]
    congr 1
    exact mkQ_clr false hsd hs hs
theorem downs_clr {p : Prod} (hz : checkP p = 0) {S : List Tp} {n i : Nat} {sd side : Int} (hi : i < p.months.length) (hsd : sd = 1 ∨ sd = 2) (hs : side = 1 ∨ side = 2) : ∀ k, k ≤ i → downs p (clrS S n sd) i side k = (downs p S i side k).filter (fun q => !legQ n sd q) := by
  intro k
  induction k with
  | zero => intro _; simp [downs]
  | succ k ih =>
    intro hk
    obtain ⟨a, ha, _⟩ := spread_legs hz (show k < i by omega) (by omega)
    simp only [downs, List.filter_append]
    rw [ih (by omega), ha]
    congr 1
    exact mkQ_clr true hsd (by omega) hs
theorem bad_len {p : Prod} {S T : List Tp} (h : T.length = S.length) (inst side : Int) : badAll p T inst side ↔ badAll p S inst side := by
  unfold badAll; rw [h]
theorem allP_clr {p : Prod} {S : List Tp} {n : Nat} {sd inst side : Int} (hsd : sd = 1 ∨ sd = 2) (hs : side = 1 ∨ side = 2) : allP p (clrS S n sd) inst side = (allP p S inst side).filter (fun q => !legQ n sd q) := by
  unfold allP
  by_cases hb : badAll p S inst side
  · rw [if_pos hb, if_pos ((bad_len (clrS_len S n sd) _ _).2 hb)]; rfl
  rw [if_neg hb, if_neg (fun h => hb ((bad_len (clrS_len S n sd) _ _).1 h))]
  unfold badAll at hb
  have hz : checkP p = 0 := count_ne (by omega)
  by_cases hsp : (legsP p inst).2.2 = true
  · rw [if_pos hsp, if_pos hsp]
    obtain ⟨_, i, j, hlg, hij, hj, _, _⟩ := legs_some hsp
    rw [hlg]
    have hm := mkQ_clr (S := S) (n := n) (ai := j) (bi := i) (sd := sd) (sa := 3 - side) (sb := side) true hsd (by omega) hs
    show (Option.map swapQ (mkQ (clrS S n sd) j (3 - side) i side true)).toList = (Option.map swapQ (mkQ S j (3 - side) i side true)).toList.filter _
    rw [Option.toList_map, Option.toList_map, hm, List.filter_map]
    congr 1
    apply List.filter_congr
    intro q _
    simp only [legQ, swapQ, Function.comp_apply]
    rw [Bool.or_comm]
    rfl
  · rw [if_neg hsp, if_neg hsp, List.filter_append]
    have hsp' : (legsP p inst).2.2 = false := by simpa using hsp
    obtain ⟨i, hlg, hi⟩ := legs_none (by omega) (by omega) hsp'
    obtain rfl : inst = (i : Int) := by
      unfold legsP at hlg
      split at hlg
      · omega
      · split at hlg
        · injection hlg
        · injection hlg with _ h2; injection h2 with _ h3; cases h3
    rw [Int.toNat_natCast, ups_clr hz hsd hs _ (by omega), downs_clr hz hi hsd hs _ (Nat.le_refl _)]
/-- the walk over both rows -/
theorem filter_at {α : Type} {l : List α} {f : α → Bool} {i : Nat} {q : α} (h : l[i]? = some q) (hf : f q = true) : (l.filter f)[((l.take i).filter f).length]? = some q := by
  obtain ⟨hi, rfl⟩ := List.getElem?_eq_some_iff.1 h
  have e : l = l.take i ++ (l[i] :: l.drop (i + 1)) := by rw [← List.drop_eq_getElem_cons hi, List.take_append_drop]
  have e2 : l.filter f = (l.take i).filter f ++ (l[i] :: (l.drop (i + 1)).filter f) := by
    conv => lhs; rw [e]
    rw [List.filter_append, List.filter_cons, if_pos hf]
  rw [e2, List.getElem?_append_right (Nat.le_refl _), Nat.sub_self]
  rfl
theorem filter_step {α : Type} {l : List α} {f : α → Bool} {i : Nat} {q : α} (h : l[i]? = some q) : ((l.take (i + 1)).filter f).length = ((l.take i).filter f).length + (if f q = true then 1 else 0) := by
  rw [List.take_add_one, h, List.filter_append, List.length_append]
  by_cases hf : f q = true <;> simp [hf]
end Go.Proofs.Ytilficlanliinaa
