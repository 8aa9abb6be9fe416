/- The arena's calls over queues as lists: Take, Top, List, Get, Total, Count, Free. -/
import Derived.Test.YtbpmoomklknkkaaList2
namespace Go.Proofs.Ytbpmoomklknkkaa
open Go.RowKit

def Ent.cells (e : Ent) : List Value := [.int .i64 e.slot, .int .i64 e.id, .int .i64 e.qty, .bool e.top]
def Ent.agg (e : Ent) : Value := .agg #[.int .i64 e.slot, .int .i64 e.id, .int .i64 e.qty, .bool e.top]

theorem flatMap_same {α β : Type} {f g : α → List β} : ∀ {L : List α}, (∀ x ∈ L, f x = g x) → L.flatMap f = L.flatMap g := by
  intro L
  induction L with
  | nil => intro _; rfl
  | cons a L ih => intro h; rw [List.flatMap_cons, List.flatMap_cons, h a List.mem_cons_self, ih fun x hx => h x (List.mem_cons_of_mem _ hx)]

section
variable {w : World} {pb sb : Nat} {qa : Option Addr} {room : Nat} {A : List (List Ent)}

theorem la_free (h : LA w pb sb qa room A) :
    Calls Try.prog 15 #[.pointer (some ⟨pb, 0, none⟩)] w fun e w' => e = .returned (.int .i64 ((room : Int) - (A.map List.length).sum)) ∧ w = w' := by
  obtain ⟨S, qc, Q, F, hc, hr, hl⟩ := h
  refine (free_any hc).mono ?_
  rintro e w' ⟨rfl, rfl⟩
  have := hr.sum
  refine ⟨?_, rfl⟩
  rw [show (room : Int) - (A.map List.length).sum = F by omega]

def totA (A : List (List Ent)) (n : Int) : Int := if n < 0 then 0 else qtys (A.getD n.toNat [])
def cntA (A : List (List Ent)) (n : Int) : Int := if n < 0 then 0 else (A.getD n.toNat []).length
theorem getD_none {α : Type} {A : List (List α)} {n : Nat} (h : A.length ≤ n) : A.getD n [] = [] := by
  rw [List.getD_eq_getElem?_getD, List.getElem?_eq_none h]; rfl
theorem la_total (h : LA w pb sb qa room A) (n : Int) :
    Calls Try.prog 20 #[.pointer (some ⟨pb, 0, none⟩), .int .i64 n] w fun e w' => e = .returned (.int .i64 (totA A n)) ∧ w = w' := by
  obtain ⟨S, qc, Q, F, hc, hr, hl⟩ := h
  have hlen := hr.len
  by_cases hn : n < 0 ∨ (A.length : Int) ≤ n
  · refine (total_no hc n (by omega)).mono ?_
    rintro e w' ⟨rfl, rfl⟩
    refine ⟨?_, rfl⟩
    unfold totA
    rcases hn with hn | hn
    · rw [if_pos hn]
    · rw [if_neg (by omega), getD_none (by omega)]; rfl
  · obtain ⟨n, rfl⟩ := Int.eq_ofNat_of_zero_le (show 0 ≤ n by omega)
    obtain ⟨L, hL⟩ : ∃ L, A[n]? = some L := ⟨_, List.getElem?_eq_getElem (by omega)⟩
    obtain ⟨hqn, hqe⟩ := get_of (getq hL hr.qs)
    refine (total_at hc n hqn).mono ?_
    rintro e w' ⟨rfl, rfl⟩
    refine ⟨?_, rfl⟩
    unfold totA
    rw [if_neg (by omega), hqe, Int.toNat_natCast, getD_of hL]
    rfl
theorem la_count (h : LA w pb sb qa room A) (n : Int) :
    Calls Try.prog 14 #[.pointer (some ⟨pb, 0, none⟩), .int .i64 n] w fun e w' => e = .returned (.int .i64 (cntA A n)) ∧ w = w' := by
  obtain ⟨S, qc, Q, F, hc, hr, hl⟩ := h
  have hlen := hr.len
  by_cases hn : n < 0 ∨ (A.length : Int) ≤ n
  · refine (count_no hc n (by omega)).mono ?_
    rintro e w' ⟨rfl, rfl⟩
    refine ⟨?_, rfl⟩
    unfold cntA
    rcases hn with hn | hn
    · rw [if_pos hn]
    · rw [if_neg (by omega), getD_none (by omega)]; rfl
  · obtain ⟨n, rfl⟩ := Int.eq_ofNat_of_zero_le (show 0 ≤ n by omega)
    obtain ⟨L, hL⟩ : ∃ L, A[n]? = some L := ⟨_, List.getElem?_eq_getElem (by omega)⟩
    obtain ⟨hqn, hqe⟩ := get_of (getq hL hr.qs)
    refine (count_at hc n hqn).mono ?_
    rintro e w' ⟨rfl, rfl⟩
    refine ⟨?_, rfl⟩
    unfold cntA
    rw [if_neg (by omega), hqe, Int.toNat_natCast, getD_of hL]
    rfl

theorem findPtr {S : List Slt} {Q : List Que} {F : Int} (hr : Rep A S Q F) (i : Int) (hf : findA A i = none) : slotPtr sb S i = .pointer none := by
  by_cases h0 : i < 0
  · exact slotPtr_no (.inl h0)
  · obtain ⟨i, rfl⟩ := Int.eq_ofNat_of_zero_le (show 0 ≤ i by omega)
    by_cases hi : i < S.length
    · show slotPtr sb S (i : Int) = _
      rw [slotPtr_at hi, hr.used i hi]
      have hf' : findA A (i : Int) = none := hf
      rw [hf']
      rfl
    · exact slotPtr_no (.inr (by simp; omega))

theorem getA_facts {S : List Slt} {Q : List Que} {F : Int} (hr : Rep A S Q F) {i : Int} {n j : Nat} {e : Ent} (hf : findA A i = some (n, j, e)) :
    ∃ L, A[n]? = some L ∧ L[j]? = some e ∧ i = (e.slot : Int) ∧ (∃ hi : e.slot < S.length, S[e.slot]'hi = sltOf n L j e) ∧ (∃ hn : n < Q.length, Q[n]'hn = queOf L) := by
  obtain ⟨L, h1, h2, h3⟩ := findA_some hf
  exact ⟨L, h1, h2, h3, get_of (hr.at_ n j L e h1 h2), get_of (getq h1 hr.qs)⟩

def entOf (A : List (List Ent)) (i : Int) : Value × Bool := match findA A i with
  | some (_, _, e) => (e.agg, true)
  | none => (.agg #[.int .i64 0, .int .i64 0, .int .i64 0, .bool false], false)
theorem la_get (h : LA w pb sb qa room A) (i : Int) :
    Calls Try.prog 11 #[.pointer (some ⟨pb, 0, none⟩), .int .i64 i] w fun e w' => e = .returned (.tuple #[(entOf A i).1, .bool (entOf A i).2]) ∧ Below w.heap.size w w' := by
  obtain ⟨S, qc, Q, F, hc, hr, hl⟩ := h
  unfold entOf
  cases hf : findA A i with
  | none => exact get_no hc i (findPtr hr i hf)
  | some x =>
    obtain ⟨n, j, e⟩ := x
    obtain ⟨L, h1, h2, rfl, ⟨hi, hie⟩, _⟩ := getA_facts hr hf
    exact get_yes hc e.slot hi _ hie rfl

theorem LF_of (pb sb qb : Nat) : ∀ g, (g = pb ∨ g = sb ∨ g = qb) → LF pb sb (some ⟨qb, 0, none⟩) g := by
  rintro g (h | h | h)
  · exact .inl h
  · exact .inr (.inl h)
  · exact .inr (.inr (by rw [h]))

theorem la_top (h : LA w pb sb qa room A) (i : Int) (t : Bool) :
    Calls Try.prog 18 #[.pointer (some ⟨pb, 0, none⟩), .int .i64 i, .bool t] w fun e w' => e = .returned (.int .i64 (topA A i t).2) ∧ LA w' pb sb qa room (topA A i t).1 ∧ Keeps (LF pb sb qa) w w' := by
  have h0 := h
  obtain ⟨S, qc, Q, F, hc, hr, hl⟩ := h
  unfold topA
  cases hf : findA A i with
  | none =>
    refine (top_no hc i t (findPtr hr i hf)).mono ?_
    rintro e w' ⟨rfl, rfl⟩
    exact ⟨rfl, h0, Keeps.refl _ _⟩
  | some x =>
    obtain ⟨n, j, e⟩ := x
    obtain ⟨L, h1, h2, rfl, ⟨hi, hie⟩, ⟨hn, hqe⟩⟩ := getA_facts hr hf
    refine (top_yes hc e.slot t hi (by rw [hie]; rfl)).mono ?_
    rintro e' w' ⟨rfl, hc', hk⟩
    refine ⟨rfl, ⟨_, _, _, _, hc', ?_, by simp; exact hl⟩, hk.more fun g hg => .inr (.inl hg)⟩
    have := hr.turn h1 h2 e.qty t (hr.qty n j L e h1 h2)
    rw [show ({ queOf L with tot := qtys L + e.qty - e.qty } : Que) = Q[n]'hn by rw [hqe, Int.add_sub_cancel]; rfl, List.set_getElem_self] at this
    simp only [getD_of h1]
    rw [hie]
    exact this

/-- the slots behind an order's going -/
def slotsGone (S : List Slt) (_ : Nat) (L : List Ent) (j : Nat) (e : Ent) (S' : List Slt) : Prop :=
  S'.length = S.length ∧ ∀ k, S'[k]? = if k = e.slot then some Slt.none_ else if (k : Int) = pv L j then S[k]?.map (fun s => s.setBk (sl L (j + 1))) else if (k : Int) = sl L (j + 1) then S[k]?.map (fun s => s.setAh (pv L j)) else S[k]?
theorem pv_ge (L : List Ent) (j : Nat) : -1 ≤ pv L j := by
  unfold pv; split
  · omega
  · exact sl_ge _ _
theorem que_gone (L : List Ent) (j : Nat) (e : Ent) (hj : L[j]? = some e) : queOf (L.eraseIdx j) = ⟨if j = 0 then sl L 1 else sl L 0, if j + 1 = L.length then pv L j else pv L L.length, qtys L - e.qty, (L.length : Int) - 1⟩ := by
  have hjl := lt_of_get hj
  unfold queOf
  rw [sl_erase, pv_erase, qtys_erase L j e hj, List.length_eraseIdx, if_pos hjl]
  congr 1
  · by_cases h : j = 0
    · rw [if_pos h, if_neg (by omega)]
    · rw [if_neg h, if_pos (by omega)]
  · by_cases h : j + 1 = L.length
    · rw [if_pos h, if_pos (by omega), show L.length - 1 = j by omega]
    · rw [if_neg h, if_neg (by omega), show L.length - 1 + 1 = L.length by omega]
  · omega

/-- an order goes: the code's drop, over a slot whose quantity is gone already -/
theorem drop_la {qb : Nat} {S : List Slt} {qc : Nat} {Q : List Que} {F : Int} (hc0 : ArenaC w pb sb S (some ⟨qb, 0, none⟩) qc Q F) (hr : Rep A S Q F) {n j : Nat} {L : List Ent} {e : Ent} (h1 : A[n]? = some L) (h2 : L[j]? = some e) :
    ∃ S', slotsGone S n L j e S' ∧ ∀ w3, ArenaC w3 pb sb (S.set e.slot ((sltOf n L j e).withQty 0)) (some ⟨qb, 0, none⟩) qc (Q.set n { queOf L with tot := qtys L - e.qty }) F →
      Calls Try.prog 25 #[.pointer (some ⟨pb, 0, none⟩), .pointer (some ⟨sb, e.slot * 8, none⟩)] w3 fun x w' => x = .returned (.tuple #[]) ∧ ArenaC w' pb sb S' (some ⟨qb, 0, none⟩) qc (Q.set n (queOf (L.eraseIdx j))) (F + 1) ∧ Keeps (fun g => g = pb ∨ g = sb ∨ g = qb) w3 w' := by
  have hroom := hc0.room
  obtain ⟨hi, hie⟩ := get_of (hr.at_ n j L e h1 h2)
  obtain ⟨hn, hqe⟩ := get_of (getq h1 hr.qs)
  have hsh := hr.short h1
  have hjl := lt_of_get h2
  have hF := hr.room
  have hF2 : F + 1 ≤ S.length := by
    have h3 := le_sum (A.map List.length) n L.length (by rw [List.getElem?_map, h1]; rfl)
    have h4 := hr.sum
    omega
  have hi' : e.slot < (S.set e.slot ((sltOf n L j e).withQty 0)).length := by simpa using hi
  have hn' : n < (Q.set n { queOf L with tot := qtys L - e.qty }).length := by simpa using hn
  have g1 : (S.set e.slot ((sltOf n L j e).withQty 0))[e.slot]'hi' = (sltOf n L j e).withQty 0 := by rw [List.getElem_set_self]
  have g2 : (Q.set n { queOf L with tot := qtys L - e.qty })[n]'hn' = { queOf L with tot := qtys L - e.qty } := by rw [List.getElem_set_self]
  have cnt : (1 : Int) ≤ L.length ∧ (L.length : Int) ≤ 4096 := by omega
  have hqg := que_gone L j e h2
  -- a neighbour's slot
  have nb : ∀ (k : Nat) (e' : Ent), L[k]? = some e' → k ≠ j → ∃ hk : e'.slot < S.length, e'.slot ≠ e.slot ∧ S[e'.slot]'hk = sltOf n L k e' := by
    intro k e' hk hkj
    obtain ⟨a, b⟩ := get_of (hr.at_ n k L e' h1 hk)
    exact ⟨a, fun h => hkj (hr.inj n k n j L L e' e h1 hk h1 h2 h).2, b⟩
  rcases Nat.eq_zero_or_pos j with hj0 | hj0
  · have hpv : pv L j = -1 := by rw [hj0]; rfl
    by_cases hjn : j + 1 = L.length
    · -- alone
      have hsl : sl L (j + 1) = -1 := sl_none (by omega)
      refine ⟨S.set e.slot Slt.none_, ⟨by simp, ?_⟩, fun w3 hc3 => (drop_one hc3 e.slot n _ _ hi' hn' g1 g2 rfl hpv hsl cnt (by omega)).mono ?_⟩
      · intro k
        rw [hpv, hsl, if_neg (show ¬ ((k : Int) = -1) by omega), if_neg (show ¬ ((k : Int) = -1) by omega), List.getElem?_set]
        by_cases hk : k = e.slot
        · rw [if_pos hk.symm, if_pos hk, if_pos hi]
        · rw [if_neg (fun x => hk x.symm), if_neg hk]
      · rintro x w' ⟨rfl, hc', hk⟩
        refine ⟨rfl, ?_, hk⟩
        rw [List.set_set, List.set_set] at hc'
        rw [hqg, if_pos hj0, if_pos hjn, hpv, show (1 : Nat) = j + 1 by omega, hsl]
        exact hc'
    · -- the first
      obtain ⟨b, hb⟩ : ∃ b, L[j + 1]? = some b := ⟨_, List.getElem?_eq_getElem (by omega)⟩
      have hsl : sl L (j + 1) = b.slot := sl_some hb
      obtain ⟨hbl, hbe, hbs⟩ := nb (j + 1) b hb (by omega)
      have hbl' : b.slot < (S.set e.slot ((sltOf n L j e).withQty 0)).length := by simpa using hbl
      have g3 : (S.set e.slot ((sltOf n L j e).withQty 0))[b.slot]'hbl' = S[b.slot]'hbl := by rw [List.getElem_set_ne (fun x => hbe x.symm)]
      refine ⟨(S.set b.slot ((S[b.slot]'hbl).setAh (-1))).set e.slot Slt.none_, ⟨by simp, ?_⟩, fun w3 hc3 => (drop_first hc3 e.slot n b.slot _ _ hi' hn' hbl' hbe g1 g2 rfl hpv hsl cnt (by omega)).mono ?_⟩
      · intro k
        rw [hpv, hsl, if_neg (show ¬ ((k : Int) = -1) by omega), List.getElem?_set, List.getElem?_set]
        by_cases hk : k = e.slot
        · rw [if_pos hk.symm, if_pos hk, if_pos (by simpa using hi)]
        · rw [if_neg (fun x => hk x.symm), if_neg hk]
          by_cases hkb : k = b.slot
          · subst hkb
            rw [if_pos rfl, if_pos rfl, if_pos hbl, List.getElem?_eq_getElem hbl]
            rfl
          · rw [if_neg (fun x => hkb x.symm), if_neg (by omega)]
      · rintro x w' ⟨rfl, hc', hk⟩
        refine ⟨rfl, ?_, hk⟩
        rw [g3, List.set_set] at hc'
        rw [hqg, if_pos hj0, if_neg hjn, show (1 : Nat) = j + 1 by omega, hsl]
        have e1 : ((S.set e.slot ((sltOf n L j e).withQty 0)).set b.slot ((S[b.slot]'hbl).setAh (-1))).set e.slot Slt.none_ = (S.set b.slot ((S[b.slot]'hbl).setAh (-1))).set e.slot Slt.none_ := by
          rw [List.set_comm _ _ (fun x => hbe x.symm), List.set_set]
        rw [e1] at hc'
        exact hc'
  · obtain ⟨a, ha⟩ : ∃ a, L[j - 1]? = some a := ⟨_, List.getElem?_eq_getElem (by omega)⟩
    have hpv : pv L j = a.slot := by rw [show j = j - 1 + 1 by omega, pv_succ, sl_some ha]
    obtain ⟨hal, hae, has⟩ := nb (j - 1) a ha (by omega)
    have hal' : a.slot < (S.set e.slot ((sltOf n L j e).withQty 0)).length := by simpa using hal
    have g3 : (S.set e.slot ((sltOf n L j e).withQty 0))[a.slot]'hal' = S[a.slot]'hal := by rw [List.getElem_set_ne (fun x => hae x.symm)]
    by_cases hjn : j + 1 = L.length
    · -- the last
      have hsl : sl L (j + 1) = -1 := sl_none (by omega)
      refine ⟨(S.set a.slot ((S[a.slot]'hal).setBk (-1))).set e.slot Slt.none_, ⟨by simp, ?_⟩, fun w3 hc3 => (drop_last hc3 e.slot n a.slot _ _ hi' hn' hal' hae g1 g2 rfl hpv hsl cnt (by omega)).mono ?_⟩
      · intro k
        rw [hpv, hsl, if_neg (show ¬ ((k : Int) = -1) by omega), List.getElem?_set, List.getElem?_set]
        by_cases hk : k = e.slot
        · rw [if_pos hk.symm, if_pos hk, if_pos (by simpa using hi)]
        · rw [if_neg (fun x => hk x.symm), if_neg hk]
          by_cases hkb : k = a.slot
          · subst hkb
            rw [if_pos rfl, if_pos rfl, if_pos hal, List.getElem?_eq_getElem hal]
            rfl
          · rw [if_neg (fun x => hkb x.symm), if_neg (by omega)]
      · rintro x w' ⟨rfl, hc', hk⟩
        refine ⟨rfl, ?_, hk⟩
        rw [g3, List.set_set] at hc'
        rw [hqg, if_neg (by omega), if_pos hjn, hpv]
        have e1 : ((S.set e.slot ((sltOf n L j e).withQty 0)).set a.slot ((S[a.slot]'hal).setBk (-1))).set e.slot Slt.none_ = (S.set a.slot ((S[a.slot]'hal).setBk (-1))).set e.slot Slt.none_ := by
          rw [List.set_comm _ _ (fun x => hae x.symm), List.set_set]
        rw [e1] at hc'
        exact hc'
    · -- in the middle
      obtain ⟨b, hb⟩ : ∃ b, L[j + 1]? = some b := ⟨_, List.getElem?_eq_getElem (by omega)⟩
      have hsl : sl L (j + 1) = b.slot := sl_some hb
      obtain ⟨hbl, hbe, hbs⟩ := nb (j + 1) b hb (by omega)
      have hab : a.slot ≠ b.slot := fun h => by have := (hr.inj n (j - 1) n (j + 1) L L a b h1 ha h1 hb h).2; omega
      have hbl' : b.slot < (S.set e.slot ((sltOf n L j e).withQty 0)).length := by simpa using hbl
      have g4 : (S.set e.slot ((sltOf n L j e).withQty 0))[b.slot]'hbl' = S[b.slot]'hbl := by rw [List.getElem_set_ne (fun x => hbe x.symm)]
      refine ⟨((S.set a.slot ((S[a.slot]'hal).setBk b.slot)).set b.slot ((S[b.slot]'hbl).setAh a.slot)).set e.slot Slt.none_, ⟨by simp, ?_⟩, fun w3 hc3 => (drop_mid hc3 e.slot n a.slot b.slot _ _ hi' hn' hal' hae hbl' hbe hab g1 g2 rfl hpv hsl cnt (by omega)).mono ?_⟩
      · intro k
        rw [hpv, hsl, List.getElem?_set, List.getElem?_set, List.getElem?_set]
        by_cases hk : k = e.slot
        · rw [if_pos hk.symm, if_pos hk, if_pos (by simpa using hi)]
        · rw [if_neg (fun x => hk x.symm), if_neg hk]
          by_cases hkb : k = b.slot
          · subst hkb
            rw [if_pos rfl, if_pos (by simpa using hbl), if_neg (by omega), if_pos rfl, List.getElem?_eq_getElem hbl]
            rfl
          · rw [if_neg (fun x => hkb x.symm)]
            by_cases hka : k = a.slot
            · subst hka
              rw [if_pos rfl, if_pos rfl, if_pos hal, List.getElem?_eq_getElem hal]
              rfl
            · rw [if_neg (fun x => hka x.symm), if_neg (by omega), if_neg (by omega)]
      · rintro x w' ⟨rfl, hc', hk⟩
        refine ⟨rfl, ?_, hk⟩
        rw [g3, g4, List.set_set] at hc'
        rw [hqg, if_neg (by omega), if_neg hjn]
        have e1 : (((S.set e.slot ((sltOf n L j e).withQty 0)).set a.slot ((S[a.slot]'hal).setBk b.slot)).set b.slot ((S[b.slot]'hbl).setAh a.slot)).set e.slot Slt.none_ = ((S.set a.slot ((S[a.slot]'hal).setBk b.slot)).set b.slot ((S[b.slot]'hbl).setAh a.slot)).set e.slot Slt.none_ := by
          rw [List.set_comm _ _ (fun x => hae x.symm), List.set_comm _ _ (fun x => hbe x.symm), List.set_set]
        rw [e1] at hc'
        exact hc'

theorem la_take (h : LA w pb sb qa room A) (i qty : Int) :
    Calls Try.prog 12 #[.pointer (some ⟨pb, 0, none⟩), .int .i64 i, .int .i64 qty] w fun e w' => e = .returned (.int .i64 (takeA A i qty).2) ∧ LA w' pb sb qa room (takeA A i qty).1 ∧ Keeps (LF pb sb qa) w w' := by
  have h0 := h
  obtain ⟨S, qc, Q, F, hc, hr, hl⟩ := h
  unfold takeA
  cases hf : findA A i with
  | none =>
    refine (take_no hc i qty (findPtr hr i hf)).mono ?_
    rintro e w' ⟨rfl, rfl⟩
    exact ⟨rfl, h0, Keeps.refl _ _⟩
  | some x =>
    obtain ⟨n, j, e⟩ := x
    obtain ⟨L, h1, h2, rfl, ⟨hi, hie⟩, ⟨hn, hqe⟩⟩ := getA_facts hr hf
    obtain ⟨qb, rfl⟩ := h0.row (by have := lt_of_get h1; omega)
    have hq := hr.qty n j L e h1 h2
    have hqt := qtys_le L fun j e he => hr.qty n j L e h1 he
    have hqm := qtys_mem L (fun j e he => hr.qty n j L e h1 he) j e h2
    have hsh := hr.short h1
    have hroom := hc.room
    simp only [getD_of h1]
    by_cases hbad : qty < 1 ∨ e.qty < qty
    · rw [if_pos hbad]
      refine (take_qty hc e.slot qty hi _ hie rfl hbad).mono ?_
      rintro e' w' ⟨rfl, rfl⟩
      exact ⟨rfl, h0, Keeps.refl _ _⟩
    · rw [if_neg hbad]
      by_cases hall : e.qty = qty
      · rw [if_pos hall]
        subst hall
        obtain ⟨S', hS', hd⟩ := drop_la hc hr h1 h2
        refine (take_all hc e.slot n _ _ hi hn hie hqe rfl rfl (by show 1 ≤ e.qty; omega) (by show e.qty ≤ 1000000; omega) hd ⟨hqm, (by show qtys L ≤ 4096000000; omega)⟩).mono ?_
        rintro e' w' ⟨rfl, hc', hk⟩
        refine ⟨rfl, ⟨_, _, _, _, hc', hr.gone h1 h2 hS'.1 hS'.2, by rw [hS'.1]; exact hl⟩, hk.more (LF_of _ _ _)⟩
      · rw [if_neg hall]
        refine (take_less hc e.slot n _ _ hi hn hie hqe rfl rfl qty (by omega) (by show qty < e.qty; omega) (by show e.qty ≤ 1000000; omega) ⟨hqm, (by show qtys L ≤ 4096000000; omega)⟩).mono ?_
        rintro e' w' ⟨rfl, hc', hk⟩
        refine ⟨rfl, ⟨_, _, _, _, hc', ?_, by simp; exact hl⟩, hk.more (LF_of _ _ _)⟩
        have := hr.turn h1 h2 (e.qty - qty) e.top (by omega)
        rw [show qtys L + (e.qty - qty) - e.qty = qtys L - qty by omega] at this
        exact this

theorem la_list (h : LA w pb sb qa room A) (n : Int) (h0 : 0 ≤ n) (hn : n < A.length) :
    Calls Try.prog 17 #[.pointer (some ⟨pb, 0, none⟩), .int .i64 n] w (RowBack w.heap.size 33 4 (A.getD n.toNat []).length ((A.getD n.toNat []).flatMap Ent.cells) w) := by
  have hh := h
  obtain ⟨S, qc, Q, F, hc, hr, hl⟩ := h
  have hlen := hr.len
  have hroom := hc.room
  obtain ⟨n, rfl⟩ := Int.eq_ofNat_of_zero_le h0
  obtain ⟨L, hL⟩ : ∃ L, A[n]? = some L := ⟨_, List.getElem?_eq_getElem (by omega)⟩
  obtain ⟨qb, rfl⟩ := hh.row (by omega)
  have hsh := hr.short hL
  have hnx : ∀ j, nxt (L.map Ent.slot) j = sl L j := by
    intro j; unfold nxt sl; rw [List.getElem?_map]; cases L[j]? <;> rfl
  have := list_at hc n _ (getq hL hr.qs) (L.map Ent.slot) (by simp; omega) (hnx 0).symm (by
    intro j k hk
    rw [List.getElem?_map, Option.map_eq_some_iff] at hk
    obtain ⟨e, he, rfl⟩ := hk
    exact ⟨_, hr.at_ n j L e hL he, (hnx (j + 1)).symm⟩)
  have e1 : (L.map Ent.slot).flatMap (entAt S) = L.flatMap Ent.cells := by
    rw [List.flatMap_map]
    apply flatMap_same
    intro e he
    obtain ⟨j, hj, rfl⟩ := List.getElem_of_mem he
    unfold entAt
    rw [hr.at_ n j L _ hL (List.getElem?_eq_getElem hj)]
    rfl
  rw [List.length_map, e1] at this
  show Calls Try.prog 17 #[.pointer (some ⟨pb, 0, none⟩), .int .i64 (n : Int)] w _
  rw [Int.toNat_natCast, getD_of hL]
  exact this
theorem la_list_no (h : LA w pb sb qa room A) (n : Int) (hn : n < 0 ∨ (A.length : Int) ≤ n) :
    Calls Try.prog 17 #[.pointer (some ⟨pb, 0, none⟩), .int .i64 n] w fun e w' => e = .returned (.slice none 0 0) ∧ w = w' := by
  obtain ⟨S, qc, Q, F, hc, hr, hl⟩ := h
  have hlen := hr.len
  exact list_no hc n (by omega)
end
end Go.Proofs.Ytbpmoomklknkkaa
