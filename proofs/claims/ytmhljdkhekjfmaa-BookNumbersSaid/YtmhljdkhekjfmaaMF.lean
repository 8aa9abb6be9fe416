/- Merged: BPl BInv BInv2 BInv3 BInv4 BInv5 BInv6 BInv7 Bok Ob. -/
import Derived.Test.YtmhljdkhekjfmaaME
/- What the arena's turns do, as maps over all queues. Plain lists; no program in sight. -/
namespace Go.Proofs.Ytmhljdkhekjfmaa
open Go.RowKit

/-- what an arena keeps -/
structure Wf (A : List (List Ent)) : Prop where
  inj : ∀ (n j n' j' : Nat) (L L' : List Ent) (e e' : Ent), A[n]? = some L → L[j]? = some e → A[n']? = some L' → L'[j']? = some e' → e.slot = e'.slot → n = n' ∧ j = j'
  qty : ∀ (n j : Nat) (L : List Ent) (e : Ent), A[n]? = some L → L[j]? = some e → 1 ≤ e.qty ∧ e.qty ≤ 1000000
  room : (A.map List.length).sum < 250 → ∃ r, leastFree 250 A = some r
theorem Wf.of {w : World} {ab sb : Nat} {qa : Option Addr} {A : List (List Ent)} (h : LA w ab sb qa 250 A) : Wf A := by
  obtain ⟨S, qc, Q, F, _, hr, hS⟩ := h
  refine ⟨hr.inj, hr.qty, fun hlt => ?_⟩
  cases hl : leastFree 250 A with
  | some r => exact ⟨r, rfl⟩
  | none =>
    exfalso
    have hall := least_none hl
    have hz : S.countP (fun s => !s.used) = 0 := by
      rw [List.countP_eq_zero]
      intro s hs
      obtain ⟨i, hi, rfl⟩ := List.getElem_of_mem hs
      rw [hr.used i hi, hall i (by omega)]
      simp
    have h1 := hr.free
    have h2 := hr.sum
    rw [hz] at h1
    omega
theorem getD_mem {A : List (List Ent)} {q : Nat} {e : Ent} (h : e ∈ A.getD q []) : ∃ (L : List Ent) (j : Nat), A[q]? = some L ∧ L[j]? = some e ∧ A.getD q [] = L := by
  rw [List.getD_eq_getElem?_getD] at h ⊢
  cases hq : A[q]? with
  | none => rw [hq] at h; simp at h
  | some L =>
    rw [hq] at h
    obtain ⟨j, hj, rfl⟩ := List.getElem_of_mem h
    exact ⟨L, j, rfl, by simp at hj ⊢, rfl⟩
theorem Wf.one {A : List (List Ent)} (h : Wf A) {q q' : Nat} {e e' : Ent} (he : e ∈ A.getD q []) (he' : e' ∈ A.getD q' []) (hs : e.slot = e'.slot) : q = q' ∧ e = e' := by
  obtain ⟨L, j, h1, h2, _⟩ := getD_mem he
  obtain ⟨L', j', h1', h2', _⟩ := getD_mem he'
  obtain ⟨rfl, rfl⟩ := h.inj _ _ _ _ _ _ _ _ h1 h2 h1' h2' hs
  rw [h1] at h1'
  injection h1' with h3
  subst h3
  rw [h2] at h2'
  injection h2' with h3
  exact ⟨rfl, h3⟩
theorem Wf.q {A : List (List Ent)} (h : Wf A) {q : Nat} {e : Ent} (he : e ∈ A.getD q []) : 1 ≤ e.qty ∧ e.qty ≤ 1000000 := by
  obtain ⟨L, j, h1, h2, _⟩ := getD_mem he
  exact h.qty _ _ _ _ h1 h2
theorem getD_map {A : List (List Ent)} (g : List Ent → List Ent) (hg : g [] = []) (q : Nat) : (A.map g).getD q [] = g (A.getD q []) := by
  simp only [List.getD_eq_getElem?_getD, List.getElem?_map]
  cases A[q]? with
  | none => exact hg.symm
  | some L => rfl
theorem getD_set {A : List (List Ent)} {q : Nat} {L : List Ent} (hq : q < A.length) (q' : Nat) : (A.set q L).getD q' [] = if q' = q then L else A.getD q' [] := by
  simp only [List.getD_eq_getElem?_getD, List.getElem?_set]
  split
  · rename_i h
    subst h
    rw [if_pos rfl]; rfl
  · rename_i h
    rw [if_neg (fun h2 => h h2.symm)]
/-- one entry turned -/
def turnA (A : List (List Ent)) (i : Int) (f : Ent → Ent) : List (List Ent) := A.map (fun L => L.map (fun e => if (e.slot : Int) = i then f e else e))
def goneA (A : List (List Ent)) (i : Int) : List (List Ent) := A.map (fun L => L.filter (fun e => decide ((e.slot : Int) ≠ i)))
theorem turn_none {A : List (List Ent)} {i : Int} (h : findA A i = none) (f : Ent → Ent) : turnA A i f = A := by
  have hn := findA_none h
  unfold turnA
  conv => rhs; rw [← List.map_id A]
  refine List.map_congr_left fun L hL => ?_
  obtain ⟨n, hn1, rfl⟩ := List.getElem_of_mem hL
  conv => rhs; rw [id, ← List.map_id (A[n])]
  refine List.map_congr_left fun e he => ?_
  obtain ⟨j, hj, rfl⟩ := List.getElem_of_mem he
  have h3 := hn n j _ _ (List.getElem?_eq_getElem hn1) (List.getElem?_eq_getElem hj)
  rw [if_neg (fun h4 => h3 h4.symm)]; rfl
theorem turn_some {A : List (List Ent)} (hw : Wf A) {i : Int} {n j : Nat} {e : Ent} (h : findA A i = some (n, j, e)) (f : Ent → Ent) : A.set n ((A.getD n []).set j (f e)) = turnA A i f := by
  obtain ⟨L, h1, h2, h3⟩ := findA_some h
  rw [getD_of h1]
  apply List.ext_getElem?
  intro n'
  unfold turnA
  rw [List.getElem?_map, List.getElem?_set]
  by_cases hn : n = n'
  · subst hn
    rw [if_pos rfl, if_pos (lt_of_get h1), h1]
    refine congrArg some ?_
    apply List.ext_getElem?
    intro j'
    rw [List.getElem?_map, List.getElem?_set]
    by_cases hj : j = j'
    · subst hj
      rw [if_pos rfl, if_pos (lt_of_get h2), h2]
      simp [h3]
    · rw [if_neg hj]
      cases hc : L[j']? with
      | none => rfl
      | some e' =>
        have : ¬ (e'.slot : Int) = i := fun h4 => hj (hw.inj _ _ _ _ _ _ _ _ h1 h2 h1 hc (by omega)).2
        simp [this]
  · rw [if_neg hn]
    cases hc : A[n']? with
    | none => rfl
    | some L' =>
      refine congrArg some ?_
      conv => lhs; rw [← List.map_id L']
      refine List.map_congr_left fun e' he' => ?_
      obtain ⟨j', hj', rfl⟩ := List.getElem_of_mem he'
      have : ¬ ((L'[j']).slot : Int) = i := fun h4 => hn (hw.inj _ _ _ _ _ _ _ _ h1 h2 hc (List.getElem?_eq_getElem hj') (by omega)).1
      rw [if_neg this]; rfl
theorem filter_idx {α : Type} (p : α → Bool) : ∀ (L : List α) (j : Nat), j < L.length → (∀ (k : Nat) (e : α), L[k]? = some e → (p e = false ↔ k = j)) → L.filter p = L.eraseIdx j := by
  intro L
  induction L with
  | nil => intro j hj; simp at hj
  | cons x L ih =>
    intro j hj h
    cases j with
    | zero =>
      have h0 := (h 0 x rfl).2 rfl
      rw [List.filter_cons_of_neg (by simp [h0])]
      rw [List.eraseIdx_cons_zero, List.filter_eq_self]
      intro y hy
      obtain ⟨k, hk, rfl⟩ := List.getElem_of_mem hy
      have h1 := h (k + 1) (L[k]) (by simp [hk])
      cases hp : p L[k] with
      | true => rfl
      | false => have := h1.1 hp; omega
    | succ j =>
      have h0 : p x = true := by
        cases hp : p x with
        | true => rfl
        | false => have := (h 0 x rfl).1 hp; omega
      rw [List.filter_cons_of_pos h0, List.eraseIdx_cons_succ, ih j (by simpa using hj)]
      intro k e hk
      have h1 := h (k + 1) e (by simpa using hk)
      rw [h1]; omega
theorem gone_some {A : List (List Ent)} (hw : Wf A) {i : Int} {n j : Nat} {e : Ent} (h : findA A i = some (n, j, e)) : A.set n ((A.getD n []).eraseIdx j) = goneA A i := by
  obtain ⟨L, h1, h2, h3⟩ := findA_some h
  rw [getD_of h1]
  apply List.ext_getElem?
  intro n'
  unfold goneA
  rw [List.getElem?_map, List.getElem?_set]
  by_cases hn : n = n'
  · subst hn
    rw [if_pos rfl, if_pos (lt_of_get h1), h1]
    refine congrArg some ?_
    refine (filter_idx (fun e => decide ((e.slot : Int) ≠ i)) L j (lt_of_get h2) ?_).symm
    intro k e' hk
    simp only [ne_eq, decide_not, Bool.not_eq_false', decide_eq_true_eq]
    constructor
    · intro h4; exact (hw.inj _ _ _ _ _ _ _ _ h1 hk h1 h2 (by omega)).2
    · rintro rfl
      rw [h2] at hk; injection hk with hk; subst hk; exact h3.symm
  · rw [if_neg hn]
    cases hc : A[n']? with
    | none => rfl
    | some L' =>
      refine congrArg some ?_
      rw [eq_comm, List.filter_eq_self]
      intro e' he'
      obtain ⟨j', hj', rfl⟩ := List.getElem_of_mem he'
      have : ¬ ((L'[j']).slot : Int) = i := fun h4 => hn (hw.inj _ _ _ _ _ _ _ _ h1 h2 hc (List.getElem?_eq_getElem hj') (by omega)).1
      simpa using this
theorem topA_eq {A : List (List Ent)} (hw : Wf A) (i : Int) (t : Bool) : (topA A i t).1 = turnA A i (fun e => { e with top := t }) := by
  unfold topA
  cases h : findA A i with
  | none => exact (turn_none h _).symm
  | some x =>
    obtain ⟨n, j, e⟩ := x
    exact turn_some hw h (fun e => { e with top := t })
/-- what is found -/
theorem found_mem {A : List (List Ent)} {i : Int} {n j : Nat} {e : Ent} (h : findA A i = some (n, j, e)) : e ∈ A.getD n [] ∧ i = (e.slot : Int) := by
  obtain ⟨L, h1, h2, h3⟩ := findA_some h
  rw [getD_of h1]
  exact ⟨List.mem_of_getElem? h2, h3⟩
theorem find_of {A : List (List Ent)} (hw : Wf A) {q : Nat} {e : Ent} (he : e ∈ A.getD q []) : ∃ j, findA A (e.slot : Int) = some (q, j, e) := by
  cases h : findA A (e.slot : Int) with
  | none =>
    obtain ⟨L, j, h1, h2, _⟩ := getD_mem he
    exact absurd rfl (findA_none h _ _ _ _ h1 h2)
  | some x =>
    obtain ⟨n, j, e'⟩ := x
    obtain ⟨h1, h2⟩ := found_mem h
    obtain ⟨rfl, rfl⟩ := hw.one he h1 (by omega)
    exact ⟨j, rfl⟩
theorem entE_of {A : List (List Ent)} (hw : Wf A) {q : Nat} {e : Ent} (he : e ∈ A.getD q []) : entE A e.slot = e := by
  obtain ⟨j, h⟩ := find_of hw he
  unfold entE
  rw [h]
theorem take_bad {A : List (List Ent)} (hw : Wf A) {q : Nat} {e : Ent} (he : e ∈ A.getD q []) {x : Int} (hx : x < 1 ∨ e.qty < x) : takeA A e.slot x = (A, 24) := by
  obtain ⟨j, h⟩ := find_of hw he
  unfold takeA
  rw [h]
  exact if_pos hx
theorem take_all_eq {A : List (List Ent)} (hw : Wf A) {q : Nat} {e : Ent} (he : e ∈ A.getD q []) {x : Int} (hx : ¬ (x < 1 ∨ e.qty < x)) (hq : e.qty = x) : takeA A e.slot x = (goneA A e.slot, 0) := by
  obtain ⟨j, h⟩ := find_of hw he
  unfold takeA
  rw [h, ← gone_some hw h]
  dsimp only
  rw [if_neg hx, if_pos hq]
theorem take_less_eq {A : List (List Ent)} (hw : Wf A) {q : Nat} {e : Ent} (he : e ∈ A.getD q []) {x : Int} (hx : ¬ (x < 1 ∨ e.qty < x)) (hq : ¬ e.qty = x) : takeA A e.slot x = (turnA A e.slot (fun e => { e with qty := e.qty - x }), 0) := by
  obtain ⟨j, h⟩ := find_of hw he
  unfold takeA
  rw [h, ← turn_some hw h]
  dsimp only
  rw [if_neg hx, if_neg hq]
theorem sum_turn (A : List (List Ent)) (i : Int) (f : Ent → Ent) : ((turnA A i f).map List.length) = A.map List.length := by
  unfold turnA
  rw [List.map_map]
  refine List.map_congr_left fun L _ => ?_
  simp
theorem getD_turn (A : List (List Ent)) (i : Int) (f : Ent → Ent) (q : Nat) : (turnA A i f).getD q [] = (A.getD q []).map (fun e => if (e.slot : Int) = i then f e else e) := getD_map _ rfl q
theorem getD_gone (A : List (List Ent)) (i : Int) (q : Nat) : (goneA A i).getD q [] = (A.getD q []).filter (fun e => decide ((e.slot : Int) ≠ i)) := getD_map (fun L => L.filter (fun e => decide ((e.slot : Int) ≠ i))) rfl q
theorem sum_gone {A : List (List Ent)} (hw : Wf A) {q : Nat} {e : Ent} (he : e ∈ A.getD q []) : ((goneA A e.slot).map List.length).sum + 1 = (A.map List.length).sum := by
  obtain ⟨j, h⟩ := find_of hw he
  rw [← gone_some hw h]
  obtain ⟨L, h1, h2, _⟩ := findA_some h
  have h4 := len_one q L ((A.getD q []).eraseIdx j) h1
  rw [getD_of h1] at h4 ⊢
  rw [List.length_eraseIdx] at h4
  have := lt_of_get h2
  simp only [this, if_true] at h4
  omega
end Go.Proofs.Ytmhljdkhekjfmaa

/- What a book keeps; turns that leave rungs and map as they are. Plain lists. -/
namespace Go.Proofs.Ytmhljdkhekjfmaa
open Go.RowKit

def ordL (a : BA) : List Od := ordR a.A 1 (a.R 1) ++ ordR a.A 2 (a.R 2)
theorem ordsL_abs (d : BD) : ordsL d = ordL d.abs := rfl
def qsB (a : BA) : List Nat := (a.R 1).map Rg.q ++ (a.R 2).map Rg.q
/-- what a book keeps; the queue x may be empty -/
structure InvX (x : Option Nat) (a : BA) : Prop where
  srt : ∀ s, s = 1 ∨ s = 2 → (a.R s).Pairwise (fun x y => betterP s x.price y.price = true)
  nod : (qsB a ++ a.sp).Nodup
  lt : ∀ q ∈ qsB a ++ a.sp, q < a.A.length
  cov : a.A.length = (qsB a ++ a.sp).length
  live : ∀ q ∈ qsB a, some q ≠ x → a.A.getD q [] ≠ []
  dead : ∀ q, q ∉ qsB a → a.A.getD q [] = []
  tot : (a.A.map List.length).sum = (ordL a).length
  keys : (a.M.map (fun x => x.1)).Perm ((ordL a).map Od.id)
  ids : ((ordL a).map Od.id).Nodup
  pl : ∀ id p, lookPl a.M id = some p → (p.side = 1 ∨ p.side = 2) ∧ ∃ r ∈ a.R p.side, r.price = p.price ∧ ∃ e ∈ a.A.getD r.q [], e.id = id ∧ (e.slot : Int) = p.slot
  eid : ∀ (q q' : Nat) (e e' : Ent), e ∈ a.A.getD q [] → e' ∈ a.A.getD q' [] → e.id = e'.id → e.slot = e'.slot
  tops : ∀ o ∈ ordL a, o.top = (a.h o.side && a.t o.side == o.id)
  len : (ordL a).length ≤ 250
  small : a.A.length ≤ 250
abbrev Inv (a : BA) : Prop := InvX none a
def Led (a : BA) : Prop := ∀ s, s = 1 ∨ s = 2 → a.h s = true → ∃ p, lookPl a.M (a.t s) = some p ∧ p.side = s
theorem mem_ordR {A : List (List Ent)} {s : Int} {R : List Rg} {o : Od} : o ∈ ordR A s R ↔ ∃ r ∈ R, ∃ e ∈ A.getD r.q [], ordO s r.price e = o := by
  unfold ordR ordQ
  simp only [List.mem_flatMap, List.mem_map]
theorem mem_ordL {a : BA} {o : Od} : o ∈ ordL a ↔ ∃ s, (s = 1 ∨ s = 2) ∧ ∃ r ∈ a.R s, ∃ e ∈ a.A.getD r.q [], ordO s r.price e = o := by
  unfold ordL
  rw [List.mem_append, mem_ordR, mem_ordR]
  constructor
  · rintro (h | h)
    · exact ⟨1, .inl rfl, h⟩
    · exact ⟨2, .inr rfl, h⟩
  · rintro ⟨s, rfl | rfl, h⟩
    · exact .inl h
    · exact .inr h
theorem side_ordL {a : BA} {o : Od} (h : o ∈ ordL a) : o.side = 1 ∨ o.side = 2 := by
  obtain ⟨s, hs, r, _, e, _, rfl⟩ := mem_ordL.1 h
  exact hs
theorem look_mem {M : List (Int × Pl)} {id : Int} {p : Pl} (h : lookPl M id = some p) : (id, p) ∈ M := by
  unfold lookPl at h
  cases hf : M.find? (fun x => x.1 == id) with
  | none => rw [hf] at h; cases h
  | some x =>
    rw [hf] at h
    have h1 := List.mem_of_find?_eq_some hf
    have h2 := List.find?_some hf
    have h3 : x.1 = id := by simpa using h2
    injection h with h
    rw [← h3, ← h]; exact h1
theorem look_isSome {M : List (Int × Pl)} {id : Int} : (lookPl M id).isSome = true ↔ id ∈ M.map (fun x => x.1) := by
  unfold lookPl
  rw [Option.isSome_map, List.find?_isSome, List.mem_map]
  constructor
  · rintro ⟨x, h1, h2⟩; exact ⟨x, h1, by simpa using h2⟩
  · rintro ⟨x, h1, h2⟩; exact ⟨x, h1, by simpa using h2⟩
theorem rung_q {a : BA} {s : Int} (hs : s = 1 ∨ s = 2) {r : Rg} (h : r ∈ a.R s) : r.q ∈ qsB a := by
  unfold qsB
  rw [List.mem_append]
  rcases hs with rfl | rfl
  · exact .inl (List.mem_map_of_mem h)
  · exact .inr (List.mem_map_of_mem h)
theorem InvX.look {x : Option Nat} {a : BA} (h : InvX x a) (id : Int) : (lookPl a.M id).isSome = true ↔ ∃ o ∈ ordL a, o.id = id := by
  rw [look_isSome, h.keys.mem_iff, List.mem_map]
theorem InvX.count {x : Option Nat} {a : BA} (h : InvX x a) : a.M.length = (ordL a).length := by
  have := h.keys.length_eq
  simpa using this
theorem InvX.one {z : Option Nat} {a : BA} (h : InvX z a) {x y : Od} (hx : x ∈ ordL a) (hy : y ∈ ordL a) (he : x.id = y.id) : x = y := by
  have hn := h.ids
  obtain ⟨i, hi, rfl⟩ := List.getElem_of_mem hx
  obtain ⟨j, hj, rfl⟩ := List.getElem_of_mem hy
  have hp := List.pairwise_iff_getElem.1 hn
  simp only [List.length_map, List.getElem_map] at hp
  rcases Nat.lt_trichotomy i j with h1 | h1 | h1
  · exact absurd he (hp i j hi hj h1)
  · subst h1; rfl
  · exact absurd he.symm (hp j i hj hi h1)
/-- an order that stands, and where -/
theorem InvX.at_ {x : Option Nat} {a : BA} (h : InvX x a) {id : Int} {p : Pl} (hp : lookPl a.M id = some p) {o : Od} (ho : o ∈ ordL a) (hid : o.id = id) : ∃ r ∈ a.R p.side, r.price = p.price ∧ ∃ e ∈ a.A.getD r.q [], e.id = id ∧ (e.slot : Int) = p.slot ∧ o = ordO p.side p.price e := by
  obtain ⟨hs, r, hr, hrp, e, he, hei, hes⟩ := h.pl id p hp
  refine ⟨r, hr, hrp, e, he, hei, hes, ?_⟩
  refine h.one ho (mem_ordL.2 ⟨p.side, hs, r, hr, e, he, by rw [hrp]⟩) ?_
  rw [hid]; exact hei.symm
theorem ordR_remap {A A' : List (List Ent)} {s : Int} {R : List Rg} (f : Ent → Ent) (F : Od → Od) (hA : ∀ r ∈ R, A'.getD r.q [] = (A.getD r.q []).map f) (hF : ∀ r ∈ R, ∀ e ∈ A.getD r.q [], ordO s r.price (f e) = F (ordO s r.price e)) : ordR A' s R = (ordR A s R).map F := by
  unfold ordR
  rw [List.map_flatMap]
  refine flatMap_same fun r hr => ?_
  unfold ordQ
  rw [hA r hr, List.map_map, List.map_map]
  exact List.map_congr_left fun e he => hF r hr e he
theorem InvX.remap {x : Option Nat} {a a' : BA} (h : InvX x a) (hR : ∀ s, a'.R s = a.R s) (hM : a'.M = a.M) (hsp : a'.sp = a.sp) (f : Ent → Ent) (hf : ∀ e, (f e).slot = e.slot ∧ (f e).id = e.id) (hA : ∀ q, a'.A.getD q [] = (a.A.getD q []).map f) (hl : a'.A.map List.length = a.A.map List.length) (F : Od → Od)
    (hF : ∀ s, s = 1 ∨ s = 2 → ∀ r ∈ a.R s, ∀ e ∈ a.A.getD r.q [], ordO s r.price (f e) = F (ordO s r.price e)) (ht : ∀ o ∈ ordL a, (F o).top = (a'.h (F o).side && a'.t (F o).side == (F o).id)) : InvX x a' ∧ ordL a' = (ordL a).map F := by
  have ho : ordL a' = (ordL a).map F := by
    unfold ordL
    rw [List.map_append, hR, hR, ordR_remap f F (fun r _ => hA r.q) (hF 1 (.inl rfl)), ordR_remap f F (fun r _ => hA r.q) (hF 2 (.inr rfl))]
  have hq : qsB a' = qsB a := by unfold qsB; rw [hR, hR]
  have hlen : a'.A.length = a.A.length := by
    have := congrArg List.length hl
    simpa using this
  have hids : ((ordL a).map F).map Od.id = (ordL a).map Od.id := by
    rw [List.map_map]
    refine List.map_congr_left fun o hmo => ?_
    obtain ⟨s, hs, r, hr, e, he, rfl⟩ := mem_ordL.1 hmo
    show (F _).id = _
    rw [← hF s hs r hr e he]
    exact (hf e).2
  refine ⟨⟨fun s hs => by rw [hR]; exact h.srt s hs, by rw [hq, hsp]; exact h.nod, by rw [hq, hsp, hlen]; exact h.lt, by rw [hq, hsp, hlen]; exact h.cov, ?_, ?_, ?_, ?_, ?_, ?_, ?_, ?_, ?_, by rw [hlen]; exact h.small⟩, ho⟩
  · intro q hqm hqx
    rw [hq] at hqm
    rw [hA]
    have := h.live q hqm hqx
    simpa using this
  · intro q hqm
    rw [hq] at hqm
    rw [hA, h.dead q hqm]; rfl
  · rw [hl, ho, List.length_map]; exact h.tot
  · rw [hM, ho, hids]; exact h.keys
  · rw [ho, hids]; exact h.ids
  · intro id p hp
    rw [hM] at hp
    obtain ⟨hs, r, hr, hrp, e, he, hei, hes⟩ := h.pl id p hp
    refine ⟨hs, r, by rw [hR]; exact hr, hrp, f e, by rw [hA]; exact List.mem_map_of_mem he, by rw [(hf e).2]; exact hei, by rw [(hf e).1]; exact hes⟩
  · intro q q' e e' he he' hee
    rw [hA, List.mem_map] at he he'
    obtain ⟨x, hx, rfl⟩ := he
    obtain ⟨y, hy, rfl⟩ := he'
    rw [(hf x).1, (hf y).1]
    exact h.eid q q' x y hx hy (by rw [← (hf x).2, ← (hf y).2]; exact hee)
  · intro o hmo
    rw [ho, List.mem_map] at hmo
    obtain ⟨o', h1, rfl⟩ := hmo
    exact ht o' h1
  · rw [ho, List.length_map]; exact h.len
def untop (side : Int) (o : Od) : Od := if o.side = side then { o with top := false } else o
theorem setTH_R (a : BA) (side id s : Int) (b : Bool) : ((a.setT side id).setH side b).R s = a.R s := by
  unfold BA.setT BA.setH
  split <;> rfl
theorem setTH_h (a : BA) {side s : Int} (hs : side = 1 ∨ side = 2) (hs' : s = 1 ∨ s = 2) (id : Int) (b : Bool) : ((a.setT side id).setH side b).h s = if s = side then b else a.h s := by
  rcases hs with rfl | rfl <;> rcases hs' with rfl | rfl <;> rfl
theorem setTH_t (a : BA) {side s : Int} (hs : side = 1 ∨ side = 2) (hs' : s = 1 ∨ s = 2) (id : Int) (b : Bool) : ((a.setT side id).setH side b).t s = if s = side then id else a.t s := by
  rcases hs with rfl | rfl <;> rcases hs' with rfl | rfl <;> rfl
theorem lead_eq (a : BA) (id side : Int) : (leadB a id side).M = a.M ∧ (leadB a id side).sp = a.sp ∧ (leadB a id side).A = (if a.h side = true then oldA a.A (lookPl a.M (a.t side)) side else a.A) ∧ (∀ s, (leadB a id side).R s = a.R s) := by
  obtain ⟨h1, h2, _, h4⟩ := lead_keeps a id side
  refine ⟨h1, h2, ?_, h4⟩
  unfold leadB BA.setT BA.setH
  split <;> rfl
theorem InvX.lead {x : Option Nat} {a : BA} (h : InvX x a) (hl : Led a) (hw : Wf a.A) {side : Int} (hs : side = 1 ∨ side = 2) {id : Int} (hid : lookPl a.M id = none) : InvX x (leadB a id side) ∧ ordL (leadB a id side) = (ordL a).map (untop side) := by
  obtain ⟨e1, e2, e3, e4⟩ := lead_eq a id side
  have hnid : ∀ o ∈ ordL a, o.id ≠ id := by
    intro o ho he
    have := (h.look id).2 ⟨o, ho, he⟩
    rw [hid] at this; cases this
  have htops : ∀ o ∈ ordL a, (untop side o).top = ((leadB a id side).h (untop side o).side && (leadB a id side).t (untop side o).side == (untop side o).id) := by
    intro o ho
    have hso := side_ordL ho
    have hus : (untop side o).side = o.side := by unfold untop; split <;> rfl
    have hui : (untop side o).id = o.id := by unfold untop; split <;> rfl
    rw [hus, hui]
    unfold leadB
    rw [setTH_h _ hs hso, setTH_t _ hs hso]
    by_cases hc : o.side = side
    · rw [if_pos hc, if_pos hc]
      have : (id == o.id) = false := by rw [beq_eq_false_iff_ne]; exact fun h => hnid o ho h.symm
      rw [this]
      unfold untop
      rw [if_pos hc]; rfl
    · rw [if_neg hc, if_neg hc]
      unfold untop
      rw [if_neg hc]
      exact h.tops o ho
  by_cases hh : a.h side = true
  · obtain ⟨p, hp, hps⟩ := hl side hs hh
    have hA : (leadB a id side).A = turnA a.A p.slot (fun e => { e with top := false }) := by
      rw [e3, if_pos hh, hp, oldA_yes hps, topA_eq hw]
    refine h.remap e4 e1 e2 (fun e => if (e.slot : Int) = p.slot then { e with top := false } else e) (fun e => by split <;> exact ⟨rfl, rfl⟩) (fun q => by rw [hA, getD_turn]) (by rw [hA, sum_turn]) (untop side) ?_ htops
    intro s hs' r hr e he
    have hmo := mem_ordL.2 ⟨s, hs', r, hr, e, he, rfl⟩
    have hto := h.tops _ hmo
    obtain ⟨_, r0, hr0, hrp0, e0, he0, hei0, hes0⟩ := h.pl _ _ hp
    by_cases hc : (e.slot : Int) = p.slot
    · rw [if_pos hc]
      obtain ⟨hq, rfl⟩ := hw.one he he0 (by omega)
      have : ordO s r.price e = ordO p.side p.price e := by
        obtain ⟨r1, hr1, hrp1, e1', he1', hei1, hes1, h5⟩ := h.at_ hp hmo hei0
        obtain ⟨_, rfl⟩ := hw.one he he1' (by omega)
        exact h5
      have hsd : s = side := by
        have h6 := congrArg Od.side this
        exact h6.trans hps
      unfold untop ordO
      dsimp only
      rw [if_pos hsd]
    · rw [if_neg hc]
      unfold untop
      by_cases hsd : (ordO s r.price e).side = side
      · rw [if_pos hsd]
        have h7 : (ordO s r.price e).top = false := by
          rw [hto, hsd, hh]
          have h8 : ¬ a.t side = (ordO s r.price e).id := by
            intro h9
            exact hc ((congrArg (fun n : Nat => (n : Int)) (h.eid _ _ e e0 he he0 (h9.symm.trans hei0.symm))).trans hes0)
          simp [h8]
        rw [show (ordO s r.price e) = { (ordO s r.price e) with top := (ordO s r.price e).top } from rfl, h7]
      · rw [if_neg hsd]
  · have hA : (leadB a id side).A = a.A := by rw [e3, if_neg hh]
    refine h.remap e4 e1 e2 (fun e => e) (fun e => ⟨rfl, rfl⟩) (fun q => by rw [hA, List.map_id']) (by rw [hA]) (untop side) ?_ htops
    intro s hs' r hr e he
    have hmo := mem_ordL.2 ⟨s, hs', r, hr, e, he, rfl⟩
    have hto := h.tops _ hmo
    unfold untop
    by_cases hsd : (ordO s r.price e).side = side
    · rw [if_pos hsd]
      have h7 : (ordO s r.price e).top = false := by
        rw [hto, hsd]
        simp [hh]
      rw [show (ordO s r.price e) = { (ordO s r.price e) with top := (ordO s r.price e).top } from rfl, h7]
    · rw [if_neg hsd]
end Go.Proofs.Ytmhljdkhekjfmaa

/- Fill: what it does to the document's list. Plain lists. -/
namespace Go.Proofs.Ytmhljdkhekjfmaa
open Go.RowKit

/-! ### finding, after a turn -/
theorem findL_map (f : Ent → Ent) (hf : ∀ e, (f e).slot = e.slot) (i : Nat) : ∀ (L : List Ent) (j : Nat), findL (L.map f) i j = (findL L i j).map (fun x => (x.1, f x.2)) := by
  intro L
  induction L with
  | nil => intro j; rfl
  | cons e L ih =>
    intro j
    simp only [List.map_cons, findL, hf, ih]
    split <;> rfl
theorem findQ_map (f : Ent → Ent) (hf : ∀ e, (f e).slot = e.slot) (i : Nat) : ∀ (A : List (List Ent)) (n : Nat), findQ (A.map (List.map f)) i n = (findQ A i n).map (fun x => (x.1, x.2.1, f x.2.2)) := by
  intro A
  induction A with
  | nil => intro n; rfl
  | cons L A ih =>
    intro n
    simp only [List.map_cons, findQ, findL_map f hf]
    cases findL L i 0 with
    | none => exact ih _
    | some x => rfl
theorem findA_map (f : Ent → Ent) (hf : ∀ e, (f e).slot = e.slot) (A : List (List Ent)) (i : Int) : findA (A.map (List.map f)) i = (findA A i).map (fun x => (x.1, x.2.1, f x.2.2)) := by
  unfold findA
  split
  · rfl
  · exact findQ_map f hf _ _ _
theorem findL_gone (i : Nat) : ∀ (L : List Ent) (j : Nat), (∀ e ∈ L, e.slot ≠ i) → findL L i j = none := by
  intro L
  induction L with
  | nil => intro j _; rfl
  | cons e L ih =>
    intro j h
    unfold findL
    rw [if_neg (h e (List.mem_cons_self ..)), ih _ fun x hx => h x (List.mem_cons_of_mem _ hx)]
theorem findQ_gone (i : Nat) : ∀ (A : List (List Ent)) (n : Nat), (∀ L ∈ A, ∀ e ∈ L, e.slot ≠ i) → findQ A i n = none := by
  intro A
  induction A with
  | nil => intro n _; rfl
  | cons L A ih =>
    intro n h
    unfold findQ
    rw [findL_gone i L 0 (h L (List.mem_cons_self ..))]
    exact ih _ fun x hx => h x (List.mem_cons_of_mem _ hx)
theorem findA_gone (A : List (List Ent)) (i : Int) : findA (goneA A i) i = none := by
  unfold findA
  split
  · rfl
  · rename_i hi
    apply findQ_gone
    intro L hL e he
    unfold goneA at hL
    obtain ⟨L0, _, rfl⟩ := List.mem_map.1 hL
    have := (List.mem_filter.1 he).2
    simp only [decide_eq_true_eq] at this
    omega
/-! ### rungs -/
theorem better_irr (s x : Int) : betterP s x x = false := by
  unfold betterP
  split <;> simp
theorem fnd_at {R : List Rg} {s : Int} (hp : R.Pairwise (fun x y => betterP s x.price y.price = true)) {n : Nat} {r : Rg} (hr : R[n]? = some r) : fnd R s r.price = (n, true) := by
  have hn := lt_of_get hr
  have ha : ahead R s r.price = n := by
    refine ahead_eq (Nat.le_of_lt hn) ?_ ?_
    · intro j x hj hx
      have hj2 := lt_of_get hx
      have := List.pairwise_iff_getElem.1 hp j n hj2 hn hj
      rw [List.getElem?_eq_getElem hj2] at hx
      rw [List.getElem?_eq_getElem hn] at hr
      injection hx with hx
      injection hr with hr
      rw [← hx, ← hr]; exact this
    · intro x hx
      rw [hr] at hx; injection hx with hx; rw [← hx]; exact better_irr s _
  unfold fnd
  rw [ha, hr]
  simp
def preL (a : BA) (s : Int) : List Od := if s = 2 then ordR a.A 1 (a.R 1) else []
def sufL (a : BA) (s : Int) : List Od := if s = 1 then ordR a.A 2 (a.R 2) else []
theorem ordL_split (a : BA) {s : Int} (hs : s = 1 ∨ s = 2) : ordL a = preL a s ++ ordR a.A s (a.R s) ++ sufL a s := by
  rcases hs with rfl | rfl
  · simp [ordL, preL, sufL]
  · simp [ordL, preL, sufL]
theorem setR_same (a : BA) {s : Int} (R : List Rg) : (a.setR s R).R s = R := by
  unfold BA.setR BA.R
  split <;> rfl
theorem setR_other (a : BA) {s t : Int} (hs : s = 1 ∨ s = 2) (ht : t = 1 ∨ t = 2) (hne : t ≠ s) (R : List Rg) : (a.setR s R).R t = a.R t := by
  rcases hs with rfl | rfl <;> rcases ht with rfl | rfl <;> first | rfl | exact absurd rfl hne
theorem setR_rest (a : BA) (s : Int) (R : List Rg) : (a.setR s R).A = a.A ∧ (a.setR s R).M = a.M ∧ (a.setR s R).sp = a.sp ∧ (∀ t, (a.setR s R).h t = a.h t) ∧ ∀ t, (a.setR s R).t t = a.t t := by
  unfold BA.setR
  split <;> exact ⟨rfl, rfl, rfl, fun _ => rfl, fun _ => rfl⟩
theorem pre_setR (a : BA) {s : Int} (hs : s = 1 ∨ s = 2) (R : List Rg) : preL (a.setR s R) s = preL a s ∧ sufL (a.setR s R) s = sufL a s := by
  rcases hs with rfl | rfl
  · exact ⟨rfl, rfl⟩
  · exact ⟨rfl, rfl⟩
/-- a rung more: its queue is one more -/
theorem qs_more (a : BA) {s : Int} (hs : s = 1 ∨ s = 2) (l1 l2 : List Rg) (r : Rg) : (qsB (a.setR s (l1 ++ r :: l2))).Perm (r.q :: qsB (a.setR s (l1 ++ l2))) := by
  rcases hs with rfl | rfl
  · show ((l1 ++ r :: l2).map Rg.q ++ a.R1.map Rg.q).Perm (r.q :: ((l1 ++ l2).map Rg.q ++ a.R1.map Rg.q))
    rw [List.map_append, List.map_append, List.map_cons, List.append_assoc, List.append_assoc, List.cons_append]
    exact List.perm_middle
  · show (a.R0.map Rg.q ++ (l1 ++ r :: l2).map Rg.q).Perm (r.q :: (a.R0.map Rg.q ++ (l1 ++ l2).map Rg.q))
    rw [List.map_append, List.map_append, List.map_cons, ← List.append_assoc, ← List.append_assoc]
    exact List.perm_middle
theorem setR_self (a : BA) {s : Int} {R : List Rg} (h : a.R s = R) : a.setR s R = a := by
  subst h
  unfold BA.setR BA.R
  split <;> rfl
theorem ordR_split (A : List (List Ent)) (s : Int) (l1 l2 : List Rg) (r : Rg) : ordR A s (l1 ++ r :: l2) = ordR A s l1 ++ ordQ A s r ++ ordR A s l2 := by
  unfold ordR
  rw [List.flatMap_append, List.flatMap_cons, List.append_assoc]
theorem ordR_app (A : List (List Ent)) (s : Int) (l1 l2 : List Rg) : ordR A s (l1 ++ l2) = ordR A s l1 ++ ordR A s l2 := by
  unfold ordR
  rw [List.flatMap_append]
/-- a rung whose queue is empty goes, or comes -/
theorem ordL_rung (a : BA) {s : Int} (hs : s = 1 ∨ s = 2) (l1 l2 : List Rg) (r : Rg) (he : a.A.getD r.q [] = []) : ordL (a.setR s (l1 ++ r :: l2)) = ordL (a.setR s (l1 ++ l2)) := by
  rw [ordL_split _ hs, ordL_split (a.setR s (l1 ++ l2)) hs, setR_same, setR_same, (setR_rest a s _).1, (setR_rest a s _).1, (pre_setR a hs _).1, (pre_setR a hs _).2, (pre_setR a hs _).1, (pre_setR a hs _).2, ordR_split, ordR_app]
  have : ordQ a.A s r = [] := by unfold ordQ; rw [he]; rfl
  rw [this, List.append_nil]
theorem look_of_mem : ∀ {M : List (Int × Pl)} {id : Int} {p : Pl}, (M.map (fun x => x.1)).Nodup → (id, p) ∈ M → lookPl M id = some p := by
  intro M
  induction M with
  | nil => intro id p _ h; simp at h
  | cons x M ih =>
    intro id p hn h
    rw [List.map_cons, List.nodup_cons] at hn
    unfold lookPl
    rcases List.mem_cons.1 h with h1 | h1
    · subst h1
      rw [List.find?_cons_of_pos (by simp)]; rfl
    · have hne : ¬ x.1 = id := fun h2 => hn.1 (by rw [h2]; exact List.mem_map_of_mem (f := fun x => x.1) h1)
      rw [List.find?_cons_of_neg (by simpa using hne)]
      exact ih hn.2 h1
/-- an order that is gone -/
theorem InvX.gone {a a' : BA} (h : Inv a) (hw : Wf a.A) {id : Int} {p : Pl} (hp : lookPl a.M id = some p) {r : Rg} (hr : r ∈ a.R p.side) {e : Ent} (he : e ∈ a.A.getD r.q []) (hei : e.id = id) (hes : (e.slot : Int) = p.slot)
    (hA : a'.A = goneA a.A p.slot) (hM : a'.M = dropPl a.M id) (hR : ∀ s, a'.R s = a.R s) (hsp : a'.sp = a.sp) (hht : ∀ o ∈ ordL a, o.id ≠ id → (a'.h o.side && a'.t o.side == o.id) = (a.h o.side && a.t o.side == o.id)) :
    InvX (some r.q) a' ∧ ordL a' = (ordL a).filter (fun o => decide (o.id ≠ id)) := by
  have hsame : ∀ q e', e' ∈ a.A.getD q [] → ((e'.slot : Int) = p.slot ↔ e'.id = id) := by
    intro q e' he'
    constructor
    · intro h1
      obtain ⟨_, rfl⟩ := hw.one he' he (by omega)
      exact hei
    · intro h1
      rw [h.eid _ _ e' e he' he (h1.trans hei.symm)]; exact hes
  have hro : ∀ s, ordR a'.A s (a.R s) = (ordR a.A s (a.R s)).filter (fun o => decide (o.id ≠ id)) := by
    intro s
    unfold ordR
    rw [List.filter_flatMap]
    refine flatMap_same fun x hx => ?_
    unfold ordQ
    rw [hA, getD_gone, List.filter_map]
    refine congrArg _ (List.filter_congr fun e' he' => ?_)
    have h1 := hsame _ e' he'
    show decide ((e'.slot : Int) ≠ p.slot) = decide (e'.id ≠ id)
    by_cases hc : e'.id = id
    · simp [hc, h1.2 hc]
    · have h2 : ¬ (e'.slot : Int) = p.slot := fun h3 => hc (h1.1 h3)
      simp [hc, h2]
  have ho : ordL a' = (ordL a).filter (fun o => decide (o.id ≠ id)) := by
    unfold ordL
    rw [List.filter_append, hR, hR, hro, hro]
  have hq : qsB a' = qsB a := by unfold qsB; rw [hR, hR]
  have hlen : a'.A.length = a.A.length := by rw [hA]; exact List.length_map _
  have hg : ∀ q, a'.A.getD q [] = (a.A.getD q []).filter (fun e => decide ((e.slot : Int) ≠ p.slot)) := fun q => by rw [hA, getD_gone]
  have hmo : ordO p.side r.price e ∈ ordL a := mem_ordL.2 ⟨p.side, (h.pl _ _ hp).1, r, hr, e, he, rfl⟩
  have hpk : (a.M.map (fun x => x.1)).Perm (id :: (dropPl a.M id).map (fun x => x.1)) := by
    have hmem : id ∈ a.M.map (fun x => x.1) := look_isSome.1 (by rw [hp]; rfl)
    have h1 : (dropPl a.M id).map (fun x => x.1) = (a.M.map (fun x => x.1)).erase id := by
      unfold dropPl
      rw [List.erase_eq_eraseP, List.eraseP_map]
      refine congrArg (List.map _) (congrArg (fun q => List.eraseP q a.M) (funext fun x => ?_))
      show (x.1 == id) = (id == x.1)
      rw [Bool.eq_iff_iff]
      simp only [beq_iff_eq]
      exact eq_comm
    rw [h1]
    exact List.perm_cons_erase hmem
  have hpo : ((ordL a).map Od.id).Perm (id :: (ordL a').map Od.id) := by
    have h2 : (ordL a').map Od.id = ((ordL a).map Od.id).erase id := by
      rw [ho, h.ids.erase_eq_filter, List.filter_map]
      refine congrArg _ (List.filter_congr fun x _ => ?_)
      simp only [Function.comp_apply, ne_eq, decide_not]
      rfl
    rw [h2]
    exact List.perm_cons_erase (List.mem_map.2 ⟨_, hmo, hei⟩)
  have hlo : (ordL a').length + 1 = (ordL a).length := by
    have := hpo.length_eq
    simp only [List.length_map, List.length_cons] at this
    omega
  refine ⟨⟨fun s hs => by rw [hR]; exact h.srt s hs, by rw [hq, hsp]; exact h.nod, by rw [hq, hsp, hlen]; exact h.lt, by rw [hq, hsp, hlen]; exact h.cov, ?_, ?_, ?_, ?_, ?_, ?_, ?_, ?_, ?_, by rw [hlen]; exact h.small⟩, ho⟩
  · intro q hqm hqx
    rw [hq] at hqm
    have h1 := h.live q hqm (by simp)
    have h2 : a'.A.getD q [] = a.A.getD q [] := by
      rw [hg, List.filter_eq_self]
      intro e' he'
      have : ¬ (e'.slot : Int) = p.slot := by
        intro h3
        obtain ⟨h4, _⟩ := hw.one he' he (by omega)
        exact hqx (by rw [h4])
      simpa using this
    rw [h2]; exact h1
  · intro q hqm
    rw [hq] at hqm
    rw [hg, h.dead q hqm]; rfl
  · have h1 := sum_gone hw he
    rw [hes] at h1
    rw [← hA] at h1
    have := h.tot
    omega
  · rw [hM]
    have h1 := (hpk.symm.trans (h.keys.trans hpo))
    exact (List.perm_cons id).1 h1
  · rw [ho]
    exact (h.ids).sublist ((List.filter_sublist ..).map _)
  · intro id' p' hp'
    rw [hM] at hp'
    have hne : id' ≠ id := by
      rintro rfl
      have h1 : id' ∈ (dropPl a.M id').map (fun x => x.1) := look_isSome.1 (by rw [hp']; rfl)
      have h2 := (hpk.nodup_iff.1 (h.keys.nodup_iff.2 h.ids))
      exact (List.nodup_cons.1 h2).1 h1
    have hp2 : lookPl a.M id' = some p' := by
      have hk := h.keys.nodup_iff.2 h.ids
      have h1 := look_mem hp'
      have h2 : (id', p') ∈ a.M := List.mem_of_mem_eraseP h1
      exact look_of_mem hk h2
    obtain ⟨hs', r', hr', hrp', e', he', hei', hes'⟩ := h.pl id' p' hp2
    refine ⟨hs', r', by rw [hR]; exact hr', hrp', e', ?_, hei', hes'⟩
    rw [hg, List.mem_filter]
    refine ⟨he', ?_⟩
    have : ¬ (e'.slot : Int) = p.slot := fun h3 => hne (hei'.symm.trans ((hsame _ e' he').1 h3))
    simpa using this
  · intro q q' e1 e2 h1 h2 h3
    rw [hg, List.mem_filter] at h1 h2
    exact h.eid q q' e1 e2 h1.1 h2.1 h3
  · intro o hmo'
    rw [ho, List.mem_filter] at hmo'
    rw [hht o hmo'.1 (by simpa using hmo'.2)]
    exact h.tops o hmo'.1
  · have := h.len
    omega
/-- a rung whose queue is empty goes -/
theorem InvX.unrung {a : BA} {s : Int} (hs : s = 1 ∨ s = 2) {n : Nat} {r : Rg} (h : InvX (some r.q) a) (hr : (a.R s)[n]? = some r) (he : a.A.getD r.q [] = []) :
    Inv (({ a with sp := a.sp ++ [r.q] } : BA).setR s ((a.R s).eraseIdx n)) ∧ ordL (({ a with sp := a.sp ++ [r.q] } : BA).setR s ((a.R s).eraseIdx n)) = ordL a := by
  have hn := lt_of_get hr
  have hR : a.R s = (a.R s).take n ++ r :: (a.R s).drop (n + 1) := by
    conv => lhs; rw [← List.take_append_drop n (a.R s)]
    rw [List.drop_eq_getElem_cons hn]
    rw [List.getElem?_eq_getElem hn] at hr
    injection hr with hr
    rw [hr]
  have hE : (a.R s).eraseIdx n = (a.R s).take n ++ (a.R s).drop (n + 1) := List.eraseIdx_eq_take_drop_succ ..
  obtain ⟨b, hb⟩ : ∃ b : BA, b = { a with sp := a.sp ++ [r.q] } := ⟨_, rfl⟩
  rw [← hb, hE]
  have hbR : ∀ t, b.R t = a.R t := fun t => by rw [hb]; rfl
  have hbA : b.A = a.A := by rw [hb]
  have hbM : b.M = a.M := by rw [hb]
  have hbs : b.sp = a.sp ++ [r.q] := by rw [hb]
  have hbh : ∀ t, b.h t = a.h t ∧ b.t t = a.t t := fun t => by rw [hb]; exact ⟨rfl, rfl⟩
  have hself : b.setR s ((a.R s).take n ++ r :: (a.R s).drop (n + 1)) = b := setR_self b (by rw [hbR]; exact hR)
  have hqa : qsB b = qsB a := by unfold qsB; rw [hbR, hbR]
  have hqp := qs_more b hs ((a.R s).take n) ((a.R s).drop (n + 1)) r
  rw [hself, hqa] at hqp
  have hob : ordL b = ordL a := by unfold ordL; rw [hbR, hbR, hbA]
  have ho := ordL_rung b hs ((a.R s).take n) ((a.R s).drop (n + 1)) r (by rw [hbA]; exact he)
  rw [hself, hob] at ho
  obtain ⟨x1, x2, x3, x4, x5⟩ := setR_rest b s ((a.R s).take n ++ (a.R s).drop (n + 1))
  obtain ⟨c, hc⟩ : ∃ c, b.setR s ((a.R s).take n ++ (a.R s).drop (n + 1)) = c := ⟨_, rfl⟩
  have hcs : c.R s = (a.R s).take n ++ (a.R s).drop (n + 1) := by rw [← hc]; exact setR_same b _
  have hco : ∀ t, (t = 1 ∨ t = 2) → t ≠ s → c.R t = a.R t := fun t ht hne => by rw [← hc, setR_other b hs ht hne]; exact hbR t
  rw [hc] at x1 x2 x3 x4 x5 ho hqp ⊢
  rw [hbA] at x1
  rw [hbM] at x2
  rw [hbs] at x3
  have hall : (qsB a ++ a.sp).Perm (qsB c ++ c.sp) := by
    rw [x3]
    refine (hqp.append_right _).trans ?_
    rw [List.cons_append, ← List.append_assoc]
    exact (List.perm_append_singleton _ _).symm
  refine ⟨⟨?_, hall.nodup_iff.1 h.nod, ?_, ?_, ?_, ?_, ?_, ?_, ?_, ?_, ?_, ?_, ?_, ?_⟩, ho.symm⟩
  · intro t ht
    by_cases hts : t = s
    · subst hts
      rw [hcs, ← hE]
      exact (h.srt t ht).sublist (List.eraseIdx_sublist ..)
    · rw [hco t ht hts]; exact h.srt t ht
  · intro q hq
    rw [x1]
    exact h.lt q (hall.mem_iff.2 hq)
  · rw [x1, h.cov]; exact hall.length_eq
  · intro q hq _
    rw [x1]
    have h1 : q ∈ qsB a := hqp.mem_iff.2 (List.mem_cons_of_mem _ hq)
    have h2 := h.nod
    have h3 : (r.q :: qsB c).Nodup := hqp.nodup_iff.1 (List.nodup_append.1 h2).1
    exact h.live q h1 (fun h4 => by
      injection h4 with h4
      subst h4
      exact (List.nodup_cons.1 h3).1 hq)
  · intro q hq
    rw [x1]
    by_cases hqr : q = r.q
    · subst hqr; exact he
    · refine h.dead q fun h1 => ?_
      rcases List.mem_cons.1 (hqp.mem_iff.1 h1) with h2 | h2
      · exact hqr h2
      · exact hq h2
  · rw [x1, ← ho]; exact h.tot
  · rw [x2, ← ho]; exact h.keys
  · rw [← ho]; exact h.ids
  · intro id p hp
    rw [x2] at hp
    obtain ⟨hs', r', hr', hrp', e', he', hei', hes'⟩ := h.pl id p hp
    refine ⟨hs', r', ?_, hrp', e', by rw [x1]; exact he', hei', hes'⟩
    by_cases hts : p.side = s
    · rw [hts] at hr' ⊢
      rw [hR, List.mem_append, List.mem_cons] at hr'
      rw [hcs, List.mem_append]
      rcases hr' with h1 | h1 | h1
      · exact .inl h1
      · subst h1
        rw [he] at he'; simp at he'
      · exact .inr h1
    · rw [hco _ hs' hts]; exact hr'
  · rw [x1]; exact h.eid
  · intro o hmo
    rw [← ho] at hmo
    rw [x4, x5, (hbh _).1, (hbh _).2]
    exact h.tops o hmo
  · rw [← ho]; exact h.len
  · rw [x1]; exact h.small
theorem InvX.full {a : BA} {q : Nat} (h : InvX (some q) a) (hq : a.A.getD q [] ≠ []) : Inv a :=
  ⟨h.srt, h.nod, h.lt, h.cov, fun x hx _ => by
    by_cases hc : x = q
    · rw [hc]; exact hq
    · exact h.live x hx (by simpa using hc), h.dead, h.tot, h.keys, h.ids, h.pl, h.eid, h.tops, h.len, h.small⟩
end Go.Proofs.Ytmhljdkhekjfmaa

/- Fill is what the document's Fill is. Plain lists. -/
namespace Go.Proofs.Ytmhljdkhekjfmaa
open Go.RowKit

def refFill (L : List Od) (id qty : Int) : List Od × Int :=
  match L.find? (fun o => o.id == id) with
  | none => (L, 26)
  | some o => if qty < 1 ∨ o.qty < qty then (L, 24) else if o.qty = qty then (L.filter (fun x => decide (x.id ≠ id)), 0) else (L.map (fun x => if x.id = id then { x with qty := x.qty - qty } else x), 0)
theorem refFill_none {L : List Od} {id qty : Int} (h : L.find? (fun o => o.id == id) = none) : refFill L id qty = (L, 26) := by unfold refFill; rw [h]
theorem refFill_some {L : List Od} {id qty : Int} {o : Od} (h : L.find? (fun o => o.id == id) = some o) : refFill L id qty = if qty < 1 ∨ o.qty < qty then (L, 24) else if o.qty = qty then (L.filter (fun x => decide (x.id ≠ id)), 0) else (L.map (fun x => if x.id = id then { x with qty := x.qty - qty } else x), 0) := by unfold refFill; rw [h]
theorem InvX.find_none {x : Option Nat} {a : BA} (h : InvX x a) {id : Int} (hn : lookPl a.M id = none) : (ordL a).find? (fun o => o.id == id) = none := by
  rw [List.find?_eq_none]
  intro o ho he
  have := (h.look id).2 ⟨o, ho, by simpa using he⟩
  rw [hn] at this; cases this
theorem InvX.find_some {x : Option Nat} {a : BA} (h : InvX x a) {id : Int} {o : Od} (ho : o ∈ ordL a) (hi : o.id = id) : (ordL a).find? (fun o => o.id == id) = some o := by
  cases hf : (ordL a).find? (fun o => o.id == id) with
  | none => exact absurd (by simpa using hi) (List.find?_eq_none.1 hf o ho)
  | some y =>
    have h1 := List.mem_of_find?_eq_some hf
    have h2 : y.id = id := by simpa using List.find?_some hf
    rw [h.one h1 ho (h2.trans hi.symm)]
theorem look_drop : ∀ {M : List (Int × Pl)} {id k : Int}, k ≠ id → lookPl (dropPl M id) k = lookPl M k := by
  intro M
  induction M with
  | nil => intro id k _; rfl
  | cons x M ih =>
    intro id k hk
    unfold dropPl
    by_cases hc : x.1 = id
    · rw [List.eraseP_cons_of_pos (by simpa using hc)]
      unfold lookPl
      rw [List.find?_cons_of_neg (by simpa using fun h => hk (h.symm.trans hc))]
    · rw [List.eraseP_cons_of_neg (by simpa using hc)]
      unfold lookPl
      by_cases hx : x.1 = k
      · rw [List.find?_cons_of_pos (by simpa using hx), List.find?_cons_of_pos (by simpa using hx)]
      · rw [List.find?_cons_of_neg (by simpa using hx), List.find?_cons_of_neg (by simpa using hx)]
        exact ih hk
theorem dropT_t (a : BA) (id side s : Int) : (dropT a id side).t s = a.t s := by
  unfold dropT BA.setH
  split
  · split <;> rfl
  · rfl
theorem dropT_M (a : BA) (id side : Int) : (dropT a id side).M = a.M := by
  unfold dropT BA.setH
  split
  · split <;> rfl
  · rfl
theorem dropT_h (a : BA) (id : Int) {side s : Int} (hs : side = 1 ∨ side = 2) (hs' : s = 1 ∨ s = 2) : (dropT a id side).h s = if s = side ∧ a.t side = id then false else a.h s := by
  unfold dropT
  by_cases h : a.h side = true ∧ a.t side = id
  · rw [if_pos h]
    by_cases hc : s = side
    · rw [if_pos ⟨hc, h.2⟩]
      subst hc
      rcases hs with rfl | rfl <;> rfl
    · rw [if_neg (fun h2 => hc h2.1)]
      rcases hs with rfl | rfl <;> rcases hs' with rfl | rfl <;> first | rfl | exact absurd rfl hc
  · rw [if_neg h]
    by_cases hc : s = side ∧ a.t side = id
    · rw [if_pos hc]
      obtain ⟨rfl, hc2⟩ := hc
      cases hh : a.h s with
      | false => rfl
      | true => exact absurd ⟨hh, hc2⟩ h
    · rw [if_neg hc]
theorem fill_sim {a : BA} (h : Inv a) (hl : Led a) (hw : Wf a.A) (id qty : Int) : Inv (fillB a id qty).1 ∧ Led (fillB a id qty).1 ∧ ordL (fillB a id qty).1 = (refFill (ordL a) id qty).1 ∧ (fillB a id qty).2 = (refFill (ordL a) id qty).2 := by
  cases hp : lookPl a.M id with
  | none =>
    rw [fillB_none hp, refFill_none (h.find_none hp)]
    exact ⟨h, hl, rfl, rfl⟩
  | some p =>
    obtain ⟨o, hmo, hoi⟩ := (h.look id).1 (by rw [hp]; rfl)
    obtain ⟨r, hr, hrp, e, he, hei, hes, hoe⟩ := h.at_ hp hmo hoi
    have hs := (h.pl _ _ hp).1
    have hq : o.qty = e.qty := by rw [hoe]; rfl
    rw [fillB_some hp, refFill_some (h.find_some hmo hoi), hq, ← hes]
    by_cases hb : qty < 1 ∨ e.qty < qty
    · rw [take_bad hw he hb, if_pos hb]
      exact ⟨h, hl, rfl, rfl⟩
    · rw [if_neg hb]
      by_cases hqq : e.qty = qty
      · rw [take_all_eq hw he hb hqq, if_pos hqq, findA_gone]
        dsimp only
        rw [if_pos rfl, if_neg (by simp)]
        obtain ⟨n, hn, hrn⟩ := List.getElem_of_mem hr
        have hrn' : (a.R p.side)[n]? = some r := by rw [List.getElem?_eq_getElem hn, hrn]
        have hfn := fnd_at (h.srt _ hs) hrn'
        rw [hrp] at hfn
        obtain ⟨b, hbb⟩ : ∃ b : BA, b = { a with A := goneA a.A e.slot } := ⟨_, rfl⟩
        have hbR : ∀ t, b.R t = a.R t := fun t => by rw [hbb]; rfl
        have hbA : b.A = goneA a.A e.slot := by rw [hbb]
        have hbM : b.M = a.M := by rw [hbb]
        have hbs : b.sp = a.sp := by rw [hbb]
        have hbh : ∀ t, b.h t = a.h t ∧ b.t t = a.t t := fun t => by rw [hbb]; exact ⟨rfl, rfl⟩
        rw [← hbb]
        have hdr := dropB_eq (a := b) (id := id) (x := p) (r := r) (by rw [hbR, hfn]; exact hrn')
        obtain ⟨c, hc⟩ : ∃ c : BA, c = dropT { b with M := dropPl b.M id } id p.side := ⟨_, rfl⟩
        have hcR : ∀ t, c.R t = a.R t := fun t => by rw [hc, dropT_R]; exact hbR t
        have hcA : c.A = goneA a.A p.slot := by rw [hc, dropT_A, ← hes]; exact hbA
        have hcM : c.M = dropPl a.M id := by rw [hc, dropT_M, hbM]
        have hcs : c.sp = a.sp := by rw [hc, dropT_sp]; exact hbs
        have hct : ∀ s, c.t s = a.t s := fun s => by rw [hc, dropT_t]; exact (hbh s).2
        have hch : ∀ s, (s = 1 ∨ s = 2) → c.h s = if s = p.side ∧ a.t p.side = id then false else a.h s := by
          intro s hs'
          rw [hc, dropT_h _ _ hs hs']
          have e1 : ({ b with M := dropPl b.M id } : BA).t p.side = a.t p.side := (hbh _).2
          have e2 : ({ b with M := dropPl b.M id } : BA).h s = a.h s := (hbh _).1
          rw [e1, e2]
        have hLedc : ∀ s, (s = 1 ∨ s = 2) → c.h s = true → ∃ p, lookPl (dropPl a.M id) (a.t s) = some p ∧ p.side = s := by
          intro s hs' hh
          rw [hch s hs'] at hh
          split at hh
          · cases hh
          · rename_i hnc
            obtain ⟨p', hp', hps'⟩ := hl s hs' hh
            have hne : a.t s ≠ id := by
              intro h1
              rw [h1, hp] at hp'
              injection hp' with hp'
              subst hp'
              exact hnc ⟨hps'.symm, by rw [hps']; exact h1⟩
            exact ⟨p', by rw [look_drop hne]; exact hp', hps'⟩
        obtain ⟨hi, ho⟩ := InvX.gone (a' := c) h hw hp hr he hei hes hcA hcM hcR hcs (fun x hx hxi => by
          rw [hch _ (side_ordL hx), hct]
          split
          · rename_i hcc
            have : (a.t x.side == x.id) = false := by
              rw [hcc.1, hcc.2, beq_eq_false_iff_ne]; exact fun h1 => hxi h1.symm
            rw [this]; simp
          · rfl)
        rw [hbR, hfn, ← hc, hbA, show b.sp = c.sp from by rw [hbs, hcs]] at hdr
        rw [hdr]
        by_cases hz : cntA (goneA a.A e.slot) r.q = 0
        · rw [if_pos hz]
          have hzz : c.A.getD r.q [] = [] := by
            rw [hcA, ← hes]
            unfold cntA at hz
            rw [if_neg (by omega)] at hz
            have : ((goneA a.A e.slot).getD r.q []).length = 0 := by
              rw [show ((r.q : Int).toNat) = r.q from rfl] at hz
              omega
            exact List.length_eq_zero_iff.1 this
          obtain ⟨hi2, ho2⟩ := hi.unrung hs (by rw [hcR]; exact hrn') hzz
          rw [hcR] at hi2 ho2
          refine ⟨hi2, ?_, ho2.trans ho, rfl⟩
          intro s hs' hh
          obtain ⟨_, x2, _, x4, x5⟩ := setR_rest ({ c with sp := c.sp ++ [r.q] } : BA) p.side ((a.R p.side).eraseIdx n)
          rw [x2, x5]
          rw [x4] at hh
          show ∃ p, lookPl c.M (c.t s) = some p ∧ p.side = s
          rw [hcM, hct]
          exact hLedc s hs' hh
        · rw [if_neg hz]
          refine ⟨hi.full ?_, ?_, ho, rfl⟩
          · intro h1
            rw [hcA, ← hes] at h1
            apply hz
            unfold cntA
            rw [if_neg (by omega), show ((r.q : Int).toNat) = r.q from rfl, h1]; rfl
          · intro s hs' hh
            rw [hcM, hct]
            exact hLedc s hs' hh
      · rw [take_less_eq hw he hb hqq, if_neg hqq]
        have hff : findA (turnA a.A e.slot (fun e => { e with qty := e.qty - qty })) e.slot = (findA a.A e.slot).map (fun x => (x.1, x.2.1, (fun y : Ent => if (y.slot : Int) = e.slot then { y with qty := y.qty - qty } else y) x.2.2)) :=
          findA_map (fun y => if (y.slot : Int) = e.slot then { y with qty := y.qty - qty } else y) (fun y => by split <;> rfl) a.A e.slot
        obtain ⟨j, hj⟩ := find_of hw he
        rw [hj] at hff
        have hee : (entE (turnA a.A e.slot (fun e => { e with qty := e.qty - qty })) e.slot).id = id := by
          unfold entE
          rw [hff]
          simp [hei]
        dsimp only
        rw [if_pos rfl, if_pos ⟨by rw [hff]; rfl, hee⟩]
        dsimp only
        have h1 := h.remap (a' := { a with A := turnA a.A e.slot (fun e => { e with qty := e.qty - qty }) }) (fun _ => rfl) rfl rfl (fun y => if (y.slot : Int) = e.slot then { y with qty := y.qty - qty } else y) (fun y => by split <;> exact ⟨rfl, rfl⟩) (fun q => getD_turn _ _ _ q) (sum_turn _ _ _) (fun x => if x.id = id then { x with qty := x.qty - qty } else x)
          (fun s hs' r' hr' e' he' => by
            by_cases hc : e'.id = id
            · have h2 : (e'.slot : Int) = e.slot := by rw [h.eid _ _ e' e he' he (hc.trans hei.symm)]
              rw [if_pos h2]
              unfold ordO
              dsimp only
              rw [if_pos hc]
            · have h2 : ¬ (e'.slot : Int) = e.slot := by
                intro h3
                obtain ⟨_, rfl⟩ := hw.one he' he (by omega)
                exact hc hei
              rw [if_neg h2]
              unfold ordO
              dsimp only
              rw [if_neg hc])
          (fun x hx => by
            have h2 := h.tops x hx
            split <;> exact h2)
        exact ⟨h1.1, hl, h1.2, rfl⟩
end Go.Proofs.Ytmhljdkhekjfmaa

/- Add: its pieces. Plain lists. -/
namespace Go.Proofs.Ytmhljdkhekjfmaa
open Go.RowKit

theorem better_trans {s x y z : Int} (h : betterP s x y = true) (k : betterP s y z = true) : betterP s x z = true := by
  unfold betterP at *
  split at h <;> rename_i hs
  · rw [if_pos hs] at k ⊢
    simp only [decide_eq_true_eq] at *; omega
  · rw [if_neg hs] at k ⊢
    simp only [decide_eq_true_eq] at *; omega
theorem better_asym {s x y : Int} (h : betterP s x y = true) : betterP s y x = false := by
  cases hc : betterP s y x with
  | false => rfl
  | true =>
    have := better_trans h hc
    rw [better_irr] at this; cases this
theorem better_total {s x y : Int} (h : betterP s x y = false) (hne : x ≠ y) : betterP s y x = true := by
  unfold betterP at *
  split at h <;> rename_i hs
  · rw [if_pos hs]
    simp only [decide_eq_true_eq, decide_eq_false_iff_not] at *; omega
  · rw [if_neg hs]
    simp only [decide_eq_true_eq, decide_eq_false_iff_not] at *; omega
/-! ### arenas kept in form -/
theorem least_map (f : Ent → Ent) (hf : ∀ e, (f e).slot = e.slot) (A : List (List Ent)) : leastFree 250 (A.map (List.map f)) = leastFree 250 A := by
  unfold leastFree
  refine congrArg (fun p => List.find? p (List.range 250)) (funext fun i => ?_)
  rw [findA_map f hf]
  cases findA A (i : Int) <;> rfl
theorem Wf.map {A : List (List Ent)} (h : Wf A) (f : Ent → Ent) (hf : ∀ e, (f e).slot = e.slot) (hq : ∀ e, (f e).qty = e.qty) : Wf (A.map (List.map f)) := by
  have hget : ∀ (n j : Nat) (L : List Ent) (e : Ent), (A.map (List.map f))[n]? = some L → L[j]? = some e → ∃ L0 e0, A[n]? = some L0 ∧ L0[j]? = some e0 ∧ e = f e0 := by
    intro n j L e h1 h2
    rw [List.getElem?_map] at h1
    cases hn : A[n]? with
    | none => rw [hn] at h1; cases h1
    | some L0 =>
      rw [hn] at h1
      injection h1 with h1
      subst h1
      rw [List.getElem?_map] at h2
      cases hj : L0[j]? with
      | none => rw [hj] at h2; cases h2
      | some e0 =>
        rw [hj] at h2
        injection h2 with h2
        exact ⟨L0, e0, rfl, hj, h2.symm⟩
  refine ⟨?_, ?_, ?_⟩
  · intro n j n' j' L L' e e' h1 h2 h3 h4 h5
    obtain ⟨L0, e0, a1, a2, rfl⟩ := hget _ _ _ _ h1 h2
    obtain ⟨L1, e1, b1, b2, rfl⟩ := hget _ _ _ _ h3 h4
    rw [hf, hf] at h5
    exact h.inj _ _ _ _ _ _ _ _ a1 a2 b1 b2 h5
  · intro n j L e h1 h2
    obtain ⟨L0, e0, a1, a2, rfl⟩ := hget _ _ _ _ h1 h2
    rw [hq]
    exact h.qty _ _ _ _ a1 a2
  · intro hlt
    rw [least_map f hf]
    apply h.room
    rw [List.map_map, show (List.length ∘ List.map f) = List.length from funext fun L => List.length_map _] at hlt
    exact hlt
theorem findQ_open (i : Nat) : ∀ (A : List (List Ent)) (n : Nat), findQ (A ++ [[]]) i n = findQ A i n := by
  intro A
  induction A with
  | nil => intro n; rfl
  | cons L A ih =>
    intro n
    rw [List.cons_append]
    unfold findQ
    cases findL L i 0 with
    | none => exact ih _
    | some x => rfl
theorem get_open {A : List (List Ent)} {n j : Nat} {L : List Ent} {e : Ent} (h1 : (A ++ [[]])[n]? = some L) (h2 : L[j]? = some e) : A[n]? = some L := by
  rcases get_push h1 with h | h
  · exact h
  · subst h; simp at h2
theorem Wf.open_ {A : List (List Ent)} (h : Wf A) : Wf (A ++ [[]]) := by
  refine ⟨?_, ?_, ?_⟩
  · intro n j n' j' L L' e e' h1 h2 h3 h4 h5
    exact h.inj _ _ _ _ _ _ _ _ (get_open h1 h2) h2 (get_open h3 h4) h4 h5
  · intro n j L e h1 h2
    exact h.qty _ _ _ _ (get_open h1 h2) h2
  · intro hlt
    have hle : leastFree 250 (A ++ [[]]) = leastFree 250 A := by
      unfold leastFree
      refine congrArg (fun p => List.find? p (List.range 250)) (funext fun i => ?_)
      unfold findA
      rw [if_neg (by omega), if_neg (by omega), findQ_open]
    rw [hle]
    apply h.room
    simpa using hlt
/-! ### a push -/
theorem pushA_eq {A : List (List Ent)} {q : Nat} (hq : q < A.length) {id x : Int} (hx : 1 ≤ x ∧ x ≤ 1000000) {top : Bool} {r : Nat} (hr : leastFree 250 A = some r) :
    pushA 250 A q id x top = (A.set q (A.getD q [] ++ [⟨r, id, x, top⟩]), (r : Int), 0) := by
  unfold pushA
  rw [if_neg (by omega), if_neg (by omega), hr]
  rfl
theorem ordQ_set {A : List (List Ent)} {q : Nat} (hq : q < A.length) {L : List Ent} {s : Int} {R : List Rg} (h : q ∉ R.map Rg.q) : ordR (A.set q L) s R = ordR A s R := by
  unfold ordR
  refine flatMap_same fun x hx => ?_
  unfold ordQ
  rw [getD_set hq, if_neg (fun h1 => h (by rw [← h1]; exact List.mem_map_of_mem hx))]
theorem rung_split {R : List Rg} {n : Nat} {r : Rg} (hr : R[n]? = some r) : R = R.take n ++ r :: R.drop (n + 1) := by
  have hn := lt_of_get hr
  conv => lhs; rw [← List.take_append_drop n R]
  rw [List.drop_eq_getElem_cons hn]
  rw [List.getElem?_eq_getElem hn] at hr
  injection hr with hr
  rw [hr]
theorem InvX.ent {x : Option Nat} {a : BA} (h : InvX x a) {q : Nat} {e : Ent} (he : e ∈ a.A.getD q []) : ∃ o ∈ ordL a, o.id = e.id := by
  by_cases hq : q ∈ qsB a
  · unfold qsB at hq
    rw [List.mem_append, List.mem_map, List.mem_map] at hq
    rcases hq with ⟨r, hr, rfl⟩ | ⟨r, hr, rfl⟩
    · exact ⟨_, mem_ordL.2 ⟨1, .inl rfl, r, hr, e, he, rfl⟩, rfl⟩
    · exact ⟨_, mem_ordL.2 ⟨2, .inr rfl, r, hr, e, he, rfl⟩, rfl⟩
  · rw [h.dead q hq] at he
    simp at he
theorem look_add {M : List (Int × Pl)} {id : Int} {p : Pl} (hn : lookPl M id = none) (k : Int) : lookPl (M ++ [(id, p)]) k = if k = id then some p else lookPl M k := by
  unfold lookPl at *
  rw [List.find?_append]
  by_cases hk : k = id
  · subst hk
    rw [if_pos rfl]
    rw [Option.map_eq_none_iff] at hn
    rw [hn]
    simp
  · rw [if_neg hk]
    cases M.find? (fun x => x.1 == k) with
    | some y => rfl
    | none =>
      have : ¬ id = k := fun h => hk h.symm
      simp [this]
theorem InvX.push {c : BA} {s : Int} (hs : s = 1 ∨ s = 2) {n : Nat} {r : Rg} (h : InvX (some r.q) c) (hr : (c.R s)[n]? = some r) {id x : Int} (hid : lookPl c.M id = none) (hlen : (ordL c).length < 250) {top : Bool} (ht : top = (c.h s && c.t s == id)) (sl : Nat) :
    Inv { c with A := c.A.set r.q (c.A.getD r.q [] ++ [⟨sl, id, x, top⟩]), M := c.M ++ [(id, ⟨s, r.price, (sl : Int)⟩)] } ∧
    ordL { c with A := c.A.set r.q (c.A.getD r.q [] ++ [⟨sl, id, x, top⟩]), M := c.M ++ [(id, ⟨s, r.price, (sl : Int)⟩)] } = (preL c s ++ ordR c.A s ((c.R s).take (n + 1))) ++ [⟨id, s, r.price, x, top⟩] ++ (ordR c.A s ((c.R s).drop (n + 1)) ++ sufL c s) ∧
    ordL c = (preL c s ++ ordR c.A s ((c.R s).take (n + 1))) ++ (ordR c.A s ((c.R s).drop (n + 1)) ++ sufL c s) := by
  have hrm : r ∈ c.R s := List.mem_of_getElem? hr
  have hqm : r.q ∈ qsB c := rung_q hs hrm
  have hqlt : r.q < c.A.length := h.lt _ (List.mem_append_left _ hqm)
  obtain ⟨e, hee⟩ : ∃ e : Ent, e = ⟨sl, id, x, top⟩ := ⟨_, rfl⟩
  rw [← hee]
  obtain ⟨c', hc'⟩ : ∃ c' : BA, c' = { c with A := c.A.set r.q (c.A.getD r.q [] ++ [e]), M := c.M ++ [(id, ⟨s, r.price, (sl : Int)⟩)] } := ⟨_, rfl⟩
  rw [← hc']
  have hA : c'.A = c.A.set r.q (c.A.getD r.q [] ++ [e]) := by rw [hc']
  have hM : c'.M = c.M ++ [(id, ⟨s, r.price, (sl : Int)⟩)] := by rw [hc']
  have hR : ∀ t, c'.R t = c.R t := fun t => by rw [hc']; rfl
  have hsp : c'.sp = c.sp := by rw [hc']
  have hht : ∀ t, c'.h t = c.h t ∧ c'.t t = c.t t := fun t => by rw [hc']; exact ⟨rfl, rfl⟩
  have hg : ∀ q, c'.A.getD q [] = if q = r.q then c.A.getD r.q [] ++ [e] else c.A.getD q [] := fun q => by rw [hA, getD_set hqlt]
  have hq : qsB c' = qsB c := by unfold qsB; rw [hR, hR]
  have hl : c'.A.length = c.A.length := by rw [hA, List.length_set]
  have hsplit := rung_split hr
  have hnid : ∀ o ∈ ordL c, o.id ≠ id := by
    intro o ho he
    have := (h.look id).2 ⟨o, ho, he⟩
    rw [hid] at this; cases this
  -- queues are one for each rung
  have hself : c.setR s ((c.R s).take n ++ r :: (c.R s).drop (n + 1)) = c := setR_self c hsplit
  have hqp := qs_more c hs ((c.R s).take n) ((c.R s).drop (n + 1)) r
  rw [hself] at hqp
  have hnq : r.q ∉ qsB (c.setR s ((c.R s).take n ++ (c.R s).drop (n + 1))) := (List.nodup_cons.1 (hqp.nodup_iff.1 (List.nodup_append.1 h.nod).1)).1
  have hn12 : r.q ∉ ((c.R s).take n).map Rg.q ∧ r.q ∉ ((c.R s).drop (n + 1)).map Rg.q ∧ (∀ t, (t = 1 ∨ t = 2) → t ≠ s → r.q ∉ (c.R t).map Rg.q) := by
    refine ⟨fun h1 => hnq ?_, fun h1 => hnq ?_, fun t ht hne h1 => hnq ?_⟩
    · obtain ⟨y, hy, hyq⟩ := List.mem_map.1 h1
      rw [← hyq]
      exact rung_q hs (by rw [setR_same]; exact List.mem_append_left _ hy)
    · obtain ⟨y, hy, hyq⟩ := List.mem_map.1 h1
      rw [← hyq]
      exact rung_q hs (by rw [setR_same]; exact List.mem_append_right _ hy)
    · obtain ⟨y, hy, hyq⟩ := List.mem_map.1 h1
      rw [← hyq]
      exact rung_q ht (by rw [setR_other c hs ht hne]; exact hy)
  have hpre : preL c' s = preL c s := by
    unfold preL
    split
    · rename_i h2
      rw [hR, hA, ordQ_set hqlt (hn12.2.2 1 (.inl rfl) (by omega))]
    · rfl
  have hsuf : sufL c' s = sufL c s := by
    unfold sufL
    split
    · rename_i h2
      rw [hR, hA, ordQ_set hqlt (hn12.2.2 2 (.inr rfl) (by omega))]
    · rfl
  have htk : (c.R s).take (n + 1) = (c.R s).take n ++ [r] := by
    rw [List.take_add_one, hr]; rfl
  have hq1 : ∀ A : List (List Ent), ordR A s ((c.R s).take n ++ [r]) = ordR A s ((c.R s).take n) ++ ordQ A s r := by
    intro A
    rw [ordR_app]
    congr 1
    unfold ordR
    simp
  have hoq : ordQ c'.A s r = ordQ c.A s r ++ [⟨id, s, r.price, x, top⟩] := by
    unfold ordQ
    rw [hg, if_pos rfl, List.map_append, hee]
    rfl
  have ho1 : ordL c = (preL c s ++ ordR c.A s ((c.R s).take (n + 1))) ++ (ordR c.A s ((c.R s).drop (n + 1)) ++ sufL c s) := by
    rw [ordL_split c hs]
    conv => lhs; rw [hsplit]
    rw [ordR_split, htk, hq1]
    simp only [List.append_assoc]
  have ho2 : ordL c' = (preL c s ++ ordR c.A s ((c.R s).take (n + 1))) ++ [⟨id, s, r.price, x, top⟩] ++ (ordR c.A s ((c.R s).drop (n + 1)) ++ sufL c s) := by
    rw [ordL_split c' hs, hR]
    conv => lhs; rw [hsplit]
    rw [ordR_split, htk, hq1, hpre, hsuf, hoq, hA, ordQ_set hqlt hn12.1, ordQ_set hqlt hn12.2.1]
    simp only [List.append_assoc]
  obtain ⟨X, hX⟩ : ∃ X, preL c s ++ ordR c.A s ((c.R s).take (n + 1)) = X := ⟨_, rfl⟩
  obtain ⟨Y, hY⟩ : ∃ Y, ordR c.A s ((c.R s).drop (n + 1)) ++ sufL c s = Y := ⟨_, rfl⟩
  rw [hX, hY] at ho1 ho2 ⊢
  obtain ⟨o, ho⟩ : ∃ o : Od, o = ⟨id, s, r.price, x, top⟩ := ⟨_, rfl⟩
  rw [← ho] at ho2 ⊢
  have hoi : o.id = id := by rw [ho]
  have hos : o.side = s := by rw [ho]
  have hot : o.top = top := by rw [ho]
  have hperm : (ordL c').Perm (o :: ordL c) := by
    rw [ho1, ho2, List.append_assoc]
    exact List.perm_middle
  have hll := hperm.length_eq
  simp only [List.length_cons] at hll
  refine ⟨⟨fun t ht => by rw [hR]; exact h.srt t ht, by rw [hq, hsp]; exact h.nod, by rw [hq, hsp, hl]; exact h.lt, by rw [hq, hsp, hl]; exact h.cov, ?_, ?_, ?_, ?_, ?_, ?_, ?_, ?_, by omega, by rw [hl]; exact h.small⟩, ho2, ho1⟩
  · intro q hqm' _
    rw [hq] at hqm'
    rw [hg]
    split
    · simp
    · rename_i hne
      exact h.live q hqm' (fun h1 => hne (by injection h1))
  · intro q hqm'
    rw [hq] at hqm'
    rw [hg, if_neg (fun h1 => hqm' (by rw [h1]; exact hqm))]
    exact h.dead q hqm'
  · have h1 : c.A[r.q]? = some (c.A.getD r.q []) := by
      rw [List.getD_eq_getElem?_getD, List.getElem?_eq_getElem hqlt]; rfl
    have h2 := len_one r.q _ (c.A.getD r.q [] ++ [e]) h1
    rw [hA]
    have h3 := h.tot
    simp only [List.length_append, List.length_cons, List.length_nil] at h2
    omega
  · rw [hM, List.map_append]
    refine (List.perm_append_singleton _ _).trans ?_
    refine List.Perm.trans ?_ (hperm.map Od.id).symm
    rw [List.map_cons, hoi]
    exact (h.keys).cons id
  · rw [(hperm.map Od.id).nodup_iff, List.map_cons, hoi, List.nodup_cons]
    refine ⟨fun h1 => ?_, h.ids⟩
    obtain ⟨y, hy, hyi⟩ := List.mem_map.1 h1
    exact hnid y hy hyi
  · intro k p hp
    rw [hM, look_add hid] at hp
    by_cases hk : k = id
    · rw [if_pos hk] at hp
      injection hp with hp
      subst hp
      refine ⟨hs, r, by rw [hR]; exact hrm, rfl, e, by rw [hg, if_pos rfl]; exact List.mem_append_right _ (List.mem_singleton_self _), by rw [hee, hk], by rw [hee]⟩
    · rw [if_neg hk] at hp
      obtain ⟨hs', r', hr', hrp', e', he', hei', hes'⟩ := h.pl k p hp
      refine ⟨hs', r', by rw [hR]; exact hr', hrp', e', ?_, hei', hes'⟩
      rw [hg]
      split
      · rename_i h1
        rw [h1] at he'
        exact List.mem_append_left _ he'
      · exact he'
  · have hcase : ∀ q y, y ∈ c'.A.getD q [] → y ∈ c.A.getD q [] ∨ (y = e ∧ q = r.q) := by
      intro q y hy
      rw [hg] at hy
      split at hy
      · rename_i h1
        rcases List.mem_append.1 hy with h2 | h2
        · rw [h1]; exact .inl h2
        · exact .inr ⟨List.mem_singleton.1 h2, h1⟩
      · exact .inl hy
    have hne : ∀ q y, y ∈ c.A.getD q [] → y.id ≠ id := by
      intro q y hy
      obtain ⟨o', ho', hoi'⟩ := h.ent hy
      rw [← hoi']; exact hnid o' ho'
    have hei : e.id = id := by rw [hee]
    intro q q' y y' hy hy' hyy
    rcases hcase q y hy with h1 | ⟨rfl, h1⟩ <;> rcases hcase q' y' hy' with h2 | ⟨rfl, h2⟩
    · exact h.eid q q' y y' h1 h2 hyy
    · exact absurd (hyy.trans hei) (hne q y h1)
    · exact absurd (hyy.symm.trans hei) (hne q' y' h2)
    · rfl
  · intro y hy
    rw [(hht _).1, (hht _).2]
    rcases List.mem_cons.1 (hperm.mem_iff.1 hy) with h1 | h1
    · rw [h1, hos, hot, hoi]; exact ht
    · exact h.tops y h1
end Go.Proofs.Ytmhljdkhekjfmaa

/- Add is what the document's Add is. Plain lists. -/
namespace Go.Proofs.Ytmhljdkhekjfmaa
open Go.RowKit

def refTop (L : List Od) (side price : Int) : Bool := L.all (fun o => !(decide (o.side = side) && !betterP side price o.price))
def aheadO (side price : Int) (o : Od) : Bool := decide (o.side < side) || (decide (o.side = side) && !betterP side price o.price)
def refPos (L : List Od) (side price : Int) : Nat := (L.takeWhile (aheadO side price)).length
def refAdd (L : List Od) (id side price qty : Int) : List Od × Int :=
  if isB side = false then (L, 21) else if qty < 1 ∨ 1000000 < qty then (L, 24) else if (L.find? (fun o => o.id == id)).isSome = true then (L, 25) else if 250 ≤ L.length then (L, 13) else
  ((if refTop L side price = true then L.map (untop side) else L).take (refPos L side price) ++ [⟨id, side, price, qty, refTop L side price⟩] ++ (if refTop L side price = true then L.map (untop side) else L).drop (refPos L side price), 0)
theorem top_sim {a : BA} (h : Inv a) {side : Int} (hs : side = 1 ∨ side = 2) (price : Int) : topB a side price = refTop (ordL a) side price := by
  unfold topB refTop
  cases hR : a.R side with
  | nil =>
    dsimp only
    rw [eq_comm, List.all_eq_true]
    intro o ho
    obtain ⟨s, hs', r, hr, e, he, rfl⟩ := mem_ordL.1 ho
    have hne : ¬ s = side := by
      rintro rfl
      rw [hR] at hr; simp at hr
    have : (decide ((ordO s r.price e).side = side)) = false := decide_eq_false hne
    rw [this]; rfl
  | cons r l =>
    dsimp only
    have hsrt := h.srt side hs
    rw [hR, List.pairwise_cons] at hsrt
    cases hb : betterP side price r.price with
    | true =>
      rw [eq_comm, List.all_eq_true]
      intro o ho
      obtain ⟨s, hs', r', hr', e, he, rfl⟩ := mem_ordL.1 ho
      by_cases hc : s = side
      · subst hc
        have : betterP s price r'.price = true := by
          rw [hR] at hr'
          rcases List.mem_cons.1 hr' with rfl | h1
          · exact hb
          · exact better_trans hb (hsrt.1 r' h1)
        show (!(_ && !betterP s price r'.price)) = true
        rw [this]; simp
      · have : (decide ((ordO s r'.price e).side = side)) = false := decide_eq_false hc
        rw [this]; rfl
    | false =>
      rw [eq_comm, List.all_eq_false]
      have hrm : r ∈ a.R side := by rw [hR]; exact List.mem_cons_self ..
      have hl := h.live r.q (rung_q hs hrm) (by simp)
      obtain ⟨e, he⟩ := List.exists_mem_of_ne_nil _ hl
      refine ⟨_, mem_ordL.2 ⟨side, hs, r, hrm, e, he, rfl⟩, ?_⟩
      show ¬ (!(decide (side = side) && !betterP side price r.price)) = true
      rw [hb]; simp
theorem rungs_le {A : List (List Ent)} {s : Int} : ∀ {R : List Rg}, (∀ r ∈ R, A.getD r.q [] ≠ []) → R.length ≤ (ordR A s R).length := by
  intro R
  induction R with
  | nil => intro _; simp
  | cons r R ih =>
    intro h
    have h1 := ih fun x hx => h x (List.mem_cons_of_mem _ hx)
    have h2 := h r (List.mem_cons_self ..)
    unfold ordR at *
    rw [List.flatMap_cons, List.length_append, List.length_cons]
    have : 1 ≤ (ordQ A s r).length := by
      unfold ordQ
      rw [List.length_map]
      exact List.length_pos_iff.2 h2
    omega
theorem Inv.rungs {a : BA} (h : Inv a) : (a.R 1).length + (a.R 2).length ≤ (ordL a).length := by
  have h1 := rungs_le (A := a.A) (s := 1) (R := a.R 1) fun r hr => h.live _ (rung_q (.inl rfl) hr) (by simp)
  have h2 := rungs_le (A := a.A) (s := 2) (R := a.R 2) fun r hr => h.live _ (rung_q (.inr rfl) hr) (by simp)
  unfold ordL
  rw [List.length_append]
  omega
theorem fnd_le (R : List Rg) (s price : Int) : (fnd R s price).1 ≤ R.length := by
  unfold fnd ahead
  exact (List.takeWhile_sublist _).length_le
/-- what stands ahead of a new price, and what behind -/
theorem fnd_ahead {R : List Rg} {s : Int} (hp : R.Pairwise (fun x y => betterP s x.price y.price = true)) (price : Int) :
    (∀ x ∈ R.take (fnd R s price).1, betterP s x.price price = true) ∧ ((fnd R s price).2 = false → ∀ x ∈ R.drop (fnd R s price).1, betterP s price x.price = true) ∧
    ((fnd R s price).2 = true → ∃ r, R[(fnd R s price).1]? = some r ∧ r.price = price ∧ ∀ x ∈ R.drop ((fnd R s price).1 + 1), betterP s price x.price = true) := by
  have hpd : ∀ P D : List Rg, P ++ D = R → R.take P.length = P ∧ R.drop P.length = D := by
    rintro P D rfl
    exact ⟨List.take_left, List.drop_left⟩
  have htw : R.take (ahead R s price) = R.takeWhile (fun r => betterP s r.price price) := (hpd _ _ (List.takeWhile_append_dropWhile (p := fun (r : Rg) => betterP s r.price price) (l := R))).1
  have hdw : R.drop (ahead R s price) = R.dropWhile (fun r => betterP s r.price price) := (hpd _ _ (List.takeWhile_append_dropWhile (p := fun (r : Rg) => betterP s r.price price) (l := R))).2
  have hat : ∀ r, R[ahead R s price]? = some r → betterP s r.price price = false := by
    intro r hr
    have h1 : (R.drop (ahead R s price)).head? = some r := by rw [List.head?_drop]; exact hr
    rw [hdw] at h1
    have h2 := List.head?_dropWhile_not (p := fun r => betterP s r.price price) (l := R)
    rw [h1] at h2
    simpa using h2
  refine ⟨fun x hx => ?_, fun hf x hx => ?_, fun ht => ?_⟩
  · have h1 : x ∈ R.take (ahead R s price) := hx
    rw [htw] at h1
    have := List.all_takeWhile (p := fun r => betterP s r.price price) (l := R)
    rw [List.all_eq_true] at this
    exact this x h1
  · have h1 : x ∈ R.drop (ahead R s price) := hx
    obtain ⟨k, hk, rfl⟩ := List.getElem_of_mem h1
    rw [List.length_drop] at hk
    rw [List.getElem_drop]
    have hlt : ahead R s price < R.length := by omega
    have hr0 : R[ahead R s price]? = some (R[ahead R s price]) := List.getElem?_eq_getElem hlt
    have hne : ¬ (R[ahead R s price]).price = price := by
      intro h2
      unfold fnd at hf
      rw [hr0] at hf
      simp [h2] at hf
    have hb := better_total (hat _ hr0) hne
    cases k with
    | zero => exact hb
    | succ k => exact better_trans hb (List.pairwise_iff_getElem.1 hp (ahead R s price) (ahead R s price + (k + 1)) hlt (by omega) (by omega))
  · have hlt : ahead R s price < R.length := by
      rcases Nat.lt_or_ge (ahead R s price) R.length with h1 | h1
      · exact h1
      · unfold fnd at ht
        rw [List.getElem?_eq_none h1] at ht
        cases ht
    have hr0 : R[ahead R s price]? = some (R[ahead R s price]) := List.getElem?_eq_getElem hlt
    have hpr : (R[ahead R s price]).price = price := by
      unfold fnd at ht
      rw [hr0] at ht
      simpa using ht
    refine ⟨_, hr0, hpr, fun x hx => ?_⟩
    have h1 : x ∈ R.drop (ahead R s price + 1) := hx
    obtain ⟨k, hk, rfl⟩ := List.getElem_of_mem h1
    rw [List.length_drop] at hk
    rw [List.getElem_drop]
    have := List.pairwise_iff_getElem.1 hp (ahead R s price) (ahead R s price + 1 + k) hlt (by omega) (by omega)
    rw [hpr] at this; exact this
/-- a rung of an empty queue comes -/
theorem Inv.rung {a b : BA} (h : Inv a) {s : Int} (hs : s = 1 ∨ s = 2) {price : Int} (hf : (fnd (a.R s) s price).2 = false) {q : Nat} (hbR : ∀ t, b.R t = a.R t) (hbM : b.M = a.M) (hbh : ∀ t, b.h t = a.h t ∧ b.t t = a.t t) (hbA : ∀ x, b.A.getD x [] = a.A.getD x []) (hsum : (b.A.map List.length).sum = (a.A.map List.length).sum)
    (hnod : (q :: (qsB a ++ b.sp)).Nodup) (hlt : ∀ x ∈ q :: (qsB a ++ b.sp), x < b.A.length) (hcov : b.A.length = (q :: (qsB a ++ b.sp)).length) (hsm : b.A.length ≤ 250) :
    InvX (some q) (b.setR s (insR (a.R s) (fnd (a.R s) s price).1 price q)) ∧ ordL (b.setR s (insR (a.R s) (fnd (a.R s) s price).1 price q)) = ordL a := by
  obtain ⟨p1, p2, _⟩ := fnd_ahead (h.srt s hs) price
  have hfl := fnd_le (a.R s) s price
  have p2 := p2 hf
  obtain ⟨n, hn⟩ : ∃ n, (fnd (a.R s) s price).1 = n := ⟨_, rfl⟩
  rw [hn] at p1 p2 hfl ⊢
  have hins : insR (a.R s) n price q = (a.R s).take n ++ ⟨price, q⟩ :: (a.R s).drop n := by
    unfold insR; simp
  have hself : b.setR s ((a.R s).take n ++ (a.R s).drop n) = b := setR_self b (by rw [hbR, List.take_append_drop])
  have hqa : qsB b = qsB a := by unfold qsB; rw [hbR, hbR]
  have hqp := qs_more b hs ((a.R s).take n) ((a.R s).drop n) ⟨price, q⟩
  rw [hself, hqa] at hqp
  have hor : ∀ t, ordR b.A t (a.R t) = ordR a.A t (a.R t) := fun t => by
    unfold ordR
    refine flatMap_same fun x _ => ?_
    unfold ordQ
    rw [hbA]
  have hob : ordL b = ordL a := by unfold ordL; rw [hbR, hbR, hor, hor]
  have hqe : b.A.getD q [] = [] := by
    rw [hbA]
    refine h.dead q fun h1 => ?_
    exact (List.nodup_cons.1 hnod).1 (List.mem_append_left _ h1)
  have ho := ordL_rung b hs ((a.R s).take n) ((a.R s).drop n) ⟨price, q⟩ hqe
  rw [hself, hob] at ho
  obtain ⟨x1, x2, x3, x4, x5⟩ := setR_rest b s ((a.R s).take n ++ ⟨price, q⟩ :: (a.R s).drop n)
  rw [hins]
  obtain ⟨c, hc⟩ : ∃ c, b.setR s ((a.R s).take n ++ ⟨price, q⟩ :: (a.R s).drop n) = c := ⟨_, rfl⟩
  have hcs : c.R s = (a.R s).take n ++ ⟨price, q⟩ :: (a.R s).drop n := by rw [← hc]; exact setR_same b _
  have hco : ∀ t, (t = 1 ∨ t = 2) → t ≠ s → c.R t = a.R t := fun t ht hne => by rw [← hc, setR_other b hs ht hne]; exact hbR t
  rw [hc] at x1 x2 x3 x4 x5 ho hqp ⊢
  have hall : (qsB c ++ c.sp).Perm (q :: (qsB a ++ b.sp)) := by
    rw [x3]
    exact hqp.append_right _
  refine ⟨⟨?_, hall.nodup_iff.2 hnod, ?_, ?_, ?_, ?_, ?_, ?_, ?_, ?_, ?_, ?_, ?_, ?_⟩, ho⟩
  · intro t ht
    by_cases hts : t = s
    · subst hts
      have hp := h.srt t ht
      rw [hcs, List.pairwise_append, List.pairwise_cons]
      rw [← List.take_append_drop n (a.R t), List.pairwise_append] at hp
      refine ⟨hp.1, ⟨p2, hp.2.1⟩, fun x hx y hy => ?_⟩
      rcases List.mem_cons.1 hy with rfl | hy
      · exact p1 x hx
      · exact hp.2.2 x hx y hy
    · rw [hco t ht hts]; exact h.srt t ht
  · intro y hy
    rw [x1]
    exact hlt y (hall.mem_iff.1 hy)
  · rw [x1, hcov]; exact hall.length_eq.symm
  · intro y hy hyx
    rw [x1, hbA]
    rcases List.mem_cons.1 (hqp.mem_iff.1 hy) with h1 | h1
    · exact absurd (congrArg some h1) hyx
    · exact h.live y h1 (by simp)
  · intro y hy
    rw [x1, hbA]
    exact h.dead y fun h1 => hy (hqp.mem_iff.2 (List.mem_cons_of_mem _ h1))
  · rw [x1, hsum, ho]; exact h.tot
  · rw [x2, hbM, ho]; exact h.keys
  · rw [ho]; exact h.ids
  · intro id p hp
    rw [x2, hbM] at hp
    obtain ⟨hs', r', hr', hrp', e', he', hei', hes'⟩ := h.pl id p hp
    refine ⟨hs', r', ?_, hrp', e', by rw [x1, hbA]; exact he', hei', hes'⟩
    by_cases hts : p.side = s
    · rw [hts] at hr' ⊢
      rw [hcs, List.mem_append, List.mem_cons]
      rw [← List.take_append_drop n (a.R s), List.mem_append] at hr'
      rcases hr' with h1 | h1
      · exact .inl h1
      · exact .inr (.inr h1)
    · rw [hco _ hs' hts]; exact hr'
  · intro q1 q2 e1 e2 h1 h2 h3
    rw [x1, hbA] at h1 h2
    exact h.eid q1 q2 e1 e2 h1 h2 h3
  · intro o hmo
    rw [ho] at hmo
    rw [x4, x5, (hbh _).1, (hbh _).2]
    exact h.tops o hmo
  · rw [ho]; exact h.len
  · rw [x1]; exact hsm
/-- a price's queue -/
theorem Inv.queue {a : BA} (h : Inv a) (hw : Wf a.A) (hlen : (ordL a).length < 250) {s : Int} (hs : s = 1 ∨ s = 2) (price : Int) :
    ∃ c n r, queueB a s price = (c, r.q) ∧ InvX (some r.q) c ∧ Wf c.A ∧ ordL c = ordL a ∧ c.M = a.M ∧ (∀ t, c.h t = a.h t ∧ c.t t = a.t t) ∧ (c.R s)[n]? = some r ∧ r.price = price ∧ (∀ x ∈ (c.R s).take n, betterP s x.price price = true) ∧ (∀ x ∈ (c.R s).drop (n + 1), betterP s price x.price = true) := by
  obtain ⟨p1, p2, p3⟩ := fnd_ahead (h.srt s hs) price
  unfold queueB
  cases hf : (fnd (a.R s) s price).2 with
  | true =>
    obtain ⟨r, hr, hrp, p4⟩ := p3 hf
    rw [if_pos rfl, rungAt_some hr]
    refine ⟨a, _, r, rfl, ⟨h.srt, h.nod, h.lt, h.cov, fun x hx _ => h.live x hx (by simp), h.dead, h.tot, h.keys, h.ids, h.pl, h.eid, h.tops, h.len, h.small⟩, hw, rfl, rfl, fun _ => ⟨rfl, rfl⟩, hr, hrp, p1, p4⟩
  | false =>
    rw [if_neg (by simp)]
    have p2 := p2 hf
    have hfl := fnd_le (a.R s) s price
    have hrl := h.rungs
    have hgoal : ∀ (b : BA) (q : Nat), qbase a = (b, q) → Wf b.A → InvX (some q) (b.setR s (insR (a.R s) (fnd (a.R s) s price).1 price q)) ∧ ordL (b.setR s (insR (a.R s) (fnd (a.R s) s price).1 price q)) = ordL a → b.M = a.M → (∀ t, b.h t = a.h t ∧ b.t t = a.t t) →
        ∃ c n r, ((qbase a).1.setR s (insR (a.R s) (fnd (a.R s) s price).1 price (qbase a).2), (qbase a).2) = (c, r.q) ∧ InvX (some r.q) c ∧ Wf c.A ∧ ordL c = ordL a ∧ c.M = a.M ∧ (∀ t, c.h t = a.h t ∧ c.t t = a.t t) ∧ (c.R s)[n]? = some r ∧ r.price = price ∧ (∀ x ∈ (c.R s).take n, betterP s x.price price = true) ∧ (∀ x ∈ (c.R s).drop (n + 1), betterP s price x.price = true) := by
      intro b q hb hwb hi hm hh
      rw [hb]
      obtain ⟨x1, x2, x3, x4, x5⟩ := setR_rest b s (insR (a.R s) (fnd (a.R s) s price).1 price q)
      have hins : insR (a.R s) (fnd (a.R s) s price).1 price q = (a.R s).take (fnd (a.R s) s price).1 ++ ⟨price, q⟩ :: (a.R s).drop (fnd (a.R s) s price).1 := by
        unfold insR; simp
      have hlt : ((a.R s).take (fnd (a.R s) s price).1).length = (fnd (a.R s) s price).1 := by
        rw [List.length_take]; omega
      refine ⟨_, (fnd (a.R s) s price).1, ⟨price, q⟩, rfl, hi.1, by rw [x1]; exact hwb, hi.2, by rw [x2]; exact hm, fun t => ⟨by rw [x4]; exact (hh t).1, by rw [x5]; exact (hh t).2⟩, ?_, rfl, ?_, ?_⟩
      · rw [setR_same, hins, List.getElem?_append_right (by omega), hlt, Nat.sub_self]; rfl
      · rw [setR_same, hins, List.take_append_of_le_length (by omega), List.take_of_length_le (by omega)]
        exact p1
      · rw [setR_same, hins, List.drop_append, hlt, List.drop_of_length_le (by omega), List.nil_append, show (fnd (a.R s) s price).1 + 1 - (fnd (a.R s) s price).1 = 1 by omega, List.drop_one, List.tail_cons]
        exact p2
    cases hl : a.sp.getLast? with
    | some q =>
      have hsp : a.sp = a.sp.dropLast ++ [q] := by
        obtain ⟨ys, hys⟩ := List.getLast?_eq_some_iff.1 hl
        rw [hys, List.dropLast_concat]
      have hperm : (qsB a ++ a.sp).Perm (q :: (qsB a ++ a.sp.dropLast)) := by
        conv => lhs; rw [hsp]
        rw [← List.append_assoc]
        exact List.perm_append_singleton _ _
      refine hgoal _ q (qbase_some hl) hw (h.rung (b := { a with sp := a.sp.dropLast }) hs hf (fun _ => rfl) rfl (fun _ => ⟨rfl, rfl⟩) (fun _ => rfl) rfl (hperm.nodup_iff.1 h.nod) (fun x hx => h.lt x (hperm.mem_iff.2 hx)) (h.cov.trans hperm.length_eq) h.small) rfl (fun _ => ⟨rfl, rfl⟩)
    | none =>
      have hsp : a.sp = [] := List.getLast?_eq_none_iff.1 hl
      have hcov := h.cov
      rw [hsp, List.append_nil] at hcov
      have hql : (qsB a).length = (a.R 1).length + (a.R 2).length := by unfold qsB; simp
      have hlt := h.lt
      have hnod := h.nod
      rw [hsp, List.append_nil] at hlt hnod
      refine hgoal _ a.A.length (qbase_none hl) hw.open_ (h.rung (b := { a with A := a.A ++ [[]] }) hs hf (fun _ => rfl) rfl (fun _ => ⟨rfl, rfl⟩) (fun x => ?_) (by simp) ?_ ?_ ?_ ?_) rfl (fun _ => ⟨rfl, rfl⟩)
      · simp only [List.getD_eq_getElem?_getD]
        rcases Nat.lt_trichotomy x a.A.length with h1 | h1 | h1
        · rw [List.getElem?_append_left h1]
        · subst h1; simp
        · rw [List.getElem?_eq_none (by simp; omega), List.getElem?_eq_none (by omega)]
      · show (a.A.length :: (qsB a ++ a.sp)).Nodup
        rw [hsp, List.append_nil, List.nodup_cons]
        exact ⟨fun h1 => Nat.lt_irrefl _ (hlt _ h1), hnod⟩
      · show ∀ x ∈ a.A.length :: (qsB a ++ a.sp), x < (a.A ++ [[]]).length
        rw [hsp, List.append_nil, List.length_append]
        intro x hx
        rcases List.mem_cons.1 hx with rfl | h1
        · exact Nat.lt_succ_self _
        · have := hlt x h1
          simp only [List.length_cons, List.length_nil]; omega
      · show (a.A ++ [[]]).length = (a.A.length :: (qsB a ++ a.sp)).length
        rw [hsp, List.append_nil, List.length_append, hcov]; rfl
      · show (a.A ++ [[]]).length ≤ 250
        rw [List.length_append]
        simp only [List.length_cons, List.length_nil]
        omega
end Go.Proofs.Ytmhljdkhekjfmaa

/- Add is what the document's Add is: the whole. Plain lists. -/
namespace Go.Proofs.Ytmhljdkhekjfmaa
open Go.RowKit

theorem untop_keeps (side : Int) (o : Od) : (untop side o).side = o.side ∧ (untop side o).price = o.price ∧ (untop side o).id = o.id ∧ (untop side o).qty = o.qty := by
  unfold untop
  split <;> exact ⟨rfl, rfl, rfl, rfl⟩
theorem takeW_map {α : Type} (p : α → Bool) (f : α → α) (h : ∀ x, p (f x) = p x) : ∀ L : List α, ((L.map f).takeWhile p).length = (L.takeWhile p).length := by
  intro L
  induction L with
  | nil => rfl
  | cons x L ih =>
    rw [List.map_cons, List.takeWhile_cons, List.takeWhile_cons, h]
    split
    · rw [List.length_cons, List.length_cons, ih]
    · rfl
theorem refPos_map (L : List Od) (s side price : Int) : refPos (L.map (untop s)) side price = refPos L side price :=
  takeW_map _ _ (fun x => by unfold aheadO; rw [(untop_keeps s x).1, (untop_keeps s x).2.1]) L
theorem refPos_app {X Y : List Od} {side price : Int} (hX : ∀ o ∈ X, aheadO side price o = true) (hY : ∀ o ∈ Y, aheadO side price o = false) : refPos (X ++ Y) side price = X.length := by
  unfold refPos
  rw [List.takeWhile_append_of_pos hX]
  have : Y.takeWhile (aheadO side price) = [] := by
    cases Y with
    | nil => rfl
    | cons y Y => rw [List.takeWhile_cons, hY y (List.mem_cons_self ..)]; rfl
  rw [this, List.append_nil]
theorem lead_wf {a : BA} (hw : Wf a.A) (id side : Int) : Wf (leadB a id side).A := by
  rw [(lead_eq a id side).2.2.1]
  split
  · unfold oldA
    split
    · split
      · rw [topA_eq hw]
        exact hw.map (fun e => if (e.slot : Int) = _ then { e with top := false } else e) (fun e => by split <;> rfl) (fun e => by split <;> rfl)
      · exact hw
    · exact hw
  · exact hw
theorem add_sim {a : BA} (h : Inv a) (hl : Led a) (hw : Wf a.A) (id side price qty : Int) : Inv (addB a id side price qty).1 ∧ Led (addB a id side price qty).1 ∧ ordL (addB a id side price qty).1 = (refAdd (ordL a) id side price qty).1 ∧ (addB a id side price qty).2 = (refAdd (ordL a) id side price qty).2 := by
  have hfi : ((ordL a).find? (fun o => o.id == id)).isSome = (lookPl a.M id).isSome := by
    cases hk : lookPl a.M id with
    | none => rw [h.find_none hk]; rfl
    | some p =>
      obtain ⟨o, ho, hoi⟩ := (h.look id).1 (by rw [hk]; rfl)
      rw [h.find_some ho hoi]; rfl
  unfold addB refAdd
  rw [hfi, h.count]
  by_cases h1 : isB side = false
  · rw [if_pos h1, if_pos h1]
    exact ⟨h, hl, rfl, rfl⟩
  rw [if_neg h1, if_neg h1]
  by_cases h2 : qty < 1 ∨ 1000000 < qty
  · rw [if_pos h2, if_pos h2]
    exact ⟨h, hl, rfl, rfl⟩
  rw [if_neg h2, if_neg h2]
  by_cases h3 : (lookPl a.M id).isSome = true
  · rw [if_pos h3, if_pos h3]
    exact ⟨h, hl, rfl, rfl⟩
  rw [if_neg h3, if_neg h3]
  by_cases h4 : 250 ≤ (ordL a).length
  · rw [if_pos h4, if_pos h4]
    exact ⟨h, hl, rfl, rfl⟩
  rw [if_neg h4, if_neg h4]
  have hs : side = 1 ∨ side = 2 := by
    have h5 : isB side = true := by simpa using h1
    unfold isB at h5
    simpa using h5
  have hid : lookPl a.M id = none := by
    cases hk : lookPl a.M id with
    | none => rfl
    | some p => rw [hk] at h3; exact absurd rfl h3
  rw [← top_sim h hs]
  obtain ⟨top, htop⟩ : ∃ b, topB a side price = b := ⟨_, rfl⟩
  rw [htop]
  obtain ⟨L1, hL1⟩ : ∃ L1, (if top = true then (ordL a).map (untop side) else ordL a) = L1 := ⟨_, rfl⟩
  rw [hL1]
  have hlen1 : L1.length = (ordL a).length := by
    rw [← hL1]
    split
    · exact List.length_map _
    · rfl
  have hpos1 : refPos L1 side price = refPos (ordL a) side price := by
    rw [← hL1]
    split
    · exact refPos_map _ _ _ _
    · rfl
  obtain ⟨a1, ha1⟩ : ∃ a1, preB a id side price = a1 := ⟨_, rfl⟩
  have hpre : Inv a1 ∧ ordL a1 = L1 ∧ Wf a1.A ∧ a1.M = a.M ∧ top = (a1.h side && a1.t side == id) ∧ (∀ t, (t = 1 ∨ t = 2) → a1.h t = true → (t = side ∧ a1.t t = id) ∨ (a1.h t = a.h t ∧ a1.t t = a.t t)) := by
    unfold preB at ha1
    rw [htop] at ha1
    cases top with
    | true =>
      rw [if_pos rfl] at ha1 hL1
      obtain ⟨e1, e2⟩ := h.lead hl hw hs hid
      have e3 := lead_wf hw id side
      have e4 := (lead_eq a id side).1
      have e5 : ∀ t, (t = 1 ∨ t = 2) → (leadB a id side).h t = if t = side then true else a.h t := fun t ht => by unfold leadB; rw [setTH_h _ hs ht]; rfl
      have e6 : ∀ t, (t = 1 ∨ t = 2) → (leadB a id side).t t = if t = side then id else a.t t := fun t ht => by unfold leadB; rw [setTH_t _ hs ht]; rfl
      rw [ha1] at e1 e2 e3 e4 e5 e6
      refine ⟨e1, e2.trans hL1, e3, e4, ?_, fun t ht hh => ?_⟩
      · rw [e5 _ hs, e6 _ hs, if_pos rfl, if_pos rfl]; simp
      · by_cases hts : t = side
        · exact .inl ⟨hts, by rw [e6 _ ht, if_pos hts]⟩
        · exact .inr ⟨by rw [e5 _ ht, if_neg hts], by rw [e6 _ ht, if_neg hts]⟩
    | false =>
      rw [if_neg (by simp)] at ha1 hL1
      subst ha1
      refine ⟨h, hL1, hw, rfl, ?_, fun t _ _ => .inr ⟨rfl, rfl⟩⟩
      cases hh : a.h side with
      | false => rfl
      | true =>
        obtain ⟨p, hp, _⟩ := hl side hs hh
        have : ¬ a.t side = id := fun h5 => by rw [h5, hid] at hp; cases hp
        simp [this]
  obtain ⟨g1, g2, g3, g4, g5, g6⟩ := hpre
  obtain ⟨c, n, r, hq, hc, hwc, hoc, hMc, hhc, hr, hrp, q1, q2⟩ := g1.queue g3 (by rw [g2]; omega) hs price
  obtain ⟨sl, hsl⟩ := hwc.room (by rw [hc.tot, hoc, g2]; omega)
  have hrm : r ∈ c.R side := List.mem_of_getElem? hr
  have hqlt : r.q < c.A.length := hc.lt _ (List.mem_append_left _ (rung_q hs hrm))
  have hpu := pushA_eq hqlt (id := id) (x := qty) (by omega) (top := top) hsl
  have hidc : lookPl c.M id = none := by rw [hMc, g4]; exact hid
  have hpush := hc.push hs hr hidc (x := qty) (by rw [hoc, g2]; omega) (top := top) (by rw [(hhc _).1, (hhc _).2]; exact g5) sl
  have hput : putB a1 id side price qty top = { c with A := c.A.set r.q (c.A.getD r.q [] ++ [⟨sl, id, qty, top⟩]), M := c.M ++ [(id, ⟨side, r.price, (sl : Int)⟩)] } := by
    unfold putB
    rw [hq]
    dsimp only
    rw [hpu, hrp]
  rw [ha1, hput, ← hpos1]
  obtain ⟨k1, k2, k3⟩ := hpush
  refine ⟨k1, ?_, ?_, rfl⟩
  · intro t ht hh
    have hh' : c.h t = true := hh
    show ∃ p, lookPl (c.M ++ [(id, ⟨side, r.price, (sl : Int)⟩)]) (c.t t) = some p ∧ p.side = t
    rw [look_add hidc]
    rw [(hhc t).1] at hh'
    rw [(hhc t).2]
    rcases g6 t ht hh' with ⟨rfl, h6⟩ | ⟨h6, h7⟩
    · rw [if_pos h6]
      exact ⟨_, rfl, rfl⟩
    · obtain ⟨p, hp, hps⟩ := hl t ht (by rw [← h6]; exact hh')
      have hne : ¬ a1.t t = id := fun h8 => by
        rw [← h7, h8, hid] at hp; cases hp
      rw [if_neg hne, hMc, g4, h7]
      exact ⟨p, hp, hps⟩
  · obtain ⟨X, hX⟩ : ∃ X, preL c side ++ ordR c.A side ((c.R side).take (n + 1)) = X := ⟨_, rfl⟩
    obtain ⟨Y, hY⟩ : ∃ Y, ordR c.A side ((c.R side).drop (n + 1)) ++ sufL c side = Y := ⟨_, rfl⟩
    have hXa : ∀ o ∈ X, aheadO side price o = true := by
      intro o ho
      rw [← hX, List.mem_append] at ho
      unfold aheadO
      rcases ho with h6 | h6
      · unfold preL at h6
        split at h6
        · rename_i h7
          obtain ⟨r', _, e', _, rfl⟩ := mem_ordR.1 h6
          have : (decide ((ordO 1 r'.price e').side < side)) = true := decide_eq_true (show (1 : Int) < side by omega)
          rw [this]; rfl
        · simp at h6
      · obtain ⟨r', hr', e', _, rfl⟩ := mem_ordR.1 h6
        have hb : betterP side price r'.price = false := by
          rw [List.take_add_one, hr, List.mem_append] at hr'
          rcases hr' with h7 | h7
          · exact better_asym (q1 r' h7)
          · have : r' = r := by simpa using h7
            rw [this, hrp]; exact better_irr _ _
        show (_ || (decide (side = side) && !betterP side price r'.price)) = true
        rw [hb]; simp
    have hYa : ∀ o ∈ Y, aheadO side price o = false := by
      intro o ho
      rw [← hY, List.mem_append] at ho
      unfold aheadO
      rcases ho with h6 | h6
      · obtain ⟨r', hr', e', _, rfl⟩ := mem_ordR.1 h6
        show (decide (side < side) || (decide (side = side) && !betterP side price r'.price)) = false
        rw [q2 r' hr']; simp
      · unfold sufL at h6
        split at h6
        · rename_i h7
          obtain ⟨r', _, e', _, rfl⟩ := mem_ordR.1 h6
          show (decide ((2 : Int) < side) || (decide ((2 : Int) = side) && _)) = false
          rw [h7]; rfl
        · simp at h6
    rw [hX, hY] at k2 k3
    have hL : L1 = X ++ Y := by rw [← g2, ← hoc]; exact k3
    rw [k2, hL, refPos_app hXa hYa, List.take_left, List.drop_left, hrp]
theorem empty_inv : Inv emptyB ∧ Led emptyB ∧ ordL emptyB = [] := by
  refine ⟨⟨?_, ?_, ?_, rfl, ?_, ?_, rfl, List.Perm.refl _, List.nodup_nil, ?_, ?_, ?_, Nat.zero_le _, Nat.zero_le _⟩, ?_, rfl⟩
  · rintro s (rfl | rfl) <;> exact List.Pairwise.nil
  · exact List.nodup_nil
  · intro q hq; cases hq
  · intro q hq; cases hq
  · intro q _; rfl
  · intro id p hp; cases hp
  · intro q q' e e' he; simp [emptyB] at he
  · intro o ho; cases ho
  · rintro s (rfl | rfl) hh <;> cases hh
end Go.Proofs.Ytmhljdkhekjfmaa

/- What a book tells, of the document's list. Plain lists. -/
namespace Go.Proofs.Ytmhljdkhekjfmaa
open Go.RowKit

def findO (L : List Od) (id : Int) : Od × Bool := match L.find? (fun o => o.id == id) with | some o => (o, true) | none => (zeroOd, false)
def atO (L : List Od) (side price : Int) : List Od := L.filter (fun o => decide (o.side = side ∧ o.price = price))
def addLv (o : Od) : List Lv → List Lv
  | [] => [⟨o.price, o.qty, 1⟩]
  | l :: ls => if l.price = o.price then ⟨o.price, o.qty + l.qty, 1 + l.count⟩ :: ls else ⟨o.price, o.qty, 1⟩ :: l :: ls
def grp (L : List Od) : List Lv := L.foldr addLv []
def sideO (L : List Od) (side : Int) : List Od := L.filter (fun o => decide (o.side = side))
def ladO (L : List Od) (side : Int) : List Lv := grp (sideO L side)
def bestO (L : List Od) (side : Int) : Lv × Bool := match ladO L side with | [] => (zeroLv, false) | l :: _ => (l, true)
theorem mem_ordR_side {A : List (List Ent)} {s : Int} {R : List Rg} {o : Od} (h : o ∈ ordR A s R) : o.side = s := by
  obtain ⟨r, _, e, _, rfl⟩ := mem_ordR.1 h
  rfl
theorem sideO_eq (a : BA) {s : Int} (hs : s = 1 ∨ s = 2) : sideO (ordL a) s = ordR a.A s (a.R s) := by
  unfold sideO ordL
  rw [List.filter_append]
  rcases hs with rfl | rfl
  · rw [List.filter_eq_self.2 fun o ho => decide_eq_true (mem_ordR_side ho), List.filter_eq_nil_iff.2 fun o ho => by rw [mem_ordR_side ho]; simp, List.append_nil]
  · rw [List.filter_eq_nil_iff.2 fun o ho => by rw [mem_ordR_side ho]; simp, List.filter_eq_self.2 fun o ho => decide_eq_true (mem_ordR_side ho), List.nil_append]
theorem sideO_no (a : BA) {s : Int} (hs : ¬ (s = 1 ∨ s = 2)) : sideO (ordL a) s = [] := by
  unfold sideO
  rw [List.filter_eq_nil_iff]
  intro o ho
  have := side_ordL ho
  have : ¬ o.side = s := by rintro rfl; exact hs this
  simpa using this
theorem isB_of {s : Int} (hs : s = 1 ∨ s = 2) : isB s = true := by unfold isB; rcases hs with rfl | rfl <;> rfl
theorem isB_no {s : Int} (hs : ¬ (s = 1 ∨ s = 2)) : isB s = false := by
  unfold isB
  rw [Bool.or_eq_false_iff, beq_eq_false_iff_ne, beq_eq_false_iff_ne]
  omega
theorem qtys_cons (e : Ent) (L : List Ent) : qtys (e :: L) = e.qty + qtys L := by unfold qtys; rw [List.map_cons, List.sum_cons]
/-- a queue ahead of worse ones is one level -/
theorem grp_queue (s price : Int) (rest : List Lv) (hr : ∀ l ∈ rest.head?, l.price ≠ price) : ∀ L : List Ent, L ≠ [] → (L.map (ordO s price)).foldr addLv rest = ⟨price, qtys L, L.length⟩ :: rest := by
  intro L
  induction L with
  | nil => intro h; exact absurd rfl h
  | cons e L ih =>
    intro _
    rw [List.map_cons, List.foldr_cons]
    by_cases hL : L = []
    · subst hL
      rw [List.map_nil, List.foldr_nil, qtys_cons]
      have hq : qtys [] = 0 := rfl
      rw [hq, Int.add_zero]
      unfold addLv
      cases rest with
      | nil => rfl
      | cons l ls =>
        dsimp only
        rw [if_neg (show ¬ l.price = (ordO s price e).price from hr l rfl)]
        rfl
    · rw [ih hL, qtys_cons]
      unfold addLv
      dsimp only
      rw [if_pos (show price = (ordO s price e).price from rfl), List.length_cons]
      have : ((L.length + 1 : Nat) : Int) = 1 + (L.length : Int) := by omega
      rw [this]
      rfl
theorem grp_rungs (A : List (List Ent)) (s : Int) : ∀ R : List Rg, R.Pairwise (fun x y => betterP s x.price y.price = true) → (∀ r ∈ R, A.getD r.q [] ≠ []) → grp (ordR A s R) = R.map (toldL A) := by
  intro R
  induction R with
  | nil => intro _ _; rfl
  | cons r R ih =>
    intro hp hl
    rw [List.pairwise_cons] at hp
    have h1 := ih hp.2 fun x hx => hl x (List.mem_cons_of_mem _ hx)
    unfold grp ordR at *
    rw [List.flatMap_cons, List.foldr_append, h1, List.map_cons]
    unfold ordQ
    rw [grp_queue s r.price _ ?_ _ (hl r (List.mem_cons_self ..))]
    · unfold toldL totA cntA
      rw [if_neg (by omega), if_neg (by omega)]
      rfl
    · intro l hlm
      cases R with
      | nil => cases hlm
      | cons y R =>
        simp only [List.map_cons, List.head?_cons, Option.mem_def, Option.some.injEq] at hlm
        subst hlm
        have := hp.1 y (List.mem_cons_self ..)
        intro h2
        have h3 : y.price = r.price := h2
        rw [h3, better_irr] at this; cases this
theorem lad_sim {a : BA} (h : Inv a) (side : Int) : ladO (ordL a) side = if isB side = true then (a.R side).map (toldL a.A) else [] := by
  unfold ladO
  by_cases hs : side = 1 ∨ side = 2
  · rw [sideO_eq a hs, if_pos (isB_of hs)]
    exact grp_rungs _ _ _ (h.srt _ hs) fun r hr => h.live _ (rung_q hs hr) (by simp)
  · rw [sideO_no a hs, isB_no hs]; rfl
theorem best_sim {d : BD} (h : Inv d.abs) (side : Int) : bestL d side = bestO (ordL d.abs) side := by
  unfold bestL bestO
  rw [lad_sim h]
  cases isB side with
  | false => rfl
  | true =>
    rw [if_pos rfl, if_pos rfl]
    have e1 : d.abs.R side = d.R side := rfl
    have e2 : d.abs.A = d.A := rfl
    rw [e1, e2]
    cases d.R side <;> rfl
theorem ladL_sim {d : BD} (h : Inv d.abs) (side : Int) : ladL d side = ladO (ordL d.abs) side := by
  rw [lad_sim h]
  rfl
theorem ordR_filter (A : List (List Ent)) (s price : Int) (R : List Rg) (h : ∀ r ∈ R, r.price ≠ price) : (ordR A s R).filter (fun o => decide (o.side = s ∧ o.price = price)) = [] := by
  rw [List.filter_eq_nil_iff]
  intro o ho
  obtain ⟨r, hr, e, _, rfl⟩ := mem_ordR.1 ho
  have : ¬ (ordO s r.price e).price = price := h r hr
  simp [this]
theorem at_sim {d : BD} (h : Inv d.abs) (side price : Int) : atL d side price = atO (ordL d.abs) side price := by
  unfold atL
  by_cases hs : side = 1 ∨ side = 2
  · rw [if_pos (isB_of hs)]
    have e0 : atO (ordL d.abs) side price = (ordR d.A side (d.R side)).filter (fun o => decide (o.side = side ∧ o.price = price)) := by
      rw [show ordR d.A side (d.R side) = sideO (ordL d.abs) side from (sideO_eq d.abs hs).symm]
      unfold atO sideO
      rw [List.filter_filter]
      refine List.filter_congr fun o _ => ?_
      by_cases h1 : o.side = side <;> simp [h1]
    rw [e0]
    have hsrt : (d.R side).Pairwise (fun x y => betterP side x.price y.price = true) := h.srt side hs
    obtain ⟨p1, p2, p3⟩ := fnd_ahead hsrt price
    have n1 : ∀ x ∈ (d.R side).take (fnd (d.R side) side price).1, x.price ≠ price := fun x hx h1 => by
      have := p1 x hx
      rw [h1, better_irr] at this; cases this
    cases hf : (fnd (d.R side) side price).2 with
    | true =>
      rw [if_pos rfl]
      obtain ⟨r, hr, hrp, p4⟩ := p3 hf
      rw [rungQ_some hr]
      conv => rhs; rw [rung_split hr]
      rw [ordR_split, List.filter_append, List.filter_append, ordR_filter _ _ _ _ n1, ordR_filter _ _ _ _ (fun x hx h1 => by
        have := p4 x hx
        rw [h1, better_irr] at this; cases this), List.nil_append, List.append_nil, eq_comm, List.filter_eq_self]
      intro o ho
      unfold ordQ at ho
      obtain ⟨e, _, rfl⟩ := List.mem_map.1 ho
      exact decide_eq_true ⟨rfl, hrp⟩
    | false =>
      rw [if_neg (by simp)]
      have p2 := p2 hf
      conv => rhs; rw [← List.take_append_drop (fnd (d.R side) side price).1 (d.R side)]
      rw [ordR_app, List.filter_append, ordR_filter _ _ _ _ n1, ordR_filter _ _ _ _ (fun x hx h1 => by
        have := p2 x hx
        rw [h1, better_irr] at this; cases this), List.nil_append]
  · rw [isB_no hs]
    unfold atO
    rw [if_neg (by simp), eq_comm, List.filter_eq_nil_iff]
    intro o ho
    have := side_ordL ho
    have : ¬ o.side = side := by rintro rfl; exact hs this
    simp [this]
theorem find_sim {a : BA} (h : Inv a) (hw : Wf a.A) (id : Int) : fndO a id = findO (ordL a) id := by
  unfold findO
  cases hk : lookPl a.M id with
  | none => rw [h.find_none hk, fndO_none hk]
  | some p =>
    obtain ⟨o, ho, hoi⟩ := (h.look id).1 (by rw [hk]; rfl)
    obtain ⟨r, hr, hrp, e, he, hei, hes, hoe⟩ := h.at_ hk ho hoi
    rw [h.find_some ho hoi, fndO_some hk, ← hes, entE_of hw he]
    dsimp only
    rw [hoe, ← hei]
    rfl
/-! ### bounds -/
theorem Inv.short {d : BD} (h : Inv d.abs) : Short9 d := by
  have h1 := h.rungs
  have h2 := h.len
  have e1 : d.abs.R 1 = d.R0 := rfl
  have e2 : d.abs.R 2 = d.R1 := rfl
  rw [e1, e2] at h1
  refine ⟨fun side => ?_, fun q => ?_, ?_⟩
  · unfold BD.R
    split <;> omega
  · have h3 := h.tot
    have e3 : d.abs.A = d.A := rfl
    rw [e3] at h3
    rw [List.getD_eq_getElem?_getD]
    cases hq : d.A[q]? with
    | none => simp
    | some L =>
      have := le_sum (d.A.map List.length) q L.length (by rw [List.getElem?_map, hq]; rfl)
      simp only [Option.getD_some]
      omega
  · rw [ordsL_abs]; omega
theorem Inv.sp_len {d : BD} (h : Inv d.abs) : d.sp.length ≤ 250 ∧ d.A.length ≤ 250 := by
  have h1 := h.small
  have h2 := h.cov
  rw [List.length_append] at h2
  have e3 : d.abs.A = d.A := rfl
  have e4 : d.abs.sp = d.sp := rfl
  rw [e3] at h1 h2
  rw [e4] at h2
  omega
theorem Inv.fit {d : BD} (h : Inv d.abs) (id : Int) : ∀ p, lookPl d.M id = some p → (p.side = 1 ∨ p.side = 2) ∧ ∃ r, (d.R p.side)[(fnd (d.R p.side) p.side p.price).1]? = some r := by
  intro p hp
  obtain ⟨hs, r, hr, hrp, _⟩ := h.pl id p hp
  refine ⟨hs, r, ?_⟩
  have hr' : r ∈ d.R p.side := hr
  obtain ⟨n, hn, hrn⟩ := List.getElem_of_mem hr'
  have hrn' : (d.R p.side)[n]? = some r := by rw [List.getElem?_eq_getElem hn, hrn]
  have := fnd_at (h.srt _ hs) hrn'
  rw [hrp] at this
  have e1 : d.abs.R p.side = d.R p.side := rfl
  rw [e1] at this
  rw [this]; exact hrn'
end Go.Proofs.Ytmhljdkhekjfmaa

/- The book's contracts over the document's list. -/
namespace Go.Proofs.Ytmhljdkhekjfmaa
open Go.RowKit

/-- in this world a book lies that holds these orders -/
structure BL (w : World) (pb B : Nat) (d : BD) (L : List Od) : Prop where
  bk : Bk w pb d B
  inv : Inv d.abs
  led : Led d.abs
  ord : ordL d.abs = L
section
variable {w w' : World} {pb B : Nat} {d : BD} {L : List Od}
theorem BL.wf (h : BL w pb B d L) : Wf d.abs.A := Wf.of h.bk.la
theorem BL.below (h : BL w pb B d L) (hb : Below w.heap.size w w') : BL w' pb B d L := ⟨h.bk.below hb, h.inv, h.led, h.ord⟩
theorem BL.keep {F : Nat → Prop} (h : BL w pb B d L) (hk : Keeps F w w') (hf : ∀ g, BF pb d g → ¬ F g) : BL w' pb B d L := ⟨h.bk.keep hk hf, h.inv, h.led, h.ord⟩
theorem bl_new (w : World) (B : Nat) :
    Calls Try.prog 10 #[] w fun e w' => ∃ pb d, e = .returned (.pointer (some ⟨pb, 0, none⟩)) ∧ BL w' pb B d [] ∧ (∀ g, BF pb d g → w.heap.size ≤ g) ∧ Below w.heap.size w w' :=
  (new9 w B).mono fun _ _ ⟨pb, d, h1, h2, h3, h4, h5⟩ => ⟨pb, d, h1, ⟨h2, by rw [h3]; exact empty_inv.1, by rw [h3]; exact empty_inv.2.1, by rw [h3]; exact empty_inv.2.2⟩, h4, h5⟩
theorem bl_add (h : BL w pb B d L) (hB : B ≤ w.heap.size) (id side price qty : Int) :
    Calls Try.prog 13 #[.pointer (some ⟨pb, 0, none⟩), .int .i64 id, .int .i64 side, .int .i64 price, .int .i64 qty] w fun e w' => e = .returned (.int .i64 (refAdd L id side price qty).2) ∧ ∃ d', Tn w w' pb B d d' ∧ BL w' pb B d' (refAdd L id side price qty).1 := by
  obtain ⟨s1, s2, s3, s4⟩ := add_sim h.inv h.led h.wf id side price qty
  have h1 := h.inv.short
  have h2 := h.inv.sp_len
  refine (add_any9 h.bk id side price qty h1.r (by omega) (by omega) hB).mono ?_
  rintro e w' ⟨rfl, d', ht, ha⟩
  rw [h.ord] at s3 s4
  exact ⟨by rw [s4], d', ht, ht.bk, by rw [ha]; exact s1, by rw [ha]; exact s2, by rw [ha]; exact s3⟩
theorem bl_fill (h : BL w pb B d L) (hB : B ≤ w.heap.size) (id qty : Int) :
    Calls Try.prog 14 #[.pointer (some ⟨pb, 0, none⟩), .int .i64 id, .int .i64 qty] w fun e w' => e = .returned (.int .i64 (refFill L id qty).2) ∧ ∃ d', Tn w w' pb B d d' ∧ BL w' pb B d' (refFill L id qty).1 := by
  obtain ⟨s1, s2, s3, s4⟩ := fill_sim h.inv h.led h.wf id qty
  have h1 := h.inv.short
  have h2 := h.inv.sp_len
  refine (fill_any h.bk id qty (h.inv.fit id) h1.r (by omega) hB).mono ?_
  rintro e w' ⟨rfl, d', ht, ha⟩
  rw [h.ord] at s3 s4
  exact ⟨by rw [s4], d', ht, ht.bk, by rw [ha]; exact s1, by rw [ha]; exact s2, by rw [ha]; exact s3⟩
theorem bl_find (h : BL w pb B d L) (id : Int) :
    Calls Try.prog 23 #[.pointer (some ⟨pb, 0, none⟩), .int .i64 id] w fun e w' => e = .returned (.tuple #[.agg (findO L id).1.cells.toArray, .bool (findO L id).2]) ∧ Below w.heap.size w w' := by
  rw [← h.ord, ← find_sim h.inv h.wf id]
  exact find_od h.bk id
theorem bl_best (h : BL w pb B d L) (side : Int) :
    Calls Try.prog 12 #[.pointer (some ⟨pb, 0, none⟩), .int .i64 side] w fun e w' => e = .returned (.tuple #[.agg (bestO L side).1.cells.toArray, .bool (bestO L side).2]) ∧ Below w.heap.size w w' := by
  rw [← h.ord, ← best_sim h.inv side]
  exact best_any9 h.bk side
theorem bl_lad (h : BL w pb B d L) (side : Int) :
    Calls Try.prog 19 #[.pointer (some ⟨pb, 0, none⟩), .int .i64 side] w fun e w' => ∃ v, e = .returned v ∧ LV.Row w' w.heap.size v (ladO L side) ∧ Below w.heap.size w w' := by
  rw [← h.ord, ← ladL_sim h.inv side]
  exact ladder_any h.bk side (h.inv.short.r side)
theorem bl_at (h : BL w pb B d L) (side price : Int) :
    Calls Try.prog 20 #[.pointer (some ⟨pb, 0, none⟩), .int .i64 side, .int .i64 price] w fun e w' => ∃ v, e = .returned v ∧ OD.Row w' w.heap.size v (atO L side price) ∧ Below w.heap.size w w' := by
  rw [← h.ord, ← at_sim h.inv side price]
  exact at_any h.bk side price h.inv.short
theorem bl_orders (h : BL w pb B d L) :
    Calls Try.prog 15 #[.pointer (some ⟨pb, 0, none⟩)] w fun e w' => ∃ v, e = .returned v ∧ OD.Row w' w.heap.size v L ∧ Below w.heap.size w w' := by
  rw [← h.ord, ← ordsL_abs]
  exact orders_all h.bk h.inv.short
theorem bl_count (h : BL w pb B d L) :
    Calls Try.prog 18 #[.pointer (some ⟨pb, 0, none⟩)] w fun e w' => e = .returned (.int .i64 L.length) ∧ w = w' := by
  rw [← h.ord, ← h.inv.count]
  exact count_any h.bk
/-! ### what such orders are -/
theorem BL.len (h : BL w pb B d L) : L.length ≤ 250 := by rw [← h.ord]; exact h.inv.len
theorem BL.side (h : BL w pb B d L) {o : Od} (ho : o ∈ L) : o.side = 1 ∨ o.side = 2 := by rw [← h.ord] at ho; exact side_ordL ho
theorem BL.ids (h : BL w pb B d L) : (L.map Od.id).Nodup := by rw [← h.ord]; exact h.inv.ids
theorem BL.qty (h : BL w pb B d L) {o : Od} (ho : o ∈ L) : 1 ≤ o.qty ∧ o.qty ≤ 1000000 := by
  rw [← h.ord] at ho
  obtain ⟨s, _, r, _, e, he, rfl⟩ := mem_ordL.1 ho
  exact h.wf.q he
end
end Go.Proofs.Ytmhljdkhekjfmaa

/- A law's own book: what its calls leave as it is. -/
namespace Go.Proofs.Ytmhljdkhekjfmaa
open Go.RowKit

/-- a type of which no block of a book is -/
def nbT (t : TypeId) : Bool := t != 65 && t != 104 && t != 110 && t != 114 && t != 69 && t != 3
/-- blocks that a book's calls may turn -/
def Fb (w : World) (g : Nat) : Prop := ¬ ∃ t, Tyd w g t ∧ nbT t = true
/-- a book of the law's own -/
def OB (W w : World) (pb : Nat) (L : List Od) : Prop := ∃ d, BL w pb W.heap.size d L ∧ (∀ g, BF pb d g → W.heap.size ≤ g) ∧ Below W.heap.size W w
section
variable {W w w' : World} {pb B : Nat} {d d' : BD} {L L' : List Od}
theorem Tyd.inj {g : Nat} {t t' : TypeId} (h : Tyd w g t) (h' : Tyd w g t') : t = t' := by
  obtain ⟨cs, h⟩ := h
  obtain ⟨cs', h'⟩ := h'
  rw [h] at h'
  injection h' with h'
  injection h'
theorem Bk.fb (h : Bk w pb d B) {g : Nat} (hg : BF pb d g) : Fb w g := by
  rintro ⟨t, ht, hn⟩
  obtain ⟨t1, t2, t3⟩ := h.la.tyd
  have hno : ∀ t', Tyd w g t' → nbT t' = false → False := fun t' h1 h2 => by
    rw [ht.inj h1, h2] at hn; cases hn
  rcases hg with rfl | (rfl | rfl | hg) | rfl | hg | hg | hg
  · exact hno _ h.box.tyd (by decide)
  · exact hno _ t1 (by decide)
  · exact hno _ t2 (by decide)
  · exact hno _ (t3 g hg) (by decide)
  · exact h.mp.not_cells ht
  · exact hno _ (own_tyd h.r0 g hg) (by decide)
  · exact hno _ (own_tyd h.r1 g hg) (by decide)
  · exact hno _ (own_tyd h.sp g hg) (by decide)
theorem Tn.fb (h : Bk w pb d B) (ht : Tn w w' pb B d d') : Keeps (Fb w) w w' := ht.kp.more fun _ hg => h.fb hg
theorem OB.below (h : OB W w pb L) (hb : Below w.heap.size w w') : OB W w' pb L := by
  obtain ⟨d, h1, h2, h3⟩ := h
  exact ⟨d, h1.below hb, h2, h3.trans (hb.mono h3.size)⟩
theorem OB.bel (h : OB W w pb L) : Below W.heap.size W w := by
  obtain ⟨d, h1, h2, h3⟩ := h
  exact h3
theorem OB.turn (hf : ∀ g, BF pb d g → W.heap.size ≤ g) (hb : Below W.heap.size W w) (ht : Tn w w' pb W.heap.size d d') (h' : BL w' pb W.heap.size d' L') : OB W w' pb L' := by
  refine ⟨d', h', fun g hg => ?_, hb.trans (ht.kp.below hf hb.size)⟩
  rcases ht.fp g hg with h1 | h1
  · exact hf g h1
  · exact Nat.le_trans hb.size h1
/-- a store into a block that is no book's -/
theorem OB.set_ (h : OB W w pb L) {g i : Nat} {t : TypeId} (hg : Tyd w g t) (hn : nbT t = true) (hW : W.heap.size ≤ g) (u : Value) : OB W (w.setCell ⟨g, i, none⟩ u) pb L := by
  obtain ⟨d, h1, h2, h3⟩ := h
  have hk : Keeps (fun k => k = g) w (w.setCell ⟨g, i, none⟩ u) := (Keeps.refl (fun k => k = g) w).setCell (p := ⟨g, i, none⟩) (fun _ => rfl) u
  refine ⟨d, h1.keep hk (fun k hkk e => ?_), h2, h3.setCell (p := ⟨g, i, none⟩) hW u⟩
  subst e
  exact h1.bk.fb hkk ⟨t, hg, hn⟩
theorem Blk.fb {g : Nat} {t : TypeId} {cs : Array Value} (h : Blk w g t cs) (hk : Keeps (Fb w) w w') (hn : nbT t = true) : Blk w' g t cs := h.keeps hk (fun hf => hf ⟨t, h.tyd, hn⟩)
theorem Lay.Row.fb {α : Type} {Y : Lay α} {v : Value} {M : List α} (h : Y.Row w B v M) (hk : Keeps (Fb w) w w') (hn : nbT Y.t = true) : Y.Row w' B v M := own_keep h hk fun g hg hf => hf ⟨_, own_tyd h g hg, hn⟩
theorem ob_new (W w : World) (hb : Below W.heap.size W w) :
    Calls Try.prog 10 #[] w fun e w' => ∃ pb, e = .returned (.pointer (some ⟨pb, 0, none⟩)) ∧ OB W w' pb [] ∧ Below w.heap.size w w' :=
  (bl_new w W.heap.size).mono fun _ _ ⟨pb, d, h1, h2, h3, h4⟩ => ⟨pb, h1, ⟨d, h2, fun g hg => Nat.le_trans hb.size (h3 g hg), hb.trans (h4.mono hb.size)⟩, h4⟩
theorem ob_add (h : OB W w pb L) (id side price qty : Int) :
    Calls Try.prog 13 #[.pointer (some ⟨pb, 0, none⟩), .int .i64 id, .int .i64 side, .int .i64 price, .int .i64 qty] w fun e w' => e = .returned (.int .i64 (refAdd L id side price qty).2) ∧ OB W w' pb (refAdd L id side price qty).1 ∧ Keeps (Fb w) w w' := by
  obtain ⟨d, h1, h2, h3⟩ := h
  exact (bl_add h1 h3.size id side price qty).mono fun _ _ ⟨e1, d', ht, h'⟩ => ⟨e1, OB.turn h2 h3 ht h', ht.fb h1.bk⟩
theorem ob_fill (h : OB W w pb L) (id qty : Int) :
    Calls Try.prog 14 #[.pointer (some ⟨pb, 0, none⟩), .int .i64 id, .int .i64 qty] w fun e w' => e = .returned (.int .i64 (refFill L id qty).2) ∧ OB W w' pb (refFill L id qty).1 ∧ Keeps (Fb w) w w' := by
  obtain ⟨d, h1, h2, h3⟩ := h
  exact (bl_fill h1 h3.size id qty).mono fun _ _ ⟨e1, d', ht, h'⟩ => ⟨e1, OB.turn h2 h3 ht h', ht.fb h1.bk⟩
theorem ob_find (h : OB W w pb L) (id : Int) :
    Calls Try.prog 23 #[.pointer (some ⟨pb, 0, none⟩), .int .i64 id] w fun e w' => e = .returned (.tuple #[.agg (findO L id).1.cells.toArray, .bool (findO L id).2]) ∧ Below w.heap.size w w' := by
  obtain ⟨d, h1, _, _⟩ := h
  exact bl_find h1 id
theorem ob_best (h : OB W w pb L) (side : Int) :
    Calls Try.prog 12 #[.pointer (some ⟨pb, 0, none⟩), .int .i64 side] w fun e w' => e = .returned (.tuple #[.agg (bestO L side).1.cells.toArray, .bool (bestO L side).2]) ∧ Below w.heap.size w w' := by
  obtain ⟨d, h1, _, _⟩ := h
  exact bl_best h1 side
theorem ob_lad (h : OB W w pb L) (side : Int) :
    Calls Try.prog 19 #[.pointer (some ⟨pb, 0, none⟩), .int .i64 side] w fun e w' => ∃ v, e = .returned v ∧ LV.Row w' w.heap.size v (ladO L side) ∧ Below w.heap.size w w' := by
  obtain ⟨d, h1, _, _⟩ := h
  exact bl_lad h1 side
theorem ob_at (h : OB W w pb L) (side price : Int) :
    Calls Try.prog 20 #[.pointer (some ⟨pb, 0, none⟩), .int .i64 side, .int .i64 price] w fun e w' => ∃ v, e = .returned v ∧ OD.Row w' w.heap.size v (atO L side price) ∧ Below w.heap.size w w' := by
  obtain ⟨d, h1, _, _⟩ := h
  exact bl_at h1 side price
theorem ob_orders (h : OB W w pb L) :
    Calls Try.prog 15 #[.pointer (some ⟨pb, 0, none⟩)] w fun e w' => ∃ v, e = .returned v ∧ OD.Row w' w.heap.size v L ∧ Below w.heap.size w w' := by
  obtain ⟨d, h1, _, _⟩ := h
  exact bl_orders h1
theorem ob_count (h : OB W w pb L) :
    Calls Try.prog 18 #[.pointer (some ⟨pb, 0, none⟩)] w fun e w' => e = .returned (.int .i64 L.length) ∧ w = w' := by
  obtain ⟨d, h1, _, _⟩ := h
  exact bl_count h1
theorem OB.len (h : OB W w pb L) : L.length ≤ 250 := by
  obtain ⟨d, h1, _, _⟩ := h
  exact h1.len
theorem OB.side (h : OB W w pb L) {o : Od} (ho : o ∈ L) : o.side = 1 ∨ o.side = 2 := by
  obtain ⟨d, h1, _, _⟩ := h
  exact h1.side ho
theorem OB.ids (h : OB W w pb L) : (L.map Od.id).Nodup := by
  obtain ⟨d, h1, _, _⟩ := h
  exact h1.ids
theorem OB.qty (h : OB W w pb L) {o : Od} (ho : o ∈ L) : 1 ≤ o.qty ∧ o.qty ≤ 1000000 := by
  obtain ⟨d, h1, _, _⟩ := h
  exact h1.qty ho
end
end Go.Proofs.Ytmhljdkhekjfmaa
