/- Which slots are taken, as the queues turn; cornhilllaw8.known; asks in memory. -/
import Derived.Test.YtbpmoomklknkkaaLevB
import Derived.Test.YtbpmoomklknkkaaWith
namespace Go.Proofs.Ytbpmoomklknkkaa
open Go.RowKit

def Taken (A : List (List Ent)) (i : Nat) : Prop := ∃ (n j : Nat) (L : List Ent) (e : Ent), A[n]? = some L ∧ L[j]? = some e ∧ e.slot = i
theorem taken_iff (A : List (List Ent)) (i : Nat) : (findA A (i : Int)).isSome = true ↔ Taken A i := by
  cases hf : findA A (i : Int) with
  | none =>
    constructor
    · intro h; cases h
    · rintro ⟨n, j, L, e, h1, h2, h3⟩
      exact absurd (by omega) (findA_none hf n j L e h1 h2)
  | some x =>
    obtain ⟨n, j, e⟩ := x
    obtain ⟨L, h1, h2, h3⟩ := findA_some hf
    exact ⟨fun _ => ⟨n, j, L, e, h1, h2, by omega⟩, fun _ => rfl⟩
def tk (A : List (List Ent)) (i : Nat) : Bool := (findA A (i : Int)).isSome
theorem tk_eq {A B : List (List Ent)} {i j : Nat} (h : Taken A i ↔ Taken B j) : tk A i = tk B j := by
  unfold tk
  rw [Bool.eq_iff_iff, taken_iff, taken_iff]
  exact h
theorem tk_false {A : List (List Ent)} {i : Nat} (h : ¬ Taken A i) : tk A i = false := by
  unfold tk
  rw [← Bool.not_eq_true, taken_iff]
  exact h
theorem tk_true {A : List (List Ent)} {i : Nat} (h : Taken A i) : tk A i = true := (taken_iff A i).2 h

/-- no two orders are in one slot -/
def Apart (A : List (List Ent)) : Prop := ∀ (n j n' j' : Nat) (L L' : List Ent) (e e' : Ent), A[n]? = some L → L[j]? = some e → A[n']? = some L' → L'[j']? = some e' → e.slot = e'.slot → n = n' ∧ j = j'

theorem taken_push {A : List (List Ent)} {n : Nat} {L : List Ent} (hn : A[n]? = some L) (e : Ent) (i : Nat) : Taken (A.set n (L ++ [e])) i ↔ Taken A i ∨ i = e.slot := by
  have hnl := lt_of_get hn
  constructor
  · rintro ⟨n', j', L', e', h1, h2, h3⟩
    rw [List.getElem?_set] at h1
    by_cases hnn : n = n'
    · subst hnn
      rw [if_pos rfl, if_pos hnl] at h1
      injection h1 with h1
      subst h1
      rw [List.getElem?_append] at h2
      split at h2
      · exact .inl ⟨n, j', L, e', hn, h2, h3⟩
      · have h4 := lt_of_get h2
        have h5 : j' - L.length = 0 := by simp at h4; omega
        rw [h5] at h2
        simp at h2
        exact .inr (by rw [h2, h3])
    · rw [if_neg hnn] at h1
      exact .inl ⟨n', j', L', e', h1, h2, h3⟩
  · rintro (⟨n', j', L', e', h1, h2, h3⟩ | h)
    · by_cases hnn : n = n'
      · subst hnn
        rw [hn] at h1
        injection h1 with h1
        subst h1
        exact ⟨n, j', L ++ [e], e', by rw [List.getElem?_set_self hnl], by rw [List.getElem?_append_left (lt_of_get h2)]; exact h2, h3⟩
      · exact ⟨n', j', L', e', by rw [List.getElem?_set_ne hnn]; exact h1, h2, h3⟩
    · exact ⟨n, L.length, L ++ [e], e, by rw [List.getElem?_set_self hnl], by simp, h.symm⟩
theorem taken_gone {A : List (List Ent)} (ha : Apart A) {n j : Nat} {L : List Ent} {e : Ent} (hn : A[n]? = some L) (hj : L[j]? = some e) (i : Nat) : Taken (A.set n (L.eraseIdx j)) i ↔ Taken A i ∧ i ≠ e.slot := by
  have hnl := lt_of_get hn
  constructor
  · rintro ⟨n', j', L', e', h1, h2, h3⟩
    rw [List.getElem?_set] at h1
    by_cases hnn : n = n'
    · subst hnn
      rw [if_pos rfl, if_pos hnl] at h1
      injection h1 with h1
      subst h1
      rw [List.getElem?_eraseIdx] at h2
      split at h2
      · exact ⟨⟨n, j', L, e', hn, h2, h3⟩, fun h => by have := (ha n j' n j L L e' e hn h2 hn hj (by omega)).2; omega⟩
      · exact ⟨⟨n, j' + 1, L, e', hn, h2, h3⟩, fun h => by have := (ha n (j' + 1) n j L L e' e hn h2 hn hj (by omega)).2; omega⟩
    · rw [if_neg hnn] at h1
      exact ⟨⟨n', j', L', e', h1, h2, h3⟩, fun h => hnn (ha n' j' n j L' L e' e h1 h2 hn hj (by omega)).1.symm⟩
  · rintro ⟨⟨n', j', L', e', h1, h2, h3⟩, hne⟩
    by_cases hnn : n = n'
    · subst hnn
      rw [hn] at h1
      injection h1 with h1
      subst h1
      have hjj : j' ≠ j := by
        rintro rfl
        rw [hj] at h2
        injection h2 with h2
        exact hne (by rw [h2, h3])
      refine ⟨n, if j' < j then j' else j' - 1, L.eraseIdx j, e', by rw [List.getElem?_set_self hnl], ?_, h3⟩
      rw [List.getElem?_eraseIdx]
      by_cases hx : j' < j
      · rw [if_pos hx, if_pos hx]; exact h2
      · rw [if_neg hx, if_neg (by omega), show j' - 1 + 1 = j' by omega]; exact h2
    · exact ⟨n', j', L', e', by rw [List.getElem?_set_ne hnn]; exact h1, h2, h3⟩

section
variable {w : World} {pb sb : Nat} {qa : Option Addr} {room : Nat} {A : List (List Ent)}
theorem LA.apart (h : LA w pb sb qa room A) : Apart A := by
  obtain ⟨S, qc, Q, F, hc, hr, hl⟩ := h
  exact hr.inj
theorem LA.qty (h : LA w pb sb qa room A) : ∀ (n j : Nat) (L : List Ent) (e : Ent), A[n]? = some L → L[j]? = some e → 1 ≤ e.qty ∧ e.qty ≤ 1000000 := by
  obtain ⟨S, qc, Q, F, hc, hr, hl⟩ := h
  exact hr.qty
theorem LA.slots (h : LA w pb sb qa room A) : ∀ (n j : Nat) (L : List Ent) (e : Ent), A[n]? = some L → L[j]? = some e → e.slot < room := by
  obtain ⟨S, qc, Q, F, hc, hr, hl⟩ := h
  intro n j L e h1 h2
  rw [← hl]
  exact lt_of_get (hr.at_ n j L e h1 h2)
theorem LA.small (h : LA w pb sb qa room A) : (A.map List.length).sum ≤ room ∧ room ≤ 4096 := by
  obtain ⟨S, qc, Q, F, hc, hr, hl⟩ := h
  have := hr.sum
  have := hr.room
  have := hc.room
  omega
/-- as many slots are taken as there are orders -/
theorem LA.count (h : LA w pb sb qa room A) : (List.range room).countP (tk A) = (A.map List.length).sum := by
  obtain ⟨S, qc, Q, F, hc, hr, hl⟩ := h
  have h1 : S.map Slt.used = (List.range room).map (tk A) := by
    apply List.ext_getElem
    · simp [hl]
    · intro i hi hi'
      simp only [List.getElem_map, List.getElem_range]
      exact hr.used i (by simpa using hi)
  have h2 : S.countP (fun s => !s.used) = (List.range room).countP (fun i => !tk A i) := by
    have a : S.countP (fun s => !s.used) = (S.map Slt.used).countP (fun b => !b) := by rw [List.countP_map]; rfl
    have b : (List.range room).countP (fun i => !tk A i) = ((List.range room).map (tk A)).countP (fun b => !b) := by rw [List.countP_map]; rfl
    rw [a, b, h1]
  have h3 : ∀ l : List Nat, l.countP (tk A) + l.countP (fun i => !tk A i) = l.length := by
    intro l
    induction l with
    | nil => rfl
    | cons x l ih => simp only [List.countP_cons, List.length_cons]; cases tk A x <;> simp <;> omega
  have h4 := h3 (List.range room)
  rw [List.length_range] at h4
  have h5 := hr.free
  have h6 := hr.sum
  omega
theorem LA.least_none_sum (h : LA w pb sb qa room A) : leastFree room A = none ↔ (A.map List.length).sum = room := by
  have hc := h.count
  constructor
  · intro hl
    have h1 := least_none hl
    rw [← hc]
    have : (List.range room).countP (tk A) = (List.range room).length := by
      rw [List.countP_eq_length]
      intro i hi
      exact h1 i (List.mem_range.1 hi)
    rw [this, List.length_range]
  · intro hs
    cases hl : leastFree room A with
    | none => rfl
    | some r =>
      obtain ⟨h1, h2, _⟩ := least_some hl
      rw [← hc] at hs
      have h3 : (List.range room).countP (tk A) = (List.range room).length := by rw [hs, List.length_range]
      rw [List.countP_eq_length] at h3
      have := h3 r (List.mem_range.2 h1)
      unfold tk at this
      rw [h2] at this
      cases this
theorem LF_ge {B : Nat} (h1 : B ≤ pb) (h2 : B ≤ sb) (h3 : ∀ g, qa = some ⟨g, 0, none⟩ → B ≤ g) : ∀ k, LF pb sb qa k → B ≤ k := by
  rintro k (h | h | h)
  · omega
  · omega
  · exact h3 k h
end

theorem known_0 : takeA [[⟨0, 7, 5, false⟩, ⟨1, 8, 6, true⟩]] 0 5 = ([[⟨1, 8, 6, true⟩]], 0) := by rfl
theorem known_1 : pushA 4 [[]] 0 7 5 false = ([[⟨0, 7, 5, false⟩]], 0, 0) := by rfl
theorem known_2 : pushA 4 [[⟨0, 7, 5, false⟩]] 0 8 6 true = ([[⟨0, 7, 5, false⟩, ⟨1, 8, 6, true⟩]], 1, 0) := by rfl
theorem known_3 : pushA 4 [[⟨1, 8, 6, true⟩]] 0 9 1 false = ([[⟨1, 8, 6, true⟩, ⟨0, 9, 1, false⟩]], 0, 0) := by rfl

set_option maxRecDepth 100000 in
set_option maxHeartbeats 1000000 in
theorem known_any (w : World) :
    Calls Try.prog 16 #[] w fun e w' => e = .returned (.bool true) ∧ Below w.heap.size w w' := by
  go_enter Try.func16, Try.ntmps16
  go_wp2_with fail
  refine (la_new 4 _ (by omega) (by omega)).mono ?_
  rintro e w1 ⟨rfl, h1, k1⟩
  have B1 := Lib.hid (k1.below (B := w.heap.size) (fun _ h => h.elim) (Nat.le_refl _))
  go_wp2_with fail
  refine (la_open h1 (by simp)).mono ?_
  rintro e w2 ⟨rfl, ⟨qb, hqb, h2⟩, k2⟩
  have hqb2 : w.heap.size ≤ qb := by
    rcases hqb with h | h
    · cases h
    · have := B1.out.size; omega
  have hge := LF_ge (pb := w.heap.size + 1) (sb := w.heap.size) (qa := some ⟨qb, 0, none⟩) (B := w.heap.size) (by omega) (by omega) (fun g hg => by injection hg with hg; injection hg with hg; omega)
  have B2 := Lib.hid (B1.out.trans (k2.below (LF_ge (by omega) (by omega) (fun g hg => by cases hg)) B1.out.size))
  clear h1 k1 k2 hqb
  go_wp2_with fail
  refine (la_push h2 0 7 5 false).mono ?_
  rw [List.nil_append, known_1]
  rintro e w3 ⟨rfl, h3, k3⟩
  have B3 := Lib.hid (B2.out.trans (k3.below hge B2.out.size))
  clear h2 k3
  go_wp2_with fail
  refine (la_push h3 0 8 6 true).mono ?_
  rw [known_2]
  rintro e w4 ⟨rfl, h4, k4⟩
  have B4 := Lib.hid (B3.out.trans (k4.below hge B3.out.size))
  clear h3 k4
  go_wp2_with fail
  refine (la_take h4 0 5).mono ?_
  rw [known_0]
  rintro e w5 ⟨rfl, h5, k5⟩
  have B5 := Lib.hid (B4.out.trans (k5.below hge B4.out.size))
  clear h4 k5
  go_wp2_with fail
  refine (la_push h5 0 9 1 false).mono ?_
  rw [known_3]
  rintro e w6 ⟨rfl, h6, k6⟩
  have B6 := Lib.hid (B5.out.trans (k6.below hge B5.out.size))
  clear h5 k6
  go_wp2_with fail
  refine (la_total h6 0).mono ?_
  rintro e w7 ⟨rfl, rfl⟩
  rw [show totA [[(⟨1, 8, 6, true⟩ : Ent), ⟨0, 9, 1, false⟩]] 0 = 7 from rfl]
  go_wp2_with fail
  refine (la_count h6 0).mono ?_
  rintro e w7 ⟨rfl, rfl⟩
  rw [show cntA [[(⟨1, 8, 6, true⟩ : Ent), ⟨0, 9, 1, false⟩]] 0 = 2 from rfl]
  go_wp2_with fail
  refine (la_free h6).mono ?_
  rintro e w7 ⟨rfl, rfl⟩
  rw [show (((4 : Nat) : Int) - (([[(⟨1, 8, 6, true⟩ : Ent), ⟨0, 9, 1, false⟩]].map List.length).sum : Nat)) = 2 from rfl]
  go_wp2_with fail
  go_ret
  exact ⟨rfl, B6.out⟩

/-! ### asks -/
structure AskR where
  kind : Int
  queue : Int
  slot : Int
  id : Int
  qty : Int
  top : Bool
def i64ok (n : Int) : Prop := -9223372036854775808 ≤ n ∧ n ≤ 9223372036854775807
def AskR.ok (x : AskR) : Prop := i64ok x.kind ∧ i64ok x.queue ∧ i64ok x.slot ∧ i64ok x.id ∧ i64ok x.qty
/-- the ask at place k of a row -/
def AskAt (w : World) (b off k : Nat) (x : AskR) : Prop :=
  w.cell? ⟨b, off + k * 6, none⟩ = some (.int .i64 x.kind) ∧ w.cell? ⟨b, off + k * 6 + 1, none⟩ = some (.int .i64 x.queue) ∧ w.cell? ⟨b, off + k * 6 + 2, none⟩ = some (.int .i64 x.slot) ∧
  w.cell? ⟨b, off + k * 6 + 3, none⟩ = some (.int .i64 x.id) ∧ w.cell? ⟨b, off + k * 6 + 4, none⟩ = some (.int .i64 x.qty) ∧ w.cell? ⟨b, off + k * 6 + 5, none⟩ = some (.bool x.top)
theorem AskAt.below {w w' : World} {b off k : Nat} {x : AskR} (h : AskAt w b off k x) (hb : Below w.heap.size w w') (hl : b < w.heap.size) : AskAt w' b off k x := by
  obtain ⟨h0, h1, h2, h3, h4, h5⟩ := h
  have e : ∀ o, w'.cell? ⟨b, o, none⟩ = w.cell? ⟨b, o, none⟩ := fun o => hb.cell (p := ⟨b, o, none⟩) hl
  exact ⟨(e _).trans h0, (e _).trans h1, (e _).trans h2, (e _).trans h3, (e _).trans h4, (e _).trans h5⟩
/-- a slice of asks that came in -/
def Asks (w : World) (p : Option Addr) (n : Nat) (f : Nat → AskR) : Prop :=
  (∀ k, (f k).ok) ∧ ∀ k, k < n → ∃ b off, p = some ⟨b, off, none⟩ ∧ b < w.heap.size ∧ AskAt w b off k (f k)
end Go.Proofs.Ytbpmoomklknkkaa
