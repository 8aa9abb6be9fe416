/- Queues of orders as lists, and how they lie in slots linked by their numbers: the plain law. No walk. -/
import Derived.Test.YtbpmoomklknkkaaList
namespace Go.Proofs.Ytbpmoomklknkkaa

/-- an order of a queue -/
structure Ent where
  slot : Nat
  id : Int
  qty : Int
  top : Bool

/-- the number of the slot at place j; none: -1 -/
def sl (L : List Ent) (j : Nat) : Int := match L[j]? with | some e => (e.slot : Int) | none => -1
/-- the number of the slot ahead of place j; none: -1 -/
def pv (L : List Ent) (j : Nat) : Int := if j = 0 then -1 else sl L (j - 1)
def sltOf (n : Nat) (L : List Ent) (j : Nat) (e : Ent) : Slt := ⟨true, e.slot, e.id, e.qty, e.top, n, pv L j, sl L (j + 1)⟩
def qtys (L : List Ent) : Int := (L.map Ent.qty).sum
def queOf (L : List Ent) : Que := ⟨sl L 0, pv L L.length, qtys L, L.length⟩

theorem sl_some {L : List Ent} {j : Nat} {e : Ent} (h : L[j]? = some e) : sl L j = e.slot := by unfold sl; rw [h]
theorem sl_none {L : List Ent} {j : Nat} (h : L.length ≤ j) : sl L j = -1 := by unfold sl; rw [List.getElem?_eq_none h]
theorem sl_ge (L : List Ent) (j : Nat) : -1 ≤ sl L j := by
  unfold sl; split <;> omega
theorem pv_zero (L : List Ent) : pv L 0 = -1 := rfl
theorem pv_succ (L : List Ent) (j : Nat) : pv L (j + 1) = sl L j := rfl
theorem lt_of_get {α : Type} {L : List α} {j : Nat} {e : α} (h : L[j]? = some e) : j < L.length := by
  rcases Nat.lt_or_ge j L.length with hl | hl
  · exact hl
  · rw [List.getElem?_eq_none hl] at h; cases h
theorem sl_neg {L : List Ent} {j : Nat} (h : sl L j = -1) : L.length ≤ j := by
  rcases Nat.lt_or_ge j L.length with hl | hl
  · rw [sl_some (List.getElem?_eq_getElem hl)] at h; omega
  · exact hl

/-- the queues A lie in the slots S and the queues' rows Q; F slots are free -/
structure Rep (A : List (List Ent)) (S : List Slt) (Q : List Que) (F : Int) : Prop where
  qs : Q = A.map queOf
  at_ : ∀ (n j : Nat) (L : List Ent) (e : Ent), A[n]? = some L → L[j]? = some e → S[e.slot]? = some (sltOf n L j e)
  inj : ∀ (n j n' j' : Nat) (L L' : List Ent) (e e' : Ent), A[n]? = some L → L[j]? = some e → A[n']? = some L' → L'[j']? = some e' → e.slot = e'.slot → n = n' ∧ j = j'
  un : ∀ (i : Nat) (s : Slt), S[i]? = some s → s.used = true → ∃ (n j : Nat) (L : List Ent) (e : Ent), A[n]? = some L ∧ L[j]? = some e ∧ e.slot = i
  fr : ∀ (i : Nat) (s : Slt), S[i]? = some s → s.used = false → s = Slt.none_
  free : F = (S.countP (fun s => !s.used) : Nat)
  sum : F + (A.map List.length).sum = S.length
  qty : ∀ (n j : Nat) (L : List Ent) (e : Ent), A[n]? = some L → L[j]? = some e → 1 ≤ e.qty ∧ e.qty ≤ 1000000

/-! ### lists -/
theorem getq {A : List (List Ent)} {n : Nat} {L : List Ent} (h : A[n]? = some L) {Q : List Que} (hQ : Q = A.map queOf) : Q[n]? = some (queOf L) := by
  rw [hQ, List.getElem?_map, h]; rfl
theorem sum_set (l : List Nat) (n x y : Nat) (h : l[n]? = some x) : (l.set n y).sum + x = l.sum + y := by
  induction l generalizing n with
  | nil => simp at h
  | cons a l ih =>
    cases n with
    | zero => simp at h; subst h; simp; omega
    | succ n => simp at h; have := ih n h; simp; omega
theorem le_sum (l : List Nat) (n x : Nat) (h : l[n]? = some x) : x ≤ l.sum := by
  induction l generalizing n with
  | nil => simp at h
  | cons a l ih =>
    cases n with
    | zero => simp at h; subst h; simp
    | succ n => simp at h; have := ih n h; simp; omega
theorem map_set_ {α β : Type} (f : α → β) (l : List α) (n : Nat) (x : α) : (l.set n x).map f = (l.map f).set n (f x) := by
  rw [List.map_set]
theorem countP_set {α : Type} (p : α → Bool) (l : List α) (n : Nat) (x y : α) (h : l[n]? = some x) : (l.set n y).countP p + (if p x then 1 else 0) = l.countP p + (if p y then 1 else 0) := by
  induction l generalizing n with
  | nil => simp at h
  | cons a l ih =>
    cases n with
    | zero => simp at h; subst h; simp [List.countP_cons]; omega
    | succ n => simp at h; have := ih n h; simp [List.countP_cons]; omega
theorem qtys_le (L : List Ent) (h : ∀ (j : Nat) (e : Ent), L[j]? = some e → 1 ≤ e.qty ∧ e.qty ≤ 1000000) : 0 ≤ qtys L ∧ qtys L ≤ 1000000 * L.length := by
  induction L with
  | nil => simp [qtys]
  | cons a L ih =>
    have h0 := h 0 a rfl
    have := ih fun j (e : Ent) he => h (j + 1) e he
    unfold qtys at this ⊢
    simp
    omega
theorem qtys_mem (L : List Ent) (h : ∀ (j : Nat) (e : Ent), L[j]? = some e → 1 ≤ e.qty ∧ e.qty ≤ 1000000) (j : Nat) (e : Ent) (he : L[j]? = some e) : e.qty ≤ qtys L := by
  induction L generalizing j with
  | nil => simp at he
  | cons a L ih =>
    have h0 := h 0 a rfl
    have h1 := qtys_le L fun j (e : Ent) he => h (j + 1) e he
    cases j with
    | zero => simp at he; subst he; unfold qtys at h1 ⊢; simp; omega
    | succ j =>
      simp at he
      have := ih (fun j (e : Ent) he => h (j + 1) e he) j he
      unfold qtys at this ⊢; simp; omega

section
variable {A : List (List Ent)} {S : List Slt} {Q : List Que} {F : Int}

theorem Rep.len (h : Rep A S Q F) : Q.length = A.length := by rw [h.qs]; simp
theorem Rep.room (h : Rep A S Q F) : 0 ≤ F ∧ F ≤ S.length := by
  have := h.free
  have := List.countP_le_length (l := S) (p := fun s => !s.used)
  omega
theorem Rep.short (h : Rep A S Q F) {n : Nat} {L : List Ent} (hn : A[n]? = some L) : L.length ≤ S.length := by
  have h1 := le_sum (A.map List.length) n L.length (by rw [List.getElem?_map, hn]; rfl)
  have h2 := h.sum
  have := h.room
  omega
theorem Rep.short1 (h : Rep A S Q F) {n : Nat} {L : List Ent} (hn : A[n]? = some L) (hF : 1 ≤ F) : L.length + 1 ≤ S.length := by
  have h1 := le_sum (A.map List.length) n L.length (by rw [List.getElem?_map, hn]; rfl)
  have h2 := h.sum
  omega

/-- an arena that was just made -/
theorem Rep.new (n : Nat) : Rep [] (List.replicate n Slt.none_) [] n := by
  refine ⟨rfl, by simp, by simp, ?_, ?_, ?_, by simp, by simp⟩
  · intro i s hs hu
    rw [List.getElem?_replicate] at hs
    split at hs
    · injection hs with hs; subst hs; cases hu
    · cases hs
  · intro i s hs _
    rw [List.getElem?_replicate] at hs
    split at hs
    · injection hs with hs; exact hs.symm
    · cases hs
  · rw [List.countP_replicate]; simp [Slt.none_]

theorem get_push {α : Type} {A : List α} {x y : α} {n : Nat} (h : (A ++ [x])[n]? = some y) : A[n]? = some y ∨ y = x := by
  rw [List.getElem?_append] at h
  split at h
  · exact .inl h
  · have h0 := lt_of_get h
    simp at h0
    simp [h0] at h
    exact .inr h.symm
theorem Rep.open_ (h : Rep A S Q F) : Rep (A ++ [[]]) S (Q ++ [Que.new_]) F := by
  have key : ∀ (n j : Nat) (L : List Ent) (e : Ent), (A ++ [[]])[n]? = some L → L[j]? = some e → A[n]? = some L := by
    intro n j L e hn hj
    rcases get_push hn with h1 | h1
    · exact h1
    · subst h1; simp at hj
  refine ⟨by rw [h.qs]; simp; rfl, ?_, ?_, ?_, h.fr, h.free, by have := h.sum; simp; omega, ?_⟩
  · intro n j L e hn hj
    exact h.at_ n j L e (key n j L e hn hj) hj
  · intro n j n' j' L L' e e' hn hj hn' hj' he
    exact h.inj n j n' j' L L' e e' (key n j L e hn hj) hj (key n' j' L' e' hn' hj') hj' he
  · intro i s hs hu
    obtain ⟨n, j, L, e, h1, h2, h3⟩ := h.un i s hs hu
    refine ⟨n, j, L, e, ?_, h2, h3⟩
    rw [List.getElem?_append_left (lt_of_get h1)]
    exact h1
  · intro n j L e hn hj
    exact h.qty n j L e (key n j L e hn hj) hj

/-- an order's quantity or flag is another -/
theorem Rep.turn (h : Rep A S Q F) {n j : Nat} {L : List Ent} {e : Ent} (hn : A[n]? = some L) (hj : L[j]? = some e) (x : Int) (t : Bool) (hx : 1 ≤ x ∧ x ≤ 1000000) :
    Rep (A.set n (L.set j { e with qty := x, top := t })) (S.set e.slot { sltOf n L j e with qty := x, top := t }) (Q.set n { queOf L with tot := qtys L + x - e.qty }) F := by
  have hnl := lt_of_get hn
  have hjl := lt_of_get hj
  have hs := h.at_ n j L e hn hj
  have hsl := lt_of_get hs
  have hsl_ : ∀ k, sl (L.set j { e with qty := x, top := t }) k = sl L k := by
    intro k
    unfold sl
    rw [List.getElem?_set]
    by_cases hk : j = k
    · subst hk; rw [if_pos rfl, if_pos hjl, hj]
    · simp [hk]
  have hpv_ : ∀ k, pv (L.set j { e with qty := x, top := t }) k = pv L k := by
    intro k; unfold pv; rw [hsl_]
  have hq_ : ∀ (L : List Ent) (j : Nat) (e : Ent), L[j]? = some e → qtys (L.set j { e with qty := x, top := t }) = qtys L + x - e.qty := by
    intro L
    induction L with
    | nil => intro j e h; simp at h
    | cons a L ih =>
      intro j e h
      cases j with
      | zero => simp at h; subst h; simp [qtys]; omega
      | succ j => simp at h; have := ih j e h; simp [qtys] at this ⊢; omega
  -- what stands at a place of the new queues
  have key : ∀ (n' j' : Nat) (L' : List Ent) (e' : Ent), (A.set n (L.set j { e with qty := x, top := t }))[n']? = some L' → L'[j']? = some e' →
      ∃ L0 e0, A[n']? = some L0 ∧ L0[j']? = some e0 ∧ e0.slot = e'.slot ∧ (n' = n → L0 = L ∧ L' = L.set j { e with qty := x, top := t }) ∧ (n' ≠ n → L' = L0) ∧ ((n' = n ∧ j' = j) → e' = { e with qty := x, top := t }) ∧ (¬ (n' = n ∧ j' = j) → e' = e0) := by
    intro n' j' L' e' h1 h2
    rw [List.getElem?_set] at h1
    by_cases hnn : n = n'
    · subst hnn
      simp [hnl] at h1
      subst h1
      rw [List.getElem?_set] at h2
      by_cases hjj : j = j'
      · subst hjj
        simp [hjl] at h2
        subst h2
        exact ⟨L, e, hn, hj, rfl, fun _ => ⟨rfl, rfl⟩, fun h => absurd rfl h, fun _ => rfl, fun h => absurd ⟨rfl, rfl⟩ h⟩
      · simp [hjj] at h2
        exact ⟨L, e', hn, h2, rfl, fun _ => ⟨rfl, rfl⟩, fun h => absurd rfl h, fun h => absurd h.2.symm hjj, fun _ => rfl⟩
    · simp [hnn] at h1
      exact ⟨L', e', h1, h2, rfl, fun h => absurd h.symm hnn, fun _ => rfl, fun h => absurd h.1.symm hnn, fun _ => rfl⟩
  refine ⟨?_, ?_, ?_, ?_, ?_, ?_, ?_, ?_⟩
  · rw [h.qs, map_set_]
    congr 1
    unfold queOf
    rw [hsl_, hpv_, hq_ L j e hj]
    simp
  · intro n' j' L' e' h1 h2
    obtain ⟨L0, e0, k1, k2, k3, k4, k5, k6, k7⟩ := key n' j' L' e' h1 h2
    by_cases hnj : n' = n ∧ j' = j
    · rw [k6 hnj, (k4 hnj.1).2, hnj.1, hnj.2]
      show (S.set e.slot _)[e.slot]? = _
      rw [List.getElem?_set_self hsl]
      unfold sltOf
      rw [hpv_, hsl_]
    · have hne : e.slot ≠ e'.slot := by
        intro he
        rw [← k3] at he
        have := h.inj n j n' j' L L0 e e0 hn hj k1 k2 he
        exact hnj ⟨this.1.symm, this.2.symm⟩
      rw [List.getElem?_set_ne hne, ← k3, h.at_ n' j' L0 e0 k1 k2, k7 hnj]
      by_cases hnn : n' = n
      · rw [(k4 hnn).1, (k4 hnn).2]
        unfold sltOf
        rw [hpv_, hsl_]
      · rw [k5 hnn]
  · intro n1 j1 n2 j2 L1 L2 e1 e2 a1 a2 b1 b2 he
    obtain ⟨K1, f1, k1, k2, k3, _⟩ := key n1 j1 L1 e1 a1 a2
    obtain ⟨K2, f2, m1, m2, m3, _⟩ := key n2 j2 L2 e2 b1 b2
    exact h.inj n1 j1 n2 j2 K1 K2 f1 f2 k1 k2 m1 m2 (by rw [k3, m3, he])
  · intro i s hi hu
    have : ∃ s0, S[i]? = some s0 ∧ s0.used = true := by
      rw [List.getElem?_set] at hi
      by_cases hi2 : e.slot = i
      · subst hi2; exact ⟨_, hs, rfl⟩
      · simp [hi2] at hi; exact ⟨s, hi, hu⟩
    obtain ⟨s0, hi0, hu0⟩ := this
    obtain ⟨n', j', L', e', k1, k2, k3⟩ := h.un i s0 hi0 hu0
    by_cases hnn : n = n'
    · subst hnn
      obtain rfl : L' = L := by rw [hn] at k1; injection k1 with k1; exact k1.symm
      refine ⟨n, j', L'.set j { e with qty := x, top := t }, if j = j' then { e with qty := x, top := t } else e', by rw [List.getElem?_set_self hnl], ?_, ?_⟩
      · rw [List.getElem?_set]
        by_cases hjj : j = j'
        · simp [hjj, lt_of_get k2]
        · simp [hjj, k2]
      · by_cases hjj : j = j'
        · subst hjj; rw [hj] at k2; injection k2 with k2; simp [k2, k3]
        · simp [hjj, k3]
    · exact ⟨n', j', L', e', by rw [List.getElem?_set_ne hnn]; exact k1, k2, k3⟩
  · intro i s hi hu
    rw [List.getElem?_set] at hi
    by_cases hi2 : e.slot = i
    · rw [if_pos hi2, if_pos hsl] at hi
      injection hi with hi
      subst hi; cases hu
    · rw [if_neg hi2] at hi; exact h.fr i s hi hu
  · have := countP_set (fun s : Slt => !s.used) S e.slot _ { sltOf n L j e with qty := x, top := t } hs
    rw [h.free]
    simp [sltOf] at this ⊢
    omega
  · have := sum_set (A.map List.length) n L.length (L.set j { e with qty := x, top := t }).length (by rw [List.getElem?_map, hn]; rfl)
    have h2 := h.sum
    rw [map_set_]
    simp at this ⊢
    omega
  · intro n' j' L' e' h1 h2
    obtain ⟨L0, e0, k1, k2, k3, k4, k5, k6, k7⟩ := key n' j' L' e' h1 h2
    by_cases hnj : n' = n ∧ j' = j
    · rw [k6 hnj]; exact hx
    · rw [k7 hnj]; exact h.qty n' j' L0 e0 k1 k2
end
end Go.Proofs.Ytbpmoomklknkkaa
