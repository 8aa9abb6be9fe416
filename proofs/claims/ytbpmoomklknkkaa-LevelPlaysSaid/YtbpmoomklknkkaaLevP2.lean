/- Queues of orders: an order more at the end, an order gone: the plain law. No walk. -/
import Derived.Test.YtbpmoomklknkkaaLevP
namespace Go.Proofs.Ytbpmoomklknkkaa

theorem sl_mem {L : List Ent} {j k : Nat} (h : sl L j = (k : Int)) : ∃ e, L[j]? = some e ∧ e.slot = k := by
  unfold sl at h
  split at h
  · rename_i e he; exact ⟨e, he, by omega⟩
  · omega
theorem pv_mem {L : List Ent} {j k : Nat} (h : pv L j = (k : Int)) : ∃ j0 e, j = j0 + 1 ∧ L[j0]? = some e ∧ e.slot = k := by
  cases j with
  | zero => rw [pv_zero] at h; omega
  | succ j => rw [pv_succ] at h; obtain ⟨e, h1, h2⟩ := sl_mem h; exact ⟨j, e, rfl, h1, h2⟩
theorem sl_app (L : List Ent) (e : Ent) (k : Nat) : sl (L ++ [e]) k = if k < L.length then sl L k else if k = L.length then (e.slot : Int) else -1 := by
  by_cases h : k < L.length
  · rw [if_pos h]; unfold sl; rw [List.getElem?_append_left h]
  · rw [if_neg h]
    by_cases h2 : k = L.length
    · rw [if_pos h2, h2]; unfold sl; rw [List.getElem?_append_right (Nat.le_refl _)]; simp
    · rw [if_neg h2]; exact sl_none (by simp; omega)
theorem pv_app (L : List Ent) (e : Ent) (k : Nat) (hk : k ≤ L.length) : pv (L ++ [e]) k = pv L k := by
  cases k with
  | zero => rfl
  | succ k => rw [pv_succ, pv_succ, sl_app, if_pos (by omega)]
theorem sl_erase (L : List Ent) (j k : Nat) : sl (L.eraseIdx j) k = if k < j then sl L k else sl L (k + 1) := by
  unfold sl
  rw [List.getElem?_eraseIdx]
  by_cases h : k < j
  · rw [if_pos h, if_pos h]
  · rw [if_neg h, if_neg h]
theorem pv_erase (L : List Ent) (j k : Nat) : pv (L.eraseIdx j) k = if k ≤ j then pv L k else pv L (k + 1) := by
  cases k with
  | zero => simp [pv_zero]
  | succ k =>
    rw [pv_succ, sl_erase, pv_succ, pv_succ]
    by_cases h : k < j
    · rw [if_pos h, if_pos (by omega)]
    · rw [if_neg h, if_neg (by omega)]
theorem qtys_app (L : List Ent) (e : Ent) : qtys (L ++ [e]) = qtys L + e.qty := by
  unfold qtys
  rw [List.map_append, List.sum_append]
  simp
theorem qtys_erase (L : List Ent) (j : Nat) (e : Ent) (h : L[j]? = some e) : qtys (L.eraseIdx j) = qtys L - e.qty := by
  induction L generalizing j with
  | nil => simp at h
  | cons a L ih =>
    cases j with
    | zero => simp at h; subst h; simp [qtys]; omega
    | succ j => simp at h; have := ih j h; simp [qtys] at this ⊢; omega

theorem count_one (S S' : List Slt) (i : Nat) (b : Bool) (s0 : Slt) (hi : S[i]? = some s0) (hU : ∀ k, S'[k]?.map Slt.used = if k = i then some b else S[k]?.map Slt.used) :
    S'.countP (fun s => !s.used) + (if s0.used then 0 else 1) = S.countP (fun s => !s.used) + (if b then 0 else 1) := by
  have e : S'.map Slt.used = (S.map Slt.used).set i b := by
    apply List.ext_getElem?
    intro k
    rw [List.getElem?_map, hU, List.getElem?_set]
    have hl := lt_of_get hi
    by_cases hk : k = i
    · subst hk; simp [hl]
    · simp [hk, Ne.symm hk]
  have c : ∀ T : List Slt, T.countP (fun s => !s.used) = (T.map Slt.used).countP (fun b => !b) := by
    intro T; rw [List.countP_map]; rfl
  rw [c, c, e]
  have := countP_set (fun b : Bool => !b) (S.map Slt.used) i s0.used b (by rw [List.getElem?_map, hi]; rfl)
  cases b <;> cases hsu : s0.used <;> simp_all

section
variable {A : List (List Ent)} {S S' : List Slt} {Q : List Que} {F : Int}
theorem len_one (n : Nat) (L L' : List Ent) (hn : A[n]? = some L) : ((A.set n L').map List.length).sum + L.length = (A.map List.length).sum + L'.length := by
  rw [map_set_]
  exact sum_set _ n L.length L'.length (by rw [List.getElem?_map, hn]; rfl)

theorem Rep.push (h : Rep A S Q F) {n r : Nat} {L : List Ent} {s0 : Slt} (hn : A[n]? = some L) (hr : S[r]? = some s0) (hu : s0.used = false) (e : Ent) (he : e.slot = r) (hq : 1 ≤ e.qty ∧ e.qty ≤ 1000000) (hlen : S'.length = S.length)
    (hS : ∀ k, S'[k]? = if k = r then some (sltOf n (L ++ [e]) L.length e) else if (k : Int) = pv L L.length then S[k]?.map (fun s => s.setBk r) else S[k]?) :
    Rep (A.set n (L ++ [e])) S' (Q.set n (queOf (L ++ [e]))) (F - 1) := by
  have hnl := lt_of_get hn
  have key : ∀ (n' j' : Nat) (L' : List Ent) (e' : Ent), (A.set n (L ++ [e]))[n']? = some L' → L'[j']? = some e' →
      (n' = n ∧ j' = L.length ∧ e' = e ∧ L' = L ++ [e]) ∨ ∃ L0, A[n']? = some L0 ∧ L0[j']? = some e' ∧ ((n' = n ∧ L0 = L ∧ L' = L ++ [e]) ∨ (n' ≠ n ∧ L' = L0)) := by
    intro n' j' L' e' h1 h2
    rw [List.getElem?_set] at h1
    by_cases hnn : n = n'
    · subst hnn
      simp [hnl] at h1
      subst h1
      rw [List.getElem?_append] at h2
      by_cases hjj : j' < L.length
      · rw [if_pos hjj] at h2
        exact .inr ⟨L, hn, h2, .inl ⟨rfl, rfl, rfl⟩⟩
      · rw [if_neg hjj] at h2
        have h3 := lt_of_get h2
        have h4 : j' = L.length := by simp at h3; omega
        subst h4
        simp at h2
        exact .inl ⟨rfl, rfl, h2.symm, rfl⟩
    · simp [hnn] at h1
      exact .inr ⟨L', h1, h2, .inr ⟨fun h => hnn h.symm, rfl⟩⟩
  have notr : ∀ (n' j' : Nat) (L' : List Ent) (e' : Ent), A[n']? = some L' → L'[j']? = some e' → e'.slot ≠ r := by
    intro n' j' L' e' h1 h2 h3
    have := h.at_ n' j' L' e' h1 h2
    rw [h3, hr] at this
    injection this with this
    rw [this] at hu
    cases hu
  refine ⟨by rw [h.qs, map_set_], ?_, ?_, ?_, ?_, ?_, ?_, ?_⟩
  · intro n' j' L' e' h1 h2
    rcases key n' j' L' e' h1 h2 with ⟨rfl, rfl, rfl, rfl⟩ | ⟨L0, k1, k2, k3⟩
    · rw [hS, if_pos he]
    · rw [hS, if_neg (notr n' j' L0 e' k1 k2), h.at_ n' j' L0 e' k1 k2]
      rcases k3 with ⟨rfl, rfl, rfl⟩ | ⟨hnn, rfl⟩
      · by_cases hp : (e'.slot : Int) = pv L0 L0.length
        · rw [if_pos hp]
          obtain ⟨j0, e0, q1, q2, q3⟩ := pv_mem hp.symm
          have := (h.inj n' j0 n' j' L0 L0 e0 e' k1 q2 k1 k2 q3).2
          subst this
          unfold sltOf Slt.setBk
          rw [pv_app _ _ _ (by omega), sl_app, if_neg (by omega), if_pos (by omega), he]
          rfl
        · rw [if_neg hp]
          have hj := lt_of_get k2
          have : j' + 1 < L0.length := by
            rcases Nat.lt_or_ge (j' + 1) L0.length with hl | hl
            · exact hl
            · exfalso; apply hp
              rw [show L0.length = j' + 1 by omega, pv_succ, sl_some k2]
          unfold sltOf
          rw [pv_app _ _ _ (by omega), sl_app, if_pos this]
      · rw [if_neg]
        intro hp
        obtain ⟨j0, e0, q1, q2, q3⟩ := pv_mem hp.symm
        exact hnn (h.inj n' j' n j0 L' L e' e0 k1 k2 hn q2 q3.symm).1
  · intro n1 j1 n2 j2 L1 L2 e1 e2 a1 a2 b1 b2 hee
    rcases key n1 j1 L1 e1 a1 a2 with ⟨rfl, rfl, rfl, rfl⟩ | ⟨K1, k1, k2, _⟩
    · rcases key n2 j2 L2 e2 b1 b2 with ⟨rfl, rfl, rfl, rfl⟩ | ⟨K2, m1, m2, _⟩
      · exact ⟨rfl, rfl⟩
      · exact absurd (hee.symm.trans he) (notr _ _ _ _ m1 m2)
    · rcases key n2 j2 L2 e2 b1 b2 with ⟨rfl, rfl, rfl, rfl⟩ | ⟨K2, m1, m2, _⟩
      · exact absurd (hee.trans he) (notr _ _ _ _ k1 k2)
      · exact h.inj n1 j1 n2 j2 K1 K2 e1 e2 k1 k2 m1 m2 hee
  · intro i s hi hus
    by_cases hir : i = r
    · subst hir
      exact ⟨n, L.length, L ++ [e], e, by rw [List.getElem?_set_self hnl], by simp, he⟩
    · rw [hS, if_neg hir] at hi
      have : ∃ s0, S[i]? = some s0 ∧ s0.used = true := by
        split at hi
        · rw [Option.map_eq_some_iff] at hi
          obtain ⟨s1, h1, h2⟩ := hi
          exact ⟨s1, h1, by rw [← h2] at hus; exact hus⟩
        · exact ⟨s, hi, hus⟩
      obtain ⟨s1, h1, h2⟩ := this
      obtain ⟨n', j', L', e', k1, k2, k3⟩ := h.un i s1 h1 h2
      by_cases hnn : n = n'
      · subst hnn
        obtain rfl : L' = L := by rw [hn] at k1; injection k1 with k1; exact k1.symm
        exact ⟨n, j', L' ++ [e], e', by rw [List.getElem?_set_self hnl], by rw [List.getElem?_append_left (lt_of_get k2)]; exact k2, k3⟩
      · exact ⟨n', j', L', e', by rw [List.getElem?_set_ne hnn]; exact k1, k2, k3⟩
  · intro i s hi hus
    rw [hS] at hi
    split at hi
    · injection hi with hi; subst hi; cases hus
    · split at hi
      · rename_i hp
        obtain ⟨j0, e0, q1, q2, q3⟩ := pv_mem hp.symm
        rw [← q3, h.at_ n j0 L e0 hn q2] at hi
        injection hi with hi; subst hi; cases hus
      · exact h.fr i s hi hus
  · have := count_one S S' r true s0 hr (by
      intro k
      rw [hS]
      by_cases hk : k = r
      · simp [hk, sltOf]
      · simp only [if_neg hk]
        split
        · rw [Option.map_map]; rfl
        · rfl)
    rw [hu] at this
    rw [h.free]
    simp at this ⊢
    omega
  · have h1 := len_one n L (L ++ [e]) hn
    have h2 := h.sum
    rw [hlen]
    rw [List.length_append] at h1
    simp only [List.length_cons, List.length_nil] at h1
    omega
  · intro n' j' L' e' h1 h2
    rcases key n' j' L' e' h1 h2 with ⟨rfl, rfl, rfl, rfl⟩ | ⟨L0, k1, k2, _⟩
    · exact hq
    · exact h.qty _ _ _ _ k1 k2

theorem Rep.gone (h : Rep A S Q F) {n j : Nat} {L : List Ent} {e : Ent} (hn : A[n]? = some L) (hj : L[j]? = some e) (hlen : S'.length = S.length)
    (hS : ∀ k, S'[k]? = if k = e.slot then some Slt.none_ else if (k : Int) = pv L j then S[k]?.map (fun s => s.setBk (sl L (j + 1))) else if (k : Int) = sl L (j + 1) then S[k]?.map (fun s => s.setAh (pv L j)) else S[k]?) :
    Rep (A.set n (L.eraseIdx j)) S' (Q.set n (queOf (L.eraseIdx j))) (F + 1) := by
  have hnl := lt_of_get hn
  have hjl := lt_of_get hj
  have hse := h.at_ n j L e hn hj
  have key : ∀ (n' j' : Nat) (L' : List Ent) (e' : Ent), (A.set n (L.eraseIdx j))[n']? = some L' → L'[j']? = some e' →
      (n' = n ∧ L' = L.eraseIdx j ∧ ((j' < j ∧ L[j']? = some e') ∨ (j ≤ j' ∧ L[j' + 1]? = some e'))) ∨ (n' ≠ n ∧ A[n']? = some L') := by
    intro n' j' L' e' h1 h2
    rw [List.getElem?_set] at h1
    by_cases hnn : n = n'
    · subst hnn
      simp [hnl] at h1
      subst h1
      rw [List.getElem?_eraseIdx] at h2
      refine .inl ⟨rfl, rfl, ?_⟩
      split at h2
      · rename_i hjj; exact .inl ⟨hjj, h2⟩
      · rename_i hjj; exact .inr ⟨by omega, h2⟩
    · simp [hnn] at h1
      exact .inr ⟨fun h => hnn h.symm, h1⟩
  have old : ∀ (n' j' : Nat) (L' : List Ent) (e' : Ent), (A.set n (L.eraseIdx j))[n']? = some L' → L'[j']? = some e' → ∃ L0 j0, A[n']? = some L0 ∧ L0[j0]? = some e' ∧ (n' = n → j0 ≠ j) ∧ (n' = n → j0 = if j' < j then j' else j' + 1) ∧ (n' ≠ n → j0 = j') := by
    intro n' j' L' e' h1 h2
    rcases key n' j' L' e' h1 h2 with ⟨rfl, rfl, ⟨a, b⟩ | ⟨a, b⟩⟩ | ⟨a, b⟩
    · exact ⟨L, j', hn, b, fun _ => by omega, fun _ => by rw [if_pos a], fun h => absurd rfl h⟩
    · exact ⟨L, j' + 1, hn, b, fun _ => by omega, fun _ => by rw [if_neg (by omega)], fun h => absurd rfl h⟩
    · exact ⟨L', j', b, h2, fun h => absurd h a, fun h => absurd h a, fun _ => rfl⟩
  have note : ∀ (n' j' : Nat) (L' : List Ent) (e' : Ent), (A.set n (L.eraseIdx j))[n']? = some L' → L'[j']? = some e' → e'.slot ≠ e.slot := by
    intro n' j' L' e' h1 h2 h3
    obtain ⟨L0, j0, k1, k2, k3, _⟩ := old n' j' L' e' h1 h2
    have := h.inj n' j0 n j L0 L e' e k1 k2 hn hj h3
    exact k3 this.1 this.2
  refine ⟨by rw [h.qs, map_set_], ?_, ?_, ?_, ?_, ?_, ?_, ?_⟩
  · intro n' j' L' e' h1 h2
    rw [hS, if_neg (note n' j' L' e' h1 h2)]
    rcases key n' j' L' e' h1 h2 with ⟨rfl, rfl, k⟩ | ⟨a, b⟩
    · -- the same queue; j0: its old place
      have hj0 : ∃ j0, L[j0]? = some e' ∧ j0 ≠ j ∧ pv (L.eraseIdx j) j' = (if j0 = j + 1 then pv L j else pv L j0) ∧ sl (L.eraseIdx j) (j' + 1) = (if j0 + 1 = j then sl L (j + 1) else sl L (j0 + 1)) := by
        rcases k with ⟨a, b⟩ | ⟨a, b⟩
        · refine ⟨j', b, by omega, ?_, ?_⟩
          · rw [pv_erase, if_pos (by omega), if_neg (by omega)]
          · rw [sl_erase]
            by_cases hx : j' + 1 = j
            · rw [if_neg (by omega), if_pos hx, hx]
            · rw [if_pos (by omega), if_neg hx]
        · refine ⟨j' + 1, b, by omega, ?_, ?_⟩
          · rw [pv_erase]
            by_cases hx : j' = j
            · rw [if_pos (by omega), if_pos (by omega), hx]
            · rw [if_neg (by omega), if_neg (by omega)]
          · rw [sl_erase, if_neg (by omega), if_neg (by omega)]
      obtain ⟨j0, k2, kne, kp, ks⟩ := hj0
      rw [h.at_ n' j0 L e' hn k2]
      have i1 : (e'.slot : Int) = pv L j ↔ j0 + 1 = j := by
        constructor
        · intro hp
          obtain ⟨j1, e1, q1, q2, q3⟩ := pv_mem hp.symm
          have := (h.inj n' j1 n' j0 L L e1 e' hn q2 hn k2 q3).2
          omega
        · rintro rfl
          rw [pv_succ, sl_some k2]
      have i2 : (e'.slot : Int) = sl L (j + 1) ↔ j0 = j + 1 := by
        constructor
        · intro hp
          obtain ⟨e1, q2, q3⟩ := sl_mem hp.symm
          have := (h.inj n' (j + 1) n' j0 L L e1 e' hn q2 hn k2 q3).2
          omega
        · rintro rfl
          rw [sl_some k2]
      unfold sltOf
      rw [kp, ks]
      by_cases c1 : j0 + 1 = j
      · rw [if_pos (i1.2 c1), if_neg (by omega), if_pos c1]
        rfl
      · rw [if_neg (fun x => c1 (i1.1 x)), if_neg c1]
        by_cases c2 : j0 = j + 1
        · rw [if_pos (i2.2 c2), if_pos c2]
          rfl
        · rw [if_neg (fun x => c2 (i2.1 x)), if_neg c2]
    · rw [if_neg, if_neg, h.at_ n' j' L' e' b h2]
      · intro hp
        obtain ⟨e1, q2, q3⟩ := sl_mem hp.symm
        exact a (h.inj n' j' n (j + 1) L' L e' e1 b h2 hn q2 q3.symm).1
      · intro hp
        obtain ⟨j1, e1, q1, q2, q3⟩ := pv_mem hp.symm
        exact a (h.inj n' j' n j1 L' L e' e1 b h2 hn q2 q3.symm).1
  · intro n1 j1 n2 j2 L1 L2 e1 e2 a1 a2 b1 b2 hee
    obtain ⟨K1, i1, k1, k2, k3, k4, k5⟩ := old n1 j1 L1 e1 a1 a2
    obtain ⟨K2, i2, m1, m2, m3, m4, m5⟩ := old n2 j2 L2 e2 b1 b2
    obtain ⟨x, y⟩ := h.inj n1 i1 n2 i2 K1 K2 e1 e2 k1 k2 m1 m2 hee
    subst x
    refine ⟨rfl, ?_⟩
    by_cases hx : n1 = n
    · have k4 := k4 hx
      have m4 := m4 hx
      split at k4 <;> split at m4 <;> omega
    · have := k5 hx; have := m5 hx; omega
  · intro i s hi hus
    have hie : i ≠ e.slot := by
      intro hx
      rw [hS, if_pos hx] at hi
      injection hi with hi
      subst hi; cases hus
    rw [hS, if_neg hie] at hi
    have : ∃ s0, S[i]? = some s0 ∧ s0.used = true := by
      split at hi
      · rw [Option.map_eq_some_iff] at hi
        obtain ⟨s1, h1, h2⟩ := hi
        exact ⟨s1, h1, by rw [← h2] at hus; exact hus⟩
      · split at hi
        · rw [Option.map_eq_some_iff] at hi
          obtain ⟨s1, h1, h2⟩ := hi
          exact ⟨s1, h1, by rw [← h2] at hus; exact hus⟩
        · exact ⟨s, hi, hus⟩
    obtain ⟨s1, h1, h2⟩ := this
    obtain ⟨n', j', L', e', k1, k2, k3⟩ := h.un i s1 h1 h2
    by_cases hnn : n = n'
    · subst hnn
      obtain rfl : L' = L := by rw [hn] at k1; injection k1 with k1; exact k1.symm
      have hjj : j' ≠ j := by
        rintro rfl
        rw [hj] at k2
        injection k2 with k2
        exact hie (by rw [k2, k3])
      refine ⟨n, if j' < j then j' else j' - 1, L'.eraseIdx j, e', by rw [List.getElem?_set_self hnl], ?_, k3⟩
      rw [List.getElem?_eraseIdx]
      by_cases hx : j' < j
      · rw [if_pos hx, if_pos hx]; exact k2
      · rw [if_neg hx, if_neg (by omega), show j' - 1 + 1 = j' by omega]; exact k2
    · exact ⟨n', j', L', e', by rw [List.getElem?_set_ne hnn]; exact k1, k2, k3⟩
  · intro i s hi hus
    rw [hS] at hi
    split at hi
    · injection hi with hi; exact hi.symm
    · split at hi
      · rename_i hp
        obtain ⟨j0, e0, q1, q2, q3⟩ := pv_mem hp.symm
        rw [← q3, h.at_ n j0 L e0 hn q2] at hi
        injection hi with hi; subst hi; cases hus
      · split at hi
        · rename_i hp
          obtain ⟨e0, q2, q3⟩ := sl_mem hp.symm
          rw [← q3, h.at_ n (j + 1) L e0 hn q2] at hi
          injection hi with hi; subst hi; cases hus
        · exact h.fr i s hi hus
  · have := count_one S S' e.slot false _ hse (by
      intro k
      rw [hS]
      by_cases hk : k = e.slot
      · simp [hk, Slt.none_]
      · simp only [if_neg hk]
        split
        · rw [Option.map_map]; rfl
        · split
          · rw [Option.map_map]; rfl
          · rfl)
    rw [h.free]
    simp [sltOf] at this ⊢
    omega
  · have h1 := len_one n L (L.eraseIdx j) hn
    have h2 := h.sum
    rw [hlen]
    rw [List.length_eraseIdx, if_pos hjl] at h1
    omega
  · intro n' j' L' e' h1 h2
    obtain ⟨L0, j0, k1, k2, _⟩ := old n' j' L' e' h1 h2
    exact h.qty _ _ _ _ k1 k2
end
end Go.Proofs.Ytbpmoomklknkkaa
