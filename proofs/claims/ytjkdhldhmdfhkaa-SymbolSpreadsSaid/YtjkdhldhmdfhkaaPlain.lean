/- Plain laws on codes: what Parse reads is just what Code makes. No program in sight. -/
import Derived.Test.YtjkdhldhmdfhkaaRunes
namespace Go.Proofs.Ytjkdhldhmdfhkaa
open Go.RowKit

theorem get!_left (P T : ByteArray) (i : Nat) (h : i < P.size) : (P ++ T).get! i = P.get! i := by
  show (P ++ T).data[i]! = P.data[i]!
  rw [getElem!_def, getElem!_def]
  have : (P ++ T).data[i]? = P.data[i]? := by
    rw [ByteArray.data_append, Array.getElem?_append_left h]
  rw [this]

theorem get!_right (P T : ByteArray) (i : Nat) : (P ++ T).get! (P.size + i) = T.get! i := by
  show (P ++ T).data[P.size + i]! = T.data[i]!
  rw [getElem!_def, getElem!_def]
  have : (P ++ T).data[P.size + i]? = T.data[i]? := by
    rw [ByteArray.data_append, Array.getElem?_append_right (by show P.data.size ≤ P.size + i; show P.size ≤ _; omega)]
    congr 1
    show P.size + i - P.size = i
    omega
  rw [this]

theorem great_bd {r : Nat} (h : great r = true) : r ≤ 937 := by
  unfold great at h
  simp only [Bool.or_eq_true, Bool.and_eq_true, decide_eq_true_eq, bne_iff_ne] at h
  omega

set_option maxRecDepth 10000 in
/-- a rune of no more than 2047 is one byte below 128, or two of which the second is a tail -/
theorem decode_small (s : ByteArray) (p : Nat) (h : (Utf8.decode s p).1 < 2048) :
    ((s.get! p).toNat < 128 ∧ Utf8.decode s p = ((s.get! p).toNat, 1)) ∨
    (¬ (s.get! p).toNat < 128 ∧ ((s.get! p).toNat / 32 == 6) = true ∧ p + 1 < s.size ∧ ((s.get! (p + 1)).toNat / 64 == 2) = true ∧ 128 ≤ (s.get! p).toNat % 32 * 64 + (s.get! (p + 1)).toNat % 64 ∧ Utf8.decode s p = ((s.get! p).toNat % 32 * 64 + (s.get! (p + 1)).toNat % 64, 2)) := by
  have hr : ¬ Utf8.runeError < 2048 := by decide
  simp only [Utf8.decode, Nat.add_zero] at h ⊢
  by_cases h1 : (s.get! p).toNat < 128
  · rw [if_pos h1]
    exact .inl ⟨h1, rfl⟩
  · rw [if_neg h1] at h ⊢
    by_cases h2 : ((s.get! p).toNat / 32 == 6 && (decide (p + 1 < s.size) && (s.get! (p + 1)).toNat / 64 == 2)) = true
    · rw [if_pos h2] at h ⊢
      simp only [Bool.and_eq_true, decide_eq_true_eq] at h2
      by_cases h3 : (s.get! p).toNat % 32 * 64 + (s.get! (p + 1)).toNat % 64 ≥ 128
      · rw [if_pos h3]
        exact .inr ⟨h1, h2.1, h2.2.1, h2.2.2, h3, rfl⟩
      · rw [if_neg h3] at h
        exact absurd h hr
    · rw [if_neg h2] at h
      exfalso
      revert h
      split
      · split
        · rename_i hh
          simp only [Bool.and_eq_true, decide_eq_true_eq] at hh
          intro h
          have h5 := hh.1
          exact absurd (Nat.lt_of_lt_of_le h h5) (Nat.lt_irrefl _)
        · exact hr
      · split
        · split
          · rename_i hh
            simp only [Bool.and_eq_true, decide_eq_true_eq] at hh
            intro h
            have h5 := hh.1
            exact absurd (Nat.lt_of_lt_of_le h (Nat.le_trans (by decide) h5)) (Nat.lt_irrefl _)
          · exact hr
        · exact hr

theorem decode_two_at (s : ByteArray) (p : Nat) (h1 : ¬ (s.get! p).toNat < 128) (h2 : ((s.get! p).toNat / 32 == 6) = true) (h3 : p + 1 < s.size) (h4 : ((s.get! (p + 1)).toNat / 64 == 2) = true) (h5 : 128 ≤ (s.get! p).toNat % 32 * 64 + (s.get! (p + 1)).toNat % 64) :
    Utf8.decode s p = ((s.get! p).toNat % 32 * 64 + (s.get! (p + 1)).toNat % 64, 2) := by
  simp only [Utf8.decode, Nat.add_zero]
  rw [if_neg h1, if_pos (by rw [h2, h4, decide_eq_true h3]; rfl), if_pos h5]

theorem decode_one_at (s : ByteArray) (p : Nat) (h1 : (s.get! p).toNat < 128) : Utf8.decode s p = ((s.get! p).toNat, 1) := by
  simp only [Utf8.decode, Nat.add_zero]
  rw [if_pos h1]

/-- a small rune reads the same when bytes are laid behind -/
theorem decode_app (P T : ByteArray) (p : Nat) (hp : p < P.size) (h : (Utf8.decode P p).1 < 2048) : Utf8.decode (P ++ T) p = Utf8.decode P p ∧ p + (Utf8.decode P p).2 ≤ P.size := by
  rcases decode_small P p h with ⟨h1, h2⟩ | ⟨h1, h2, h3, h4, h5, h6⟩
  · rw [h2]
    refine ⟨?_, by show p + 1 ≤ _; omega⟩
    rw [decode_one_at (P ++ T) p (by rw [get!_left P T p hp]; exact h1), get!_left P T p hp]
  · rw [h6]
    refine ⟨?_, by show p + 2 ≤ _; omega⟩
    have e1 := get!_left P T p hp
    have e2 := get!_left P T (p + 1) h3
    rw [decode_two_at (P ++ T) p (by rw [e1]; exact h1) (by rw [e1]; exact h2) (by simp; omega) (by rw [e2]; exact h4) (by rw [e1, e2]; exact h5), e1, e2]

theorem runesAt_app (P T : ByteArray) : ∀ (n p : Nat), P.size - p ≤ n → p ≤ P.size → (runesAt P p).all (fun x => great x.2) = true → runesAt (P ++ T) p = runesAt P p ++ runesAt (P ++ T) P.size := by
  intro n
  induction n with
  | zero =>
    intro p hn hp _
    obtain rfl : p = P.size := by omega
    rw [runesAt_end P _ (by omega)]
    rfl
  | succ n ih =>
    intro p hn hp hg
    by_cases hlt : p < P.size
    · rw [runesAt_cons P p hlt, List.all_cons, Bool.and_eq_true] at hg
      have hb := great_bd hg.1
      obtain ⟨e, hw⟩ := decode_app P T p hlt (by have : (Utf8.decode P p).1 ≤ 937 := hb; omega)
      have := width_pos P p hlt
      rw [runesAt_cons P p hlt, runesAt_cons (P ++ T) p (by simp; omega), e, ih _ (by omega) hw hg.2]
      rfl
    · obtain rfl : p = P.size := by omega
      rw [runesAt_end P _ (by omega)]
      rfl

/-- three bytes below 128 -/
def three (a b c : UInt8) : ByteArray := ⟨#[a, b, c]⟩
theorem runes_three (P : ByteArray) (a b c : UInt8) (ha : a.toNat < 128) (hb : b.toNat < 128) (hc : c.toNat < 128) :
    runesAt (P ++ three a b c) P.size = [(P.size, a.toNat), (P.size + 1, b.toNat), (P.size + 2, c.toNat)] := by
  have hz : (P ++ three a b c).size = P.size + 3 := by simp; rfl
  have g0 : (P ++ three a b c).get! P.size = a := get!_right P (three a b c) 0
  have g1 : (P ++ three a b c).get! (P.size + 1) = b := get!_right P (three a b c) 1
  have g2 : (P ++ three a b c).get! (P.size + 2) = c := get!_right P (three a b c) 2
  have d0 := decode_one_at (P ++ three a b c) P.size (by rw [g0]; exact ha)
  have d1 := decode_one_at (P ++ three a b c) (P.size + 1) (by rw [g1]; exact hb)
  have d2 := decode_one_at (P ++ three a b c) (P.size + 2) (by rw [g2]; exact hc)
  rw [g0] at d0
  rw [g1] at d1
  rw [g2] at d2
  rw [runesAt_cons _ P.size (by omega), d0]
  show _ :: runesAt _ (P.size + 1) = _
  rw [runesAt_cons _ (P.size + 1) (by omega), d1]
  show _ :: _ :: runesAt _ (P.size + 1 + 1) = _
  rw [runesAt_cons _ (P.size + 1 + 1) (by omega), show P.size + 1 + 1 = P.size + 2 from rfl, d2, runesAt_end _ _ (by show ¬ P.size + 2 + 1 < _; omega)]

theorem indexByte_letter : ∀ i, i < 12 → Lib.indexByte letterB (letterB.getD i 0) = i ∧ (letterB.getD i 0).toNat ≤ 90 := by decide

theorem codeB_three (P : ByteArray) (m : Nat) : codeB P m = P ++ three (letterB.getD (m % 12) 0) (UInt8.ofNat (48 + m / 12 / 10)) (UInt8.ofNat (48 + m / 12 % 10)) := rfl

theorem pfold_three (a b c : UInt8) (ha : a.toNat ≤ 90) (hb : 48 ≤ b.toNat ∧ b.toNat ≤ 57) (hc : 48 ≤ c.toNat ∧ c.toNat ≤ 57) :
    pfold (three a b c) = (Lib.indexByte letterB a, 10 * ((b.toNat : Int) - 48) + ((c.toNat : Int) - 48), 2) := by
  have h := runes_three ByteArray.empty a b c (by omega) (by omega) (by omega)
  have e : ByteArray.empty ++ three a b c = three a b c := by simp
  rw [e] at h
  unfold pfold
  rw [show runesAt (three a b c) 0 = [(0, a.toNat), (1, b.toNat), (2, c.toNat)] from h]
  have ea : UInt8.ofNat a.toNat = a := by simp
  simp [pstep, hb, hc, ea, show ¬ 90 < a.toNat by omega]

theorem extract_left (P T : ByteArray) : (P ++ T).extract 0 P.size = P := by
  apply ByteArray.ext
  simp

theorem extract_right (P T : ByteArray) : (P ++ T).extract P.size (P ++ T).size = T := by
  apply ByteArray.ext
  rw [ByteArray.data_extract, ByteArray.data_append, Array.extract_append, ByteArray.size_append]
  have h1 : P.data.extract P.size (P.size + T.size) = #[] := by
    apply Array.extract_empty_of_size_le_start
    exact Nat.le_refl _
  have h2 : T.data.extract (P.size - P.data.size) (P.size + T.size - P.data.size) = T.data := by
    have e1 : P.size - P.data.size = 0 := Nat.sub_self _
    have e2 : P.size + T.size - P.data.size = T.data.size := by show P.data.size + T.data.size - P.data.size = _; omega
    rw [e1, e2, Array.extract_size]
  rw [h1, h2]
  simp

theorem parse_three (P : ByteArray) (a b c : UInt8) (hp : prodB P = true) (ha : a.toNat ≤ 90) (ha' : 0 ≤ Lib.indexByte letterB a) (hb : 48 ≤ b.toNat ∧ b.toNat ≤ 57) (hc : 48 ≤ c.toNat ∧ c.toNat ≤ 57) :
    parseS (P ++ three a b c) = (P, 12 * (10 * ((b.toNat : Int) - 48) + ((c.toNat : Int) - 48)) + Lib.indexByte letterB a, 0) := by
  have hp' := hp
  unfold prodB at hp'
  simp only [Bool.and_eq_true] at hp'
  have hr := runesAt_app P (three a b c) P.size 0 (by omega) (by omega) hp'.1.1
  rw [runes_three P a b c (by omega) (by omega) (by omega)] at hr
  have hn : ((runesAt (P ++ three a b c) 0).length : Int) - 3 = (runesAt P 0).length := by
    rw [hr]
    simp
  have hc' : cutAt (P ++ three a b c) ((runesAt P 0).length : Int) = P.size := by
    unfold cutAt
    rw [hr]
    simp
  have hpos : ¬ ((runesAt P 0).length : Int) < 1 := by
    have h1 := runes_one P
    rw [hp'.1.2] at h1
    have := of_decide_eq_true h1
    omega
  unfold parseS
  simp only [hn, hc', extract_left, extract_right]
  rw [pfold_three a b c ha hb hc]
  rw [if_neg]
  rintro (h | h | h | h)
  · exact hpos h
  · rw [hp] at h; cases h
  · exact absurd ha' (by omega)
  · exact h rfl

theorem parse_code (P : ByteArray) (m : Nat) (hp : prodB P = true) (hm : m ≤ 1199) : parseS (codeB P m) = (P, (m : Int), 0) := by
  have hi := indexByte_letter (m % 12) (by omega)
  have e1 : (UInt8.ofNat (48 + m / 12 / 10)).toNat = 48 + m / 12 / 10 := by simp; omega
  have e2 : (UInt8.ofNat (48 + m / 12 % 10)).toNat = 48 + m / 12 % 10 := by simp; omega
  rw [codeB_three, parse_three P _ _ _ hp hi.2 (by rw [hi.1]; omega) (by rw [e1]; omega) (by rw [e2]; omega), hi.1, e1, e2]
  have : 12 * (10 * (((48 + m / 12 / 10 : Nat) : Int) - 48) + (((48 + m / 12 % 10 : Nat) : Int) - 48)) + ((m % 12 : Nat) : Int) = (m : Int) := by omega
  rw [this]

/-! ### what is read is just what is made of it -/
theorem decode_lt (s : ByteArray) (p : Nat) (h : (Utf8.decode s p).1 < 128) : (s.get! p).toNat = (Utf8.decode s p).1 ∧ (Utf8.decode s p).2 = 1 := by
  rcases decode_small s p (by omega) with ⟨h1, h2⟩ | ⟨h1, h2, h3, h4, h5, h6⟩
  · rw [h2]; exact ⟨rfl, rfl⟩
  · rw [h6] at h
    exact absurd h (by show ¬ _ < 128; omega)

theorem three_of (q : ByteArray) (hz : q.size = 3) : q = three (q.get! 0) (q.get! 1) (q.get! 2) := by
  apply ByteArray.ext
  apply Array.ext
  · exact hz
  · intro i h1 h2
    have h3 : i = 0 ∨ i = 1 ∨ i = 2 := by
      have : i < 3 := h2
      omega
    have g : ∀ k (hk : k < q.size), q.get! k = q.data[k]'hk := fun k hk => get_at q k hk
    rcases h3 with rfl | rfl | rfl
    · exact (g 0 (by omega)).symm
    · exact (g 1 (by omega)).symm
    · exact (g 2 (by omega)).symm

theorem pstep_digits (st : Int × Int × Int) (x : Nat × Nat) : (pstep st x).2.2 ≤ st.2.2 + 1 ∧ ((pstep st x).2.2 = st.2.2 + 1 → x.1 ≠ 0 ∧ 48 ≤ x.2 ∧ x.2 ≤ 57 ∧ pstep st x = (st.1, 10 * st.2.1 + ((x.2 : Int) - 48), st.2.2 + 1)) := by
  unfold pstep
  split
  · exact ⟨by show st.2.2 ≤ _; omega, fun h => by have : st.2.2 = st.2.2 + 1 := h; omega⟩
  · split
    · rename_i h1 h2
      exact ⟨Int.le_refl _, fun _ => ⟨h1, h2.1, h2.2, rfl⟩⟩
    · exact ⟨by omega, fun h => by omega⟩

theorem indexByte_none (l : List UInt8) (c : UInt8) (h : ∀ b ∈ l, b ≠ c) : Lib.indexByte l c = -1 := by
  induction l with
  | nil => rfl
  | cons b l ih =>
    have hb : (b == c) = false := by simpa using h b (by simp)
    simp [Lib.indexByte, hb, ih (fun x hx => h x (by simp [hx]))]

theorem indexByte_hit : ∀ n, n < 256 → 0 ≤ Lib.indexByte letterB (UInt8.ofNat n) → n ≤ 90 ∧ letterB.getD (Lib.indexByte letterB (UInt8.ofNat n)).toNat 0 = UInt8.ofNat n ∧ Lib.indexByte letterB (UInt8.ofNat n) < 12 := by decide +kernel

/-- what a rest of three runes looks like where it reads as a month -/
theorem pfold_inv (q : ByteArray) (hl : (runesAt q 0).length = 3) (hm : 0 ≤ (pfold q).1) (hd : (pfold q).2.2 = 2) :
    ∃ a b c : UInt8, q = three a b c ∧ a.toNat ≤ 90 ∧ 0 ≤ Lib.indexByte letterB a ∧ (48 ≤ b.toNat ∧ b.toNat ≤ 57) ∧ (48 ≤ c.toNat ∧ c.toNat ≤ 57) := by
  have h0 : 0 < q.size := by
    by_cases h : 0 < q.size
    · exact h
    · rw [runesAt_end q 0 h] at hl; cases hl
  have c0 := runesAt_cons q 0 h0
  rw [Nat.zero_add] at c0
  have w0 := width_pos q 0 h0
  rw [c0, List.length_cons] at hl
  have h1 : (Utf8.decode q 0).2 < q.size := by
    by_cases h : (Utf8.decode q 0).2 < q.size
    · exact h
    · rw [runesAt_end q _ h] at hl; cases hl
  have c1 := runesAt_cons q _ h1
  rw [c1, List.length_cons] at hl
  have h2 : (Utf8.decode q 0).2 + (Utf8.decode q (Utf8.decode q 0).2).2 < q.size := by
    by_cases h : (Utf8.decode q 0).2 + (Utf8.decode q (Utf8.decode q 0).2).2 < q.size
    · exact h
    · rw [runesAt_end q _ h] at hl; cases hl
  have c2 := runesAt_cons q _ h2
  rw [c2, List.length_cons] at hl
  have hnil := List.eq_nil_of_length_eq_zero (Nat.succ.inj (Nat.succ.inj (Nat.succ.inj hl)))
  rw [hnil] at c2
  have h3 : ¬ (Utf8.decode q 0).2 + (Utf8.decode q (Utf8.decode q 0).2).2 + (Utf8.decode q ((Utf8.decode q 0).2 + (Utf8.decode q (Utf8.decode q 0).2).2)).2 < q.size := by
    intro h
    rw [runesAt_cons q _ h] at hnil
    cases hnil
  have hf : pfold q = pstep (pstep (pstep (-1, 0, 0) (0, (Utf8.decode q 0).1)) ((Utf8.decode q 0).2, (Utf8.decode q (Utf8.decode q 0).2).1)) ((Utf8.decode q 0).2 + (Utf8.decode q (Utf8.decode q 0).2).2, (Utf8.decode q ((Utf8.decode q 0).2 + (Utf8.decode q (Utf8.decode q 0).2).2)).1) := by
    unfold pfold
    rw [c0, c1, c2]
    rfl
  rw [hf] at hm hd
  have s0 : pstep (-1, 0, 0) (0, (Utf8.decode q 0).1) = ((if 90 < (Utf8.decode q 0).1 then -1 else Lib.indexByte letterB (UInt8.ofNat (Utf8.decode q 0).1)), 0, 0) := rfl
  rw [s0] at hm hd
  have p1 := pstep_digits ((if 90 < (Utf8.decode q 0).1 then -1 else Lib.indexByte letterB (UInt8.ofNat (Utf8.decode q 0).1)), 0, 0) ((Utf8.decode q 0).2, (Utf8.decode q (Utf8.decode q 0).2).1)
  have p2 := pstep_digits (pstep ((if 90 < (Utf8.decode q 0).1 then -1 else Lib.indexByte letterB (UInt8.ofNat (Utf8.decode q 0).1)), 0, 0) ((Utf8.decode q 0).2, (Utf8.decode q (Utf8.decode q 0).2).1)) ((Utf8.decode q 0).2 + (Utf8.decode q (Utf8.decode q 0).2).2, (Utf8.decode q ((Utf8.decode q 0).2 + (Utf8.decode q (Utf8.decode q 0).2).2)).1)
  rw [hd] at p2
  have e1 : (pstep ((if 90 < (Utf8.decode q 0).1 then -1 else Lib.indexByte letterB (UInt8.ofNat (Utf8.decode q 0).1)), 0, 0) ((Utf8.decode q 0).2, (Utf8.decode q (Utf8.decode q 0).2).1)).2.2 = 1 := by
    have a := p1.1
    have b := p2.1
    show _ = (1 : Int)
    have a' : (pstep ((if 90 < (Utf8.decode q 0).1 then -1 else Lib.indexByte letterB (UInt8.ofNat (Utf8.decode q 0).1)), 0, 0) ((Utf8.decode q 0).2, (Utf8.decode q (Utf8.decode q 0).2).1)).2.2 ≤ 0 + 1 := a
    omega
  have q1 := p1.2 (by rw [e1]; rfl)
  have q2 := p2.2 (by rw [e1]; rfl)
  rw [q2.2.2.2, q1.2.2.2] at hm
  have hm' : 0 ≤ (if 90 < (Utf8.decode q 0).1 then -1 else Lib.indexByte letterB (UInt8.ofNat (Utf8.decode q 0).1)) := hm
  have hr : ¬ 90 < (Utf8.decode q 0).1 := by
    intro h
    rw [if_pos h] at hm'
    omega
  rw [if_neg hr] at hm'
  have d0 := decode_lt q 0 (by omega)
  have d1 := decode_lt q (Utf8.decode q 0).2 (by have := q1.2.2.1; show (Utf8.decode q (Utf8.decode q 0).2).1 < 128; have h9 : (Utf8.decode q (Utf8.decode q 0).2).1 ≤ 57 := this; omega)
  rw [d0.2] at d1 h1 h2 h3 q1 q2
  rw [d1.2] at h2 h3 q2
  have d2 := decode_lt q 2 (by have h9 : (Utf8.decode q (1 + 1)).1 ≤ 57 := q2.2.2.1; show (Utf8.decode q (1 + 1)).1 < 128; omega)
  have hz : q.size = 3 := by
    have h4 : (Utf8.decode q (1 + 1)).2 = 1 := d2.2
    rw [h4] at h3
    omega
  refine ⟨_, _, _, three_of q hz, ?_, ?_, ?_, ?_⟩
  · rw [d0.1]; omega
  · have e : q.get! 0 = UInt8.ofNat (Utf8.decode q 0).1 := by rw [← d0.1]; simp
    rw [e]
    exact hm'
  · rw [d1.1]
    exact ⟨q1.2.1, q1.2.2.1⟩
  · rw [d2.1]
    exact ⟨q2.2.1, q2.2.2.1⟩

theorem codeB_back (P : ByteArray) (a b c : UInt8) (ha' : 0 ≤ Lib.indexByte letterB a) (hb : 48 ≤ b.toNat ∧ b.toNat ≤ 57) (hc : 48 ≤ c.toNat ∧ c.toNat ≤ 57) :
    ∃ m : Nat, m ≤ 1199 ∧ 12 * (10 * ((b.toNat : Int) - 48) + ((c.toNat : Int) - 48)) + Lib.indexByte letterB a = (m : Int) ∧ P ++ three a b c = codeB P m := by
  have e : UInt8.ofNat a.toNat = a := by simp
  have h := indexByte_hit a.toNat a.toNat_lt (by rw [e]; exact ha')
  rw [e] at h
  obtain ⟨k, hk⟩ := Int.eq_ofNat_of_zero_le ha'
  rw [hk] at h
  have h12 : k < 12 := by have := h.2.2; omega
  refine ⟨12 * (10 * (b.toNat - 48) + (c.toNat - 48)) + k, by omega, by rw [hk]; omega, ?_⟩
  rw [codeB_three]
  have e1 : (12 * (10 * (b.toNat - 48) + (c.toNat - 48)) + k) % 12 = k := by omega
  have e2 : 48 + (12 * (10 * (b.toNat - 48) + (c.toNat - 48)) + k) / 12 / 10 = b.toNat := by omega
  have e3 : 48 + (12 * (10 * (b.toNat - 48) + (c.toNat - 48)) + k) / 12 % 10 = c.toNat := by omega
  have h' : letterB.getD k 0 = a := h.2.1
  rw [e1, e2, e3, h']
  simp

theorem split_at (s : ByteArray) (k : Nat) (hk : k ≤ s.size) : s = s.extract 0 k ++ s.extract k s.size := by
  apply ByteArray.ext
  rw [ByteArray.data_append, ByteArray.data_extract, ByteArray.data_extract, Array.extract_append_extract, Nat.min_eq_left (Nat.zero_le _), Nat.max_eq_right hk]
  exact Array.extract_size.symm

theorem parse_inv (s : ByteArray) : parseS s = (⟨#[]⟩, 0, 12) ∨ ∃ (P : ByteArray) (m : Nat), prodB P = true ∧ m ≤ 1199 ∧ s = codeB P m ∧ parseS s = (P, (m : Int), 0) := by
  by_cases h : ((runesAt s 0).length : Int) - 3 < 1 ∨ prodB (s.extract 0 (cutAt s (((runesAt s 0).length : Int) - 3))) = false ∨ (pfold (s.extract (cutAt s (((runesAt s 0).length : Int) - 3)) s.size)).1 < 0 ∨ (pfold (s.extract (cutAt s (((runesAt s 0).length : Int) - 3)) s.size)).2.2 ≠ 2
  · exact .inl (if_pos h)
  · refine .inr ?_
    have hc := cutAt_le s (((runesAt s 0).length : Int) - 3)
    have hl := rest_len s (((runesAt s 0).length : Int) - 3)
    have hs := split_at s _ hc
    have hp : prodB (s.extract 0 (cutAt s (((runesAt s 0).length : Int) - 3))) = true := by
      cases hh : prodB (s.extract 0 (cutAt s (((runesAt s 0).length : Int) - 3))) with
      | true => rfl
      | false => exact absurd (.inr (.inl hh)) h
    have hn : ¬ ((runesAt s 0).length : Int) - 3 < 1 := fun x => h (.inl x)
    have hm : ¬ (pfold (s.extract (cutAt s (((runesAt s 0).length : Int) - 3)) s.size)).1 < 0 := fun x => h (.inr (.inr (.inl x)))
    have hd : (pfold (s.extract (cutAt s (((runesAt s 0).length : Int) - 3)) s.size)).2.2 = 2 := by
      by_cases hh : (pfold (s.extract (cutAt s (((runesAt s 0).length : Int) - 3)) s.size)).2.2 = 2
      · exact hh
      · exact absurd (.inr (.inr (.inr hh))) h
    obtain ⟨a, b, c, hq, _, h2, h3, h4⟩ := pfold_inv _ (by rw [hl]; omega) (by omega) hd
    rw [hq] at hs
    obtain ⟨m, hm1, hm2, hm3⟩ := codeB_back (s.extract 0 (cutAt s (((runesAt s 0).length : Int) - 3))) a b c h2 h3 h4
    have he : s = codeB (s.extract 0 (cutAt s (((runesAt s 0).length : Int) - 3))) m := hs.trans hm3
    generalize s.extract 0 (cutAt s (((runesAt s 0).length : Int) - 3)) = P at hp he
    refine ⟨P, m, hp, hm1, he, ?_⟩
    rw [he]
    exact parse_code _ m hp hm1
end Go.Proofs.Ytjkdhldhmdfhkaa
