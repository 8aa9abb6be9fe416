/- Plain laws on spreads' names: a code has no stroke; a spread's name is parted where it was joined. No program in sight. -/
import Derived.Test.YtjkdhldhmdfhkaaParsed
namespace Go.Proofs.Ytjkdhldhmdfhkaa
open Go.RowKit

theorem codeB_inj {P : ByteArray} {n m : Nat} (hp : prodB P = true) (hn : n ≤ 1199) (hm : m ≤ 1199) (h : codeB P n = codeB P m) : n = m := by
  have h1 := parse_code P n hp hn
  rw [h, parse_code P m hp hm] at h1
  have h2 : ((m : Int)) = (n : Int) := congrArg (fun x => x.2.1) h1
  omega

theorem great_no_stroke {b : Nat} (h : great b = true) : b ≠ 45 := by
  rintro rfl
  exact absurd h (by decide)

theorem prod_no_stroke (P : ByteArray) : ∀ (n p : Nat), P.size - p ≤ n → (runesAt P p).all (fun x => great x.2) = true → ∀ j, p ≤ j → j < P.size → (P.get! j).toNat ≠ 45 := by
  intro n
  induction n with
  | zero => intro p hn _ j h1 h2; omega
  | succ n ih =>
    intro p hn hg j h1 h2
    have hlt : p < P.size := by omega
    rw [runesAt_cons P p hlt, List.all_cons, Bool.and_eq_true] at hg
    have hb := great_bd hg.1
    have hwp := width_pos P p hlt
    rcases decode_small P p (by have : (Utf8.decode P p).1 ≤ 937 := hb; omega) with ⟨a1, a2⟩ | ⟨a1, a2, a3, a4, a5, a6⟩
    · by_cases hj : j = p
      · subst hj
        have h3 : great (Utf8.decode P j).1 = true := hg.1
        rw [a2] at h3
        exact great_no_stroke h3
      · refine ih _ (by omega) hg.2 j ?_ h2
        rw [a2]
        show p + 1 ≤ j
        omega
    · by_cases hj : j = p
      · subst hj; omega
      · by_cases hj2 : j = p + 1
        · subst hj2
          have := eq_of_beq a4
          omega
        · refine ih _ (by omega) hg.2 j ?_ h2
          rw [a6]
          show p + 2 ≤ j
          omega

theorem letter_no_stroke : ∀ i, i < 12 → letterB.getD i 0 ≠ 45 := by decide

theorem getElem_get! (s : ByteArray) (j : Nat) (hj : j < s.size) : s[j]'hj = s.get! j := (get_at s j hj).symm

theorem code_no_stroke (P : ByteArray) (m : Nat) (hp : prodB P = true) (hm : m ≤ 1199) : ∀ j (hj : j < (codeB P m).size), (codeB P m)[j]'hj ≠ 45 := by
  intro j hj
  rw [getElem_get!]
  unfold prodB at hp
  simp only [Bool.and_eq_true] at hp
  rw [codeB_size] at hj
  by_cases h : j < P.size
  · rw [codeB_three, get!_left _ _ _ h]
    intro e
    exact prod_no_stroke P P.size 0 (by omega) hp.1.1 j (by omega) h (by rw [e]; rfl)
  · obtain ⟨k, rfl⟩ : ∃ k, j = P.size + k := ⟨j - P.size, by omega⟩
    rw [codeB_three, get!_right]
    have h3 : k = 0 ∨ k = 1 ∨ k = 2 := by omega
    rcases h3 with rfl | rfl | rfl
    · exact letter_no_stroke _ (by omega)
    · show UInt8.ofNat (48 + m / 12 / 10) ≠ 45
      intro e
      have := congrArg UInt8.toNat e
      simp at this
      omega
    · show UInt8.ofNat (48 + m / 12 % 10) ≠ 45
      intro e
      have := congrArg UInt8.toNat e
      simp at this
      omega

/-- a name that is joined by a stroke -/
theorem stroke_parts (a b : ByteArray) (h : ∀ j (hj : j < a.size), a[j]'hj ≠ 45) : preB (a ++ ⟨#[45]⟩ ++ b) = a ∧ postB (a ++ ⟨#[45]⟩ ++ b) = b := by
  have e : a ++ ⟨#[45]⟩ ++ b = a ++ (⟨#[45]⟩ ++ b) := ByteArray.append_assoc
  have hz : (a ++ ⟨#[45]⟩ ++ b).size = a.size + 1 + b.size := by
    rw [ByteArray.size_append, ByteArray.size_append]
    rfl
  have hat : (a ++ ⟨#[45]⟩ ++ b).get! a.size = 45 := by
    rw [e]
    have := get!_right a (⟨#[45]⟩ ++ b) 0
    rw [Nat.add_zero] at this
    rw [this, get!_left _ _ _ (by show 0 < 1; omega)]
    rfl
  have hp := preB_at (a ++ ⟨#[45]⟩ ++ b) a.size (by omega) (fun j hj hlt => by
    rw [getElem_get!, e, get!_left _ _ _ hlt, ← getElem_get! a j hlt]
    exact h j hlt) (by rw [getElem_get!]; exact hat)
  constructor
  · rw [hp.1, e]
    exact extract_left a _
  · rw [hp.2]
    have h2 := extract_right (a ++ ⟨#[45]⟩) b
    have h3 : (a ++ (⟨#[45]⟩ : ByteArray)).size = a.size + 1 := by rw [ByteArray.size_append]; rfl
    rw [h3] at h2
    exact h2

theorem spread_ok (P : ByteArray) (n f : Nat) (hp : prodB P = true) (hn : n ≤ 1199) (hf : f ≤ 1199) (h : n < f) : spreadS P n f = (codeB P n ++ ⟨#[45]⟩ ++ codeB P f, 0) := by
  unfold spreadS codeS
  rw [hp]
  simp only [Bool.true_eq_false, if_false]
  rw [if_neg (show ¬ ((n : Int) < 0 ∨ 1199 < (n : Int)) by omega), if_neg (show ¬ ((f : Int) < 0 ∨ 1199 < (f : Int)) by omega)]
  simp
  omega
theorem spread_bad (P : ByteArray) (n f : Nat) (hp : prodB P = true) (hn : n ≤ 1199) (hf : f ≤ 1199) (h : ¬ n < f) : spreadS P n f = (⟨#[]⟩, 1) := by
  unfold spreadS codeS
  rw [hp]
  simp only [Bool.true_eq_false, if_false]
  rw [if_neg (show ¬ ((n : Int) < 0 ∨ 1199 < (n : Int)) by omega), if_neg (show ¬ ((f : Int) < 0 ∨ 1199 < (f : Int)) by omega)]
  simp
  omega
theorem spread_form (P : ByteArray) (n f : Int) (hp : prodB P = false) : spreadS P n f = (⟨#[]⟩, 12) := by
  unfold spreadS codeS
  rw [hp]
  simp
theorem codeS_ok (P : ByteArray) (n : Nat) (hp : prodB P = true) (hn : n ≤ 1199) : codeS P n = (codeB P n, 0) := by
  unfold codeS
  rw [hp]
  simp only [Bool.true_eq_false, if_false]
  rw [if_neg (show ¬ ((n : Int) < 0 ∨ 1199 < (n : Int)) by omega)]
  simp

theorem pspread_back (P : ByteArray) (n f : Nat) (hp : prodB P = true) (hn : n ≤ 1199) (hf : f ≤ 1199) (h : n < f) : pspreadS (codeB P n ++ ⟨#[45]⟩ ++ codeB P f) = (P, (n : Int), (f : Int), 0) := by
  have h1 := stroke_parts (codeB P n) (codeB P f) (code_no_stroke P n hp hn)
  unfold pspreadS
  rw [h1.1, h1.2, parse_code P n hp hn, parse_code P f hp hf]
  unfold joinS
  rw [if_neg]
  rintro (x | x | x | x)
  · exact x rfl
  · exact x rfl
  · exact x rfl
  · have : (f : Int) ≤ (n : Int) := x
    omega
theorem pspread_turned (P : ByteArray) (n f : Nat) (hp : prodB P = true) (hn : n ≤ 1199) (hf : f ≤ 1199) (h : ¬ n < f) : pspreadS (codeB P n ++ ⟨#[45]⟩ ++ codeB P f) = (⟨#[]⟩, 0, 0, 12) := by
  have h1 := stroke_parts (codeB P n) (codeB P f) (code_no_stroke P n hp hn)
  unfold pspreadS
  rw [h1.1, h1.2, parse_code P n hp hn, parse_code P f hp hf]
  unfold joinS
  rw [if_pos]
  exact .inr (.inr (.inr (by show (f : Int) ≤ (n : Int); omega)))
theorem pspread_code (P : ByteArray) (n : Nat) (hp : prodB P = true) (hn : n ≤ 1199) : pspreadS (codeB P n) = (⟨#[]⟩, 0, 0, 12) :=
  pspread_none _ (postB_none _ (code_no_stroke P n hp hn))
theorem parse_stroke (a b : ByteArray) : parseS (a ++ ⟨#[45]⟩ ++ b) = (⟨#[]⟩, 0, 12) := by
  rcases parse_inv (a ++ ⟨#[45]⟩ ++ b) with h | ⟨P, m, hp, hm, he, _⟩
  · exact h
  · exfalso
    have hno := code_no_stroke P m hp hm
    have hz : (a ++ ⟨#[45]⟩ ++ b).size = a.size + 1 + b.size := by
      rw [ByteArray.size_append, ByteArray.size_append]
      rfl
    have hat : (a ++ ⟨#[45]⟩ ++ b).get! a.size = 45 := by
      rw [ByteArray.append_assoc]
      have := get!_right a (⟨#[45]⟩ ++ b) 0
      rw [Nat.add_zero] at this
      rw [this, get!_left _ _ _ (by show 0 < 1; omega)]
      rfl
    rw [he] at hat hz
    refine hno a.size (by omega) ?_
    rw [getElem_get!]
    exact hat
end Go.Proofs.Ytjkdhldhmdfhkaa
