/- Walks of the document's answers for chapter 3: cornhillref3.Product, Code, Parse. -/
import Derived.Test.YtjkdhldhmdfhkaaPlain
namespace Go.Proofs.Ytjkdhldhmdfhkaa
open Go.RowKit

set_option maxHeartbeats 400000 in
theorem rproduct_any (s : ByteArray) (w : World) (hs : s.size ≤ maxLen) :
    Calls Try.prog 20 #[.string s] w fun e w' => e = .returned (.bool (prodB s)) ∧ Below w.heap.size w w' := by
  have hl := runesAt_len s 0
  have hs1 : s.size ≤ 9223372036854775807 := by unfold maxLen at hs; omega
  clear hs
  go_enter Try.func20, Try.ntmps20
  go_wp2
  go_loopw [3, 5] (fun n _ w' => ∃ (pos k : Nat), w' = w.iter s pos ∧ n = .int .i64 k ∧ k + (runesAt s pos).length = (runesAt s 0).length ∧ (runesAt s 0).all (fun x => great x.2) = (runesAt s pos).all (fun x => great x.2)) (fun _ _ w' => s.size - w'.iterPos w.heap.size)
  case atStart => exact ⟨0, 0, rfl, rfl, by simp, rfl⟩
  case round =>
    obtain ⟨pos, k, rfl, rfl, hk, hc⟩ := hrel
    by_cases hp : pos < s.size
    · have hnx : ∀ ty, (Instr.next (.pointer (some ⟨w.heap.size, 0, none⟩)) true ty).run Try.prog (w.iter s pos) = _ := fun ty => run_next_any w s pos ty hp
      have hwd := width_pos s pos hp
      rw [runesAt_cons s pos hp, List.length_cons] at hk
      rw [runesAt_cons s pos hp, List.all_cons] at hc
      have hk1 : k + 1 ≤ s.size := by omega
      have HK := Lib.hid hk
      clear hk
      generalize hr : (Utf8.decode s pos).1 = r at *
      have hrb : r ≤ 2147483647 := by rw [← hr]; exact decode_le s pos
      clear hr
      rcases great_cases r with h | h | h | h | h | h
      all_goals
        obtain ⟨g1, b1, b2, b3, b4, b5, g3⟩ := h
        rw [g3] at hc
        have HC := Lib.hid hc
        clear hc g3
        go_wp2
        first
        | (go_roundw
           case rel => exact ⟨_, k + 1, rfl, by go_num, by have := HK.out; omega, by simpa using HC.out⟩
           case measure =>
             simp
             omega)
        | (go_ret
           have h1 := HC.out
           simp only [Bool.false_and] at h1
           exact ⟨by simp [prodB, h1], (Below.refl _ _).alloc (Nat.le_refl _) _⟩)
    · have hnx : ∀ ty, (Instr.next (.pointer (some ⟨w.heap.size, 0, none⟩)) true ty).run Try.prog (w.iter s pos) = _ := fun ty => run_next_end w s pos ty hp
      rw [runesAt_end s pos hp, List.length_nil] at hk
      rw [runesAt_end s pos hp] at hc
      have HP : Hid (prodB s = (decide ((1 : Int) ≤ (k : Int)) && decide ((k : Int) ≤ 4))) := by
        show prodB s = _
        unfold prodB
        rw [hc, ← runes_one s, show (runesAt s 0).length = k by omega]
        simp
      clear hk hc hl
      by_cases h1 : 1 ≤ k
      · have b1 : decide ((1 : Int) ≤ (k : Int)) = true := decide_eq_true (by omega)
        go_wp2
        go_ret
        exact ⟨by rw [HP.out, b1]; simp, (Below.refl _ _).alloc (Nat.le_refl _) _⟩
      · have b1 : decide ((1 : Int) ≤ (k : Int)) = false := decide_eq_false (by omega)
        go_wp2
        go_ret
        exact ⟨by rw [HP.out, b1]; simp, (Below.refl _ _).alloc (Nat.le_refl _) _⟩

/-- what Code answers -/
def codeS (s : ByteArray) (m : Int) : ByteArray × Int := if prodB s = false then (⟨#[]⟩, 12) else if m < 0 ∨ 1199 < m then (⟨#[]⟩, 1) else (codeB s m.toNat, 0)

theorem code_any (s : ByteArray) (m : Int) (w : World) (hs : s.size + 3 ≤ maxLen) :
    Calls Try.prog 12 #[.string s, .int .i64 m] w fun e w' => e = .returned (.tuple #[.string (codeS s m).1, .int .i64 (codeS s m).2]) ∧ Below w.heap.size w w' := by
  unfold codeS
  cases hp : prodB s with
  | false => exact code_bad s m w (by omega) hp
  | true =>
    by_cases hm : m < 0 ∨ 1199 < m
    · rw [if_neg (by simp), if_pos hm]
      exact code_out s m w (by omega) hp hm
    · rw [if_neg (by simp), if_neg hm]
      exact code_okI s m w hs hp (by omega) (by omega)

theorem codeB_eq2 (s : ByteArray) (m : Nat) : codeB s m = s ++ (⟨#[70, 71, 72, 74, 75, 77, 78, 81, 85, 86, 88, 90]⟩ : ByteArray).extract (m % 12) (m % 12 + 1) ++ ⟨#[UInt8.ofNat (48 + m / 12 / 10)]⟩ ++ ⟨#[UInt8.ofNat (48 + m / 12 % 10)]⟩ := by
  unfold codeB
  have h : m % 12 < 12 := Nat.mod_lt _ (by omega)
  generalize UInt8.ofNat (48 + m / 12 / 10) = x
  generalize UInt8.ofNat (48 + m / 12 % 10) = y
  generalize m % 12 = k at *
  apply ByteArray.ext
  have hk : k = 0 ∨ k = 1 ∨ k = 2 ∨ k = 3 ∨ k = 4 ∨ k = 5 ∨ k = 6 ∨ k = 7 ∨ k = 8 ∨ k = 9 ∨ k = 10 ∨ k = 11 := by omega
  rcases hk with rfl | rfl | rfl | rfl | rfl | rfl | rfl | rfl | rfl | rfl | rfl | rfl <;>
    (simp [letterB]; apply Array.ext'; simp)

theorem encode_ascii (c : Nat) (h : c < 128) : Utf8.encode (c : Int) = ⟨#[UInt8.ofNat c]⟩ := by
  simp [Utf8.encode, valid_lt c (by omega), h]

set_option maxRecDepth 100000 in
set_option maxHeartbeats 1000000 in
theorem rcode_any (s : ByteArray) (m : Int) (w : World) (hs : s.size + 3 ≤ maxLen) :
    Calls Try.prog 13 #[.string s, .int .i64 m] w fun e w' => e = .returned (.tuple #[.string (codeS s m).1, .int .i64 (codeS s m).2]) ∧ Below w.heap.size w w' := by
  have hs1 : s.size ≤ maxLen := by omega
  unfold codeS
  cases hp : prodB s with
  | false =>
    have HP := Lib.hid hp
    clear hp
    go_enter Try.func13, Try.ntmps13
    go_wp2_with (go_at_call 20; refine (rproduct_any _ _ hs1).mono ?_; rintro e w1 ⟨rfl, hb1⟩; rw [HP.out])
    go_ret2
    exact ⟨rfl, hb1⟩
  | true =>
    have HP := Lib.hid hp
    clear hp
    by_cases hm : m < 0 ∨ 1199 < m
    · rw [if_neg (by simp), if_pos hm]
      rcases hm with hm | hm
      · go_enter Try.func13, Try.ntmps13
        go_wp2_with (go_at_call 20; refine (rproduct_any _ _ hs1).mono ?_; rintro e w1 ⟨rfl, hb1⟩; rw [HP.out])
        go_ret2
        exact ⟨rfl, hb1⟩
      · have hm0 : ¬ m < 0 := by omega
        go_enter Try.func13, Try.ntmps13
        go_wp2_with (go_at_call 20; refine (rproduct_any _ _ hs1).mono ?_; rintro e w1 ⟨rfl, hb1⟩; rw [HP.out])
        go_ret2
        exact ⟨rfl, hb1⟩
    · rw [if_neg (by simp), if_neg hm]
      obtain ⟨k, rfl⟩ : ∃ k : Nat, m = k := ⟨m.toNat, by omega⟩
      have hk : k ≤ 1199 := by omega
      clear hm
      have hs9 : s.size + 3 ≤ 9223372036854775807 := by unfold maxLen at hs; omega
      obtain ⟨d1, D1, hd1⟩ : ∃ d1, Hid (UInt8.ofNat (48 + k / 12 / 10) = d1) ∧ ∀ w, Sem.run Try.prog (convert 21 9 (.int .i32 (48 + (k : Int) / 12 / 10))) w = .ok (.string ⟨#[d1]⟩) w :=
        ⟨_, rfl, fun w => by rw [run_convert_int_string w _ _ _ _ (by rw [Try.underlying21]; rfl) Try.underlying9, show (48 + (k : Int) / 12 / 10) = ((48 + k / 12 / 10 : Nat) : Int) from by omega, encode_ascii _ (by omega)]⟩
      obtain ⟨d2, D2, hd2⟩ : ∃ d2, Hid (UInt8.ofNat (48 + k / 12 % 10) = d2) ∧ ∀ w, Sem.run Try.prog (convert 21 9 (.int .i32 (48 + (k : Int) / 12 % 10))) w = .ok (.string ⟨#[d2]⟩) w :=
        ⟨_, rfl, fun w => by rw [run_convert_int_string w _ _ _ _ (by rw [Try.underlying21]; rfl) Try.underlying9, show (48 + (k : Int) / 12 % 10) = ((48 + k / 12 % 10 : Nat) : Int) from by omega, encode_ascii _ (by omega)]⟩
      go_enter Try.func13, Try.ntmps13
      go_wp2_with (go_at_call 20; refine (rproduct_any _ _ hs1).mono ?_; rintro e w1 ⟨rfl, hb1⟩; rw [HP.out])
      go_ret2
      refine ⟨?_, hb1⟩
      rw [show (k : Int).toNat = k from rfl, codeB_eq2 s k, D1.out, D2.out]
      rfl

theorem parse_short (s : ByteArray) (h : s.size < 4) : parseS s = (⟨#[]⟩, 0, 12) := by
  rcases parse_inv s with h1 | ⟨P, m, hp, _, rfl, _⟩
  · exact h1
  · rw [codeB_size] at h
    have h2 : ¬ 0 < P.size := by omega
    unfold prodB at hp
    rw [ByteArray.toList_eq, size_nil P h2] at hp
    simp at hp

theorem three_inj {P Q : ByteArray} {a b c x y z : UInt8} (h : P ++ three a b c = Q ++ three x y z) : P = Q ∧ a = x ∧ b = y ∧ c = z := by
  have h1 := congrArg ByteArray.data h
  rw [ByteArray.data_append, ByteArray.data_append] at h1
  have h2 := congrArg Array.toList h1
  rw [Array.toList_append, Array.toList_append] at h2
  have h3 := List.append_inj' h2 rfl
  have h4 : [a, b, c] = [x, y, z] := h3.2
  injection h4 with e1 h5
  injection h5 with e2 h6
  injection h6 with e3 _
  exact ⟨ByteArray.ext (Array.toList_inj.1 h3.1), e1, e2, e3⟩

/-- three bytes behind a text read as a month just where they are a letter and two digits, and the text is a product -/
theorem parse_not (P : ByteArray) (a b c : UInt8) (h : ¬ (prodB P = true ∧ 0 ≤ Lib.indexByte letterB a ∧ (48 ≤ b.toNat ∧ b.toNat ≤ 57) ∧ (48 ≤ c.toNat ∧ c.toNat ≤ 57))) : parseS (P ++ three a b c) = (⟨#[]⟩, 0, 12) := by
  rcases parse_inv (P ++ three a b c) with h1 | ⟨Q, m, hp, hm, he, _⟩
  · exact h1
  · rw [codeB_three] at he
    obtain ⟨rfl, rfl, rfl, rfl⟩ := three_inj he
    refine absurd ⟨hp, ?_, ?_, ?_⟩ h
    · rw [(indexByte_letter (m % 12) (by omega)).1]; omega
    · have e1 : (UInt8.ofNat (48 + m / 12 / 10)).toNat = 48 + m / 12 / 10 := by simp; omega
      rw [e1]; omega
    · have e2 : (UInt8.ofNat (48 + m / 12 % 10)).toNat = 48 + m / 12 % 10 := by simp; omega
      rw [e2]; omega

theorem parse_yes (P : ByteArray) (a b c : UInt8) (i : Nat) (hi : Lib.indexByte letterB a = i) (hp : prodB P = true) (hb : 48 ≤ b.toNat ∧ b.toNat ≤ 57) (hc : 48 ≤ c.toNat ∧ c.toNat ≤ 57) :
    parseS (P ++ three a b c) = (P, 12 * (10 * ((b.toNat : Int) - 48) + ((c.toNat : Int) - 48)) + (i : Int), 0) := by
  have e : UInt8.ofNat a.toNat = a := by simp
  have h := indexByte_hit a.toNat a.toNat_lt (by rw [e, hi]; omega)
  rw [parse_three P a b c hp h.1 (by rw [hi]; omega) hb hc, hi]

theorem three_facts (s : ByteArray) (h : 4 ≤ s.size) : ∃ (P : ByteArray) (a b c : UInt8), Hid (s = P ++ three a b c) ∧ s.extract 0 (s.size - 3) = P ∧ P.size + 3 = s.size ∧
    (∀ h1 : s.size - 3 < s.size, s[s.size - 3]'h1 = a) ∧ (∀ h1 : s.size - 2 < s.size, s[s.size - 2]'h1 = b) ∧ (∀ h1 : s.size - 1 < s.size, s[s.size - 1]'h1 = c) := by
  have hs := split_at s (s.size - 3) (by omega)
  have hz : (s.extract (s.size - 3) s.size).size = 3 := by simp; omega
  have hq := three_of _ hz
  have g : ∀ k, (s.extract (s.size - 3) s.size).get! k = s.get! (s.size - 3 + k) := fun k => get!_extract s _ k (by omega)
  rw [g, g, g] at hq
  have ga : ∀ k (hk : k < s.size), s.get! k = s[k]'hk := fun k hk => get_at s k hk
  refine ⟨_, _, _, _, by rw [hq] at hs; exact hs, rfl, by simp; omega, fun h1 => (ga _ h1).symm, fun h1 => ?_, fun h1 => ?_⟩
  · rw [← ga _ h1]; congr 1; omega
  · rw [← ga _ h1]; congr 1; omega

theorem no_next {a : UInt8} {k : Nat} (h : ∀ j, j < k → letterB.getD j 0 ≠ a) (hk : letterB.getD k 0 ≠ a) : ∀ j, j < k + 1 → letterB.getD j 0 ≠ a := by
  intro j hj
  by_cases e : j = k
  · subst e; exact hk
  · exact h j (by omega)

theorem letter_at (i : Nat) (hi : i < 12) : ∃ l : UInt8, Hid (letterB.getD i 0 = l) ∧ ∀ h : i < (⟨#[70, 71, 72, 74, 75, 77, 78, 81, 85, 86, 88, 90]⟩ : ByteArray).size, (⟨#[70, 71, 72, 74, 75, 77, 78, 81, 85, 86, 88, 90]⟩ : ByteArray)[i]'h = l := by
  refine ⟨_, rfl, fun h => ?_⟩
  have hk : i = 0 ∨ i = 1 ∨ i = 2 ∨ i = 3 ∨ i = 4 ∨ i = 5 ∨ i = 6 ∨ i = 7 ∨ i = 8 ∨ i = 9 ∨ i = 10 ∨ i = 11 := by omega
  rcases hk with rfl | rfl | rfl | rfl | rfl | rfl | rfl | rfl | rfl | rfl | rfl | rfl <;> rfl

theorem index_first : ∀ i, i < 12 → ∀ n, n < 256 → letterB.getD i 0 = UInt8.ofNat n → Lib.indexByte letterB (UInt8.ofNat n) = i := by
  intro i hi n _ h
  rw [← h]
  exact (indexByte_letter i hi).1

theorem index_never (a : UInt8) (h : ∀ i, i < 12 → letterB.getD i 0 ≠ a) : ¬ 0 ≤ Lib.indexByte letterB a := by
  intro h0
  have e : UInt8.ofNat a.toNat = a := by simp
  have h1 := indexByte_hit a.toNat a.toNat_lt (by rw [e]; exact h0)
  rw [e] at h1
  exact h _ (by omega) h1.2.1
end Go.Proofs.Ytjkdhldhmdfhkaa
