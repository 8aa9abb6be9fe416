/- Walks of the document's answers for chapter 3: cornhillref3.Product, Code, Parse. -/
import Derived.Test.YtjjddlfbadahhaaCode
namespace Go.Proofs.Ytjjddlfbadahhaa
open Go.RowKit

theorem valid_lt (c : Nat) (h : c < 2048) : Utf8.valid (c : Int) = true := by
  unfold Utf8.valid
  simp
  omega
theorem size_nil (s : ByteArray) (h : ¬ 0 < s.size) : s.data.toList = [] := by
  apply List.eq_nil_of_length_eq_zero
  rw [Array.length_toList]
  show s.size = 0
  omega
theorem toList_ne (s : ByteArray) (h : 0 < s.size) : s.toList.isEmpty = false := by
  rw [ByteArray.toList_eq]
  cases hl : s.data.toList with
  | nil =>
    have : s.data.toList.length = s.size := by simp
    rw [hl] at this
    simp at this
    omega
  | cons a l => rfl
theorem runes_one (s : ByteArray) : decide ((1 : Int) ≤ ((runesAt s 0).length : Int)) = !s.toList.isEmpty := by
  by_cases h : 0 < s.size
  · rw [toList_ne s h, runesAt_cons s 0 h, decide_eq_true (by rw [List.length_cons]; omega)]
    rfl
  · rw [runesAt_end s 0 h, ByteArray.toList_eq]
    rw [size_nil s h]
    rfl
theorem code_okI (s : ByteArray) (m : Int) (w : World) (hs : s.size + 3 ≤ maxLen) (hp : prodB s = true) (h0 : 0 ≤ m) (hm : m ≤ 1199) :
    Calls Try.prog 45 #[.string s, .int .i64 m] w fun e w' => e = .returned (.tuple #[.string (codeB s m.toNat), .int .i64 0]) ∧ Below w.heap.size w w' := by
  obtain ⟨k, rfl⟩ := Int.eq_ofNat_of_zero_le h0
  exact code_ok s k w hs hp (by omega)

set_option maxHeartbeats 400000 in
theorem rproduct_any (s : ByteArray) (w : World) (hs : s.size ≤ maxLen) :
    Calls Try.prog 50 #[.string s] w fun e w' => e = .returned (.bool (prodB s)) ∧ Below w.heap.size w w' := by
  have hl := runesAt_len s 0
  have hs1 : s.size ≤ 9223372036854775807 := by unfold maxLen at hs; omega
  clear hs
  go_enter Try.func50, Try.ntmps50
  go_wp2
  go_loopw [3, 5] (fun n _ w' => ∃ (pos k : Nat), w' = w.iter s pos ∧ n = .int .i64 k ∧ k + (runesAt s pos).length = (runesAt s 0).length ∧ (runesAt s 0).all (fun x => great x.2) = (runesAt s pos).all (fun x => great x.2)) (fun _ _ w' => s.size - w'.iterPos w.heap.size)
  case atStart => exact ⟨0, 0, rfl, rfl, by simp, rfl⟩
  case round =>
    obtain ⟨pos, k, rfl, rfl, hk, hc⟩ := hrel
    by_cases hp : pos < s.size
    · have hnx : ∀ ty, (Instr.next (.pointer (some ⟨w.heap.size, 0, none⟩)) true ty).run Try.prog (w.iter s pos) = _ := fun ty => run_next_any w s pos ty hp
      have hwd := width_pos s pos hp
      rw [runesAt_cons s pos hp, List.length_cons] at hk
      rw [runesAt_cons s pos hp, List.all_cons] at hc
      have hk1 : k + 1 ≤ s.size := by omega
      have HK := Lib.hid hk
      clear hk
      generalize hr : (Utf8.decode s pos).1 = r at *
      have hrb : r ≤ 2147483647 := by rw [← hr]; exact decode_le s pos
      clear hr
      rcases great_cases r with h | h | h | h | h | h
      all_goals
        obtain ⟨g1, b1, b2, b3, b4, b5, g3⟩ := h
        rw [g3] at hc
        have HC := Lib.hid hc
        clear hc g3
        go_wp2
        first
        | (go_roundw
           case rel => exact ⟨_, k + 1, rfl, by go_num, by have := HK.out; omega, by simpa using HC.out⟩
           case measure =>
             simp
             omega)
        | (go_ret
           have h1 := HC.out
           simp only [Bool.false_and] at h1
           exact ⟨by simp [prodB, h1], (Below.refl _ _).alloc (Nat.le_refl _) _⟩)
    · have hnx : ∀ ty, (Instr.next (.pointer (some ⟨w.heap.size, 0, none⟩)) true ty).run Try.prog (w.iter s pos) = _ := fun ty => run_next_end w s pos ty hp
      rw [runesAt_end s pos hp, List.length_nil] at hk
      rw [runesAt_end s pos hp] at hc
      have HP : Hid (prodB s = (decide ((1 : Int) ≤ (k : Int)) && decide ((k : Int) ≤ 4))) := by
        show prodB s = _
        unfold prodB
        rw [hc, ← runes_one s, show (runesAt s 0).length = k by omega]
        simp
      clear hk hc hl
      by_cases h1 : 1 ≤ k
      · have b1 : decide ((1 : Int) ≤ (k : Int)) = true := decide_eq_true (by omega)
        go_wp2
        go_ret
        exact ⟨by rw [HP.out, b1]; simp, (Below.refl _ _).alloc (Nat.le_refl _) _⟩
      · have b1 : decide ((1 : Int) ≤ (k : Int)) = false := decide_eq_false (by omega)
        go_wp2
        go_ret
        exact ⟨by rw [HP.out, b1]; simp, (Below.refl _ _).alloc (Nat.le_refl _) _⟩

/-- what Code answers -/
def codeS (s : ByteArray) (m : Int) : ByteArray × Int := if prodB s = false then (⟨#[]⟩, 12) else if m < 0 ∨ 1199 < m then (⟨#[]⟩, 1) else (codeB s m.toNat, 0)

theorem code_any (s : ByteArray) (m : Int) (w : World) (hs : s.size + 3 ≤ maxLen) :
    Calls Try.prog 45 #[.string s, .int .i64 m] w fun e w' => e = .returned (.tuple #[.string (codeS s m).1, .int .i64 (codeS s m).2]) ∧ Below w.heap.size w w' := by
  unfold codeS
  cases hp : prodB s with
  | false => exact code_bad s m w (by omega) hp
  | true =>
    by_cases hm : m < 0 ∨ 1199 < m
    · rw [if_neg (by simp), if_pos hm]
      exact code_out s m w (by omega) hp hm
    · rw [if_neg (by simp), if_neg hm]
      exact code_okI s m w hs hp (by omega) (by omega)

theorem codeB_eq2 (s : ByteArray) (m : Nat) : codeB s m = s ++ (⟨#[70, 71, 72, 74, 75, 77, 78, 81, 85, 86, 88, 90]⟩ : ByteArray).extract (m % 12) (m % 12 + 1) ++ ⟨#[UInt8.ofNat (48 + m / 12 / 10)]⟩ ++ ⟨#[UInt8.ofNat (48 + m / 12 % 10)]⟩ := by
  unfold codeB
  have h : m % 12 < 12 := Nat.mod_lt _ (by omega)
  generalize UInt8.ofNat (48 + m / 12 / 10) = x
  generalize UInt8.ofNat (48 + m / 12 % 10) = y
  generalize m % 12 = k at *
  apply ByteArray.ext
  have hk : k = 0 ∨ k = 1 ∨ k = 2 ∨ k = 3 ∨ k = 4 ∨ k = 5 ∨ k = 6 ∨ k = 7 ∨ k = 8 ∨ k = 9 ∨ k = 10 ∨ k = 11 := by omega
  rcases hk with rfl | rfl | rfl | rfl | rfl | rfl | rfl | rfl | rfl | rfl | rfl | rfl <;>
    (simp [letterB]; apply Array.ext'; simp)

theorem encode_ascii (c : Nat) (h : c < 128) : Utf8.encode (c : Int) = ⟨#[UInt8.ofNat c]⟩ := by
  simp [Utf8.encode, valid_lt c (by omega), h]

set_option maxRecDepth 100000 in
set_option maxHeartbeats 1000000 in
theorem rcode_any (s : ByteArray) (m : Int) (w : World) (hs : s.size + 3 ≤ maxLen) :
    Calls Try.prog 43 #[.string s, .int .i64 m] w fun e w' => e = .returned (.tuple #[.string (codeS s m).1, .int .i64 (codeS s m).2]) ∧ Below w.heap.size w w' := by
  have hs1 : s.size ≤ maxLen := by omega
  unfold codeS
  cases hp : prodB s with
  | false =>
    have HP := Lib.hid hp
    clear hp
    go_enter Try.func43, Try.ntmps43
    go_wp2_with (go_at_call 50; refine (rproduct_any _ _ hs1).mono ?_; rintro e w1 ⟨rfl, hb1⟩; rw [HP.out])
    go_ret2
    exact ⟨rfl, hb1⟩
  | true =>
    have HP := Lib.hid hp
    clear hp
    by_cases hm : m < 0 ∨ 1199 < m
    · rw [if_neg (by simp), if_pos hm]
      rcases hm with hm | hm
      · go_enter Try.func43, Try.ntmps43
        go_wp2_with (go_at_call 50; refine (rproduct_any _ _ hs1).mono ?_; rintro e w1 ⟨rfl, hb1⟩; rw [HP.out])
        go_ret2
        exact ⟨rfl, hb1⟩
      · have hm0 : ¬ m < 0 := by omega
        go_enter Try.func43, Try.ntmps43
        go_wp2_with (go_at_call 50; refine (rproduct_any _ _ hs1).mono ?_; rintro e w1 ⟨rfl, hb1⟩; rw [HP.out])
        go_ret2
        exact ⟨rfl, hb1⟩
    · rw [if_neg (by simp), if_neg hm]
      obtain ⟨k, rfl⟩ : ∃ k : Nat, m = k := ⟨m.toNat, by omega⟩
      have hk : k ≤ 1199 := by omega
      clear hm
      have hs9 : s.size + 3 ≤ 9223372036854775807 := by unfold maxLen at hs; omega
      obtain ⟨d1, D1, hd1⟩ : ∃ d1, Hid (UInt8.ofNat (48 + k / 12 / 10) = d1) ∧ ∀ w, Sem.run Try.prog (convert 21 9 (.int .i32 (48 + (k : Int) / 12 / 10))) w = .ok (.string ⟨#[d1]⟩) w :=
        ⟨_, rfl, fun w => by rw [run_convert_int_string w _ _ _ _ (by rw [Try.underlying21]; rfl) Try.underlying9, show (48 + (k : Int) / 12 / 10) = ((48 + k / 12 / 10 : Nat) : Int) from by omega, encode_ascii _ (by omega)]⟩
      obtain ⟨d2, D2, hd2⟩ : ∃ d2, Hid (UInt8.ofNat (48 + k / 12 % 10) = d2) ∧ ∀ w, Sem.run Try.prog (convert 21 9 (.int .i32 (48 + (k : Int) / 12 % 10))) w = .ok (.string ⟨#[d2]⟩) w :=
        ⟨_, rfl, fun w => by rw [run_convert_int_string w _ _ _ _ (by rw [Try.underlying21]; rfl) Try.underlying9, show (48 + (k : Int) / 12 % 10) = ((48 + k / 12 % 10 : Nat) : Int) from by omega, encode_ascii _ (by omega)]⟩
      go_enter Try.func43, Try.ntmps43
      go_wp2_with (go_at_call 50; refine (rproduct_any _ _ hs1).mono ?_; rintro e w1 ⟨rfl, hb1⟩; rw [HP.out])
      go_ret2
      refine ⟨?_, hb1⟩
      rw [show (k : Int).toNat = k from rfl, codeB_eq2 s k, D1.out, D2.out]
      rfl

end Go.Proofs.Ytjjddlfbadahhaa
