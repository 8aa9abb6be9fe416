/- Walks of the document's answers for chapter 3: cornhillref3.Product, Code, Parse. -/
import Derived.Test.YtmaijkoopjocdaaSym
namespace Go.Proofs.Ytmaijkoopjocdaa
open Go.RowKit

theorem valid_lt (c : Nat) (h : c < 2048) : Utf8.valid (c : Int) = true := by
  unfold Utf8.valid
  simp
  omega
theorem size_nil (s : ByteArray) (h : ¬ 0 < s.size) : s.data.toList = [] := by
  apply List.eq_nil_of_length_eq_zero
  rw [Array.length_toList]
  show s.size = 0
  omega
theorem toList_ne (s : ByteArray) (h : 0 < s.size) : s.toList.isEmpty = false := by
  rw [ByteArray.toList_eq]
  cases hl : s.data.toList with
  | nil =>
    have : s.data.toList.length = s.size := by simp
    rw [hl] at this
    simp at this
    omega
  | cons a l => rfl
theorem runes_one (s : ByteArray) : decide ((1 : Int) ≤ ((runesAt s 0).length : Int)) = !s.toList.isEmpty := by
  by_cases h : 0 < s.size
  · rw [toList_ne s h, runesAt_cons s 0 h, decide_eq_true (by rw [List.length_cons]; omega)]
    rfl
  · rw [runesAt_end s 0 h, ByteArray.toList_eq]
    rw [size_nil s h]
    rfl
set_option maxHeartbeats 400000 in
theorem rproduct_any (s : ByteArray) (w : World) (hs : s.size ≤ maxLen) :
    Calls Try.prog 72 #[.string s] w fun e w' => e = .returned (.bool (prodB s)) ∧ Below w.heap.size w w' := by
  have hl := runesAt_len s 0
  have hs1 : s.size ≤ 9223372036854775807 := by unfold maxLen at hs; omega
  clear hs
  go_enter Try.func72, Try.ntmps72
  go_wp2
  go_loopw [3, 5] (fun n _ w' => ∃ (pos k : Nat), w' = w.iter s pos ∧ n = .int .i64 k ∧ k + (runesAt s pos).length = (runesAt s 0).length ∧ (runesAt s 0).all (fun x => great x.2) = (runesAt s pos).all (fun x => great x.2)) (fun _ _ w' => s.size - w'.iterPos w.heap.size)
  case atStart => exact ⟨0, 0, rfl, rfl, by simp, rfl⟩
  case round =>
    obtain ⟨pos, k, rfl, rfl, hk, hc⟩ := hrel
    by_cases hp : pos < s.size
    · have hnx : ∀ ty, (Instr.next (.pointer (some ⟨w.heap.size, 0, none⟩)) true ty).run Try.prog (w.iter s pos) = _ := fun ty => run_next_any w s pos ty hp
      have hwd := width_pos s pos hp
      rw [runesAt_cons s pos hp, List.length_cons] at hk
      rw [runesAt_cons s pos hp, List.all_cons] at hc
      have hk1 : k + 1 ≤ s.size := by omega
      have HK := Lib.hid hk
      clear hk
      generalize hr : (Utf8.decode s pos).1 = r at *
      have hrb : r ≤ 2147483647 := by rw [← hr]; exact decode_le s pos
      clear hr
      rcases great_cases r with h | h | h | h | h | h
      all_goals
        obtain ⟨g1, b1, b2, b3, b4, b5, g3⟩ := h
        rw [g3] at hc
        have HC := Lib.hid hc
        clear hc g3
        go_wp2
        first
        | (go_roundw
           case rel => exact ⟨_, k + 1, rfl, by go_num, by have := HK.out; omega, by simpa using HC.out⟩
           case measure =>
             simp
             omega)
        | (go_ret
           have h1 := HC.out
           simp only [Bool.false_and] at h1
           exact ⟨by simp [prodB, h1], (Below.refl _ _).alloc (Nat.le_refl _) _⟩)
    · have hnx : ∀ ty, (Instr.next (.pointer (some ⟨w.heap.size, 0, none⟩)) true ty).run Try.prog (w.iter s pos) = _ := fun ty => run_next_end w s pos ty hp
      rw [runesAt_end s pos hp, List.length_nil] at hk
      rw [runesAt_end s pos hp] at hc
      have HP : Hid (prodB s = (decide ((1 : Int) ≤ (k : Int)) && decide ((k : Int) ≤ 4))) := by
        show prodB s = _
        unfold prodB
        rw [hc, ← runes_one s, show (runesAt s 0).length = k by omega]
        simp
      clear hk hc hl
      by_cases h1 : 1 ≤ k
      · have b1 : decide ((1 : Int) ≤ (k : Int)) = true := decide_eq_true (by omega)
        go_wp2
        go_ret
        exact ⟨by rw [HP.out, b1]; simp, (Below.refl _ _).alloc (Nat.le_refl _) _⟩
      · have b1 : decide ((1 : Int) ≤ (k : Int)) = false := decide_eq_false (by omega)
        go_wp2
        go_ret
        exact ⟨by rw [HP.out, b1]; simp, (Below.refl _ _).alloc (Nat.le_refl _) _⟩

end Go.Proofs.Ytmaijkoopjocdaa
