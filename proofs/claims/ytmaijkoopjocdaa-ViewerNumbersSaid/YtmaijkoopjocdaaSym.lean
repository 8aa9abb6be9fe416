/- Walks of label.Count and label.Cut. -/
import Derived.Test.YtmaijkoopjocdaaChecked
import Derived.WalkKit
import Derived.WalkSpells
import Derived.WalkLawsBesides
import Derived.Lib.Hide
import Derived.Lib.OthersKept
namespace Go.Proofs.Ytmaijkoopjocdaa
open Go.RowKit

/-- the runes of a text from a place on: where each stands, and its number -/
def rs (s : ByteArray) : Nat → Nat → List (Nat × Nat)
  | 0, _ => []
  | f + 1, p => if p < s.size then (p, (Utf8.decode s p).1) :: rs s f (p + (Utf8.decode s p).2) else []

theorem width_pos (s : ByteArray) (pos : Nat) (h : pos < s.size) : 1 ≤ (Utf8.decode s pos).2 := by
  by_cases ha : (s[pos]'h).toNat < 128
  · rw [decode_ascii s pos h ha]
    exact Nat.le_refl _
  · exact (decode_high s pos h (by omega)).2

theorem rs_end (s : ByteArray) (f p : Nat) (h : ¬ p < s.size) : rs s f p = [] := by
  cases f with
  | zero => rfl
  | succ f => simp [rs, h]

theorem rs_fuel (s : ByteArray) : ∀ (f g p : Nat), s.size ≤ p + f → s.size ≤ p + g → rs s f p = rs s g p := by
  intro f
  induction f with
  | zero =>
    intro g p h _
    rw [rs_end s 0 p (by omega), rs_end s g p (by omega)]
  | succ f ih =>
    intro g p hf hg
    cases g with
    | zero => rw [rs_end s _ p (by omega), rs_end s _ p (by omega)]
    | succ g =>
      by_cases hp : p < s.size
      · have := width_pos s p hp
        simp only [rs, hp, if_true]
        rw [ih g _ (by omega) (by omega)]
      · rw [rs_end s _ p hp, rs_end s _ p hp]

/-- the runes from a place on -/
def runesAt (s : ByteArray) (p : Nat) : List (Nat × Nat) := rs s (s.size - p) p
theorem runesAt_end (s : ByteArray) (p : Nat) (h : ¬ p < s.size) : runesAt s p = [] := rs_end s _ p h
theorem runesAt_cons (s : ByteArray) (p : Nat) (h : p < s.size) : runesAt s p = (p, (Utf8.decode s p).1) :: runesAt s (p + (Utf8.decode s p).2) := by
  unfold runesAt
  have := width_pos s p h
  rw [show s.size - p = (s.size - p - 1) + 1 by omega]
  simp only [rs, h, if_true]
  rw [rs_fuel s _ (s.size - (p + (Utf8.decode s p).2)) _ (by omega) (by omega)]
theorem runesAt_len (s : ByteArray) (p : Nat) : (runesAt s p).length ≤ s.size - p := by
  unfold runesAt
  generalize s.size - p = f
  induction f generalizing p with
  | zero => simp [rs]
  | succ f ih =>
    simp only [rs]
    split
    · simp; exact ih _
    · simp

set_option maxHeartbeats 400000 in
theorem count_any (s : ByteArray) (w : World) (hs : s.size ≤ maxLen) :
    Calls Try.prog 69 #[.string s] w fun e w' => e = .returned (.int .i64 (runesAt s 0).length) ∧ Below w.heap.size w w' := by
  unfold maxLen at hs
  have hl := runesAt_len s 0
  go_enter Try.func69, Try.ntmps69
  go_wp2
  go_loopw [3] (fun n w' => ∃ (pos k : Nat), w' = w.iter s pos ∧ n = .int .i64 k ∧ k + (runesAt s pos).length = (runesAt s 0).length) (fun _ w' => s.size - w'.iterPos w.heap.size)
  case atStart => exact ⟨0, 0, rfl, rfl, by simp⟩
  case round =>
    obtain ⟨pos, k, rfl, rfl, hc⟩ := hrel
    by_cases hp : pos < s.size
    · have hnx : ∀ ty, (Instr.next (.pointer (some ⟨w.heap.size, 0, none⟩)) true ty).run Try.prog (w.iter s pos) = _ := fun ty => run_next_any w s pos ty hp
      have hwd := width_pos s pos hp
      have hcs := runesAt_cons s pos hp
      have hk : k + 1 + (runesAt s (pos + (Utf8.decode s pos).2)).length = (runesAt s 0).length := by rw [hcs] at hc; simp at hc; omega
      have hk2 : k + 1 ≤ s.size := by omega
      have HK := Lib.hid hk
      clear hcs hc hk
      go_wp2
      go_roundw
      case rel => exact ⟨_, k + 1, rfl, by go_num, HK.out⟩
      case measure =>
        simp
        omega
    · have hnx : ∀ ty, (Instr.next (.pointer (some ⟨w.heap.size, 0, none⟩)) true ty).run Try.prog (w.iter s pos) = _ := fun ty => run_next_end w s pos ty hp
      rw [runesAt_end s pos hp] at hc
      have HC := Lib.hid hc
      clear hc
      go_wp2
      go_ret
      have h1 := HC.out
      simp at h1
      exact ⟨by simp [h1], (Below.refl _ _).alloc (Nat.le_refl _) _⟩

/-- a great letter, Latin or Greek -/
def great (r : Nat) : Bool := (65 ≤ r && r ≤ 90) || (913 ≤ r && r ≤ 937 && r != 930)
def prodB (s : ByteArray) : Bool := (runesAt s 0).all (fun x => great x.2) && !s.toList.isEmpty && decide (((runesAt s 0).length : Int) ≤ 4)

theorem great_cases (r : Nat) : ((r : Int) < 65 ∧ decide ((65 : Int) ≤ r) = false ∧ decide ((913 : Int) ≤ r) = false ∧ decide ((r : Int) ≤ 90) = true ∧ decide ((r : Int) ≤ 937) = true ∧ ((r : Int) != 930) = true ∧ great r = false) ∨
    (((65 : Int) ≤ r ∧ (r : Int) ≤ 90) ∧ decide ((65 : Int) ≤ r) = true ∧ decide ((913 : Int) ≤ r) = false ∧ decide ((r : Int) ≤ 90) = true ∧ decide ((r : Int) ≤ 937) = true ∧ ((r : Int) != 930) = true ∧ great r = true) ∨
    (((90 : Int) < r ∧ (r : Int) < 913) ∧ decide ((65 : Int) ≤ r) = true ∧ decide ((913 : Int) ≤ r) = false ∧ decide ((r : Int) ≤ 90) = false ∧ decide ((r : Int) ≤ 937) = true ∧ ((r : Int) != 930) = true ∧ great r = false) ∨
    (((913 : Int) ≤ r ∧ (r : Int) ≤ 937) ∧ decide ((65 : Int) ≤ r) = true ∧ decide ((913 : Int) ≤ r) = true ∧ decide ((r : Int) ≤ 90) = false ∧ decide ((r : Int) ≤ 937) = true ∧ ((r : Int) != 930) = true ∧ great r = true) ∨
    (((930 : Int) ≤ r ∧ (r : Int) ≤ 930) ∧ decide ((65 : Int) ≤ r) = true ∧ decide ((913 : Int) ≤ r) = true ∧ decide ((r : Int) ≤ 90) = false ∧ decide ((r : Int) ≤ 937) = true ∧ ((r : Int) != 930) = false ∧ great r = false) ∨
    ((937 : Int) < r ∧ decide ((65 : Int) ≤ r) = true ∧ decide ((913 : Int) ≤ r) = true ∧ decide ((r : Int) ≤ 90) = false ∧ decide ((r : Int) ≤ 937) = false ∧ ((r : Int) != 930) = true ∧ great r = false) := by
  unfold great
  simp only [Bool.or_eq_true, Bool.and_eq_true, decide_eq_true_eq, bne_iff_ne, Bool.or_eq_false_iff, Bool.and_eq_false_iff, decide_eq_false_iff_not, bne_eq_false_iff_eq]
  omega

set_option maxHeartbeats 400000 in
theorem product_any (s : ByteArray) (w : World) (hs : s.size ≤ maxLen) :
    Calls Try.prog 42 #[.string s] w fun e w' => e = .returned (.bool (prodB s)) ∧ Below w.heap.size w w' := by
  have hs0 := hs
  unfold maxLen at hs
  go_enter Try.func42, Try.ntmps42
  go_wp2
  go_loopw [4, 5] (fun _ _ w' => ∃ (pos : Nat), w' = w.iter s pos ∧ (runesAt s 0).all (fun x => great x.2) = (runesAt s pos).all (fun x => great x.2)) (fun _ _ w' => s.size - w'.iterPos w.heap.size)
  case atStart => exact ⟨0, rfl, rfl⟩
  case round =>
    obtain ⟨pos, rfl, hc⟩ := hrel
    by_cases hp : pos < s.size
    · have hnx : ∀ ty, (Instr.next (.pointer (some ⟨w.heap.size, 0, none⟩)) true ty).run Try.prog (w.iter s pos) = _ := fun ty => run_next_any w s pos ty hp
      have hwd := width_pos s pos hp
      rw [runesAt_cons s pos hp, List.all_cons] at hc
      generalize hr : (Utf8.decode s pos).1 = r at *
      have hrb : r ≤ 2147483647 := by rw [← hr]; exact decode_le s pos
      clear hr
      rcases great_cases r with h | h | h | h | h | h
      all_goals
        obtain ⟨g1, b1, b2, b3, b4, b5, g3⟩ := h
        rw [g3] at hc
        have HC := Lib.hid hc
        clear hc g3
        go_wp2
        first
        | (go_roundw
           case rel => exact ⟨_, rfl, by simpa using HC.out⟩
           case measure =>
             simp
             omega)
        | (go_ret
           have h1 := HC.out
           simp only [Bool.false_and] at h1
           exact ⟨by simp [prodB, h1], (Below.refl _ _).alloc (Nat.le_refl _) _⟩)
    · have hnx : ∀ ty, (Instr.next (.pointer (some ⟨w.heap.size, 0, none⟩)) true ty).run Try.prog (w.iter s pos) = _ := fun ty => run_next_end w s pos ty hp
      rw [runesAt_end s pos hp] at hc
      have HC := Lib.hid hc
      clear hc
      by_cases he : s.toList = []
      · have hz : s.toList.isEmpty = true := by simp [he]
        go_wp2_with (go_at_call 69; refine (count_any _ _ hs0).mono ?_; rintro e w1 ⟨rfl, hb1⟩)
        go_ret
        exact ⟨by simp [prodB, hz], (Below.refl _ _).alloc (Nat.le_refl _) _⟩
      · have hz : s.toList.isEmpty = false := by simp [he]
        go_wp2_with (go_at_call 69; refine (count_any _ _ hs0).mono ?_; rintro e w1 ⟨rfl, hb1⟩)
        go_ret
        have h1 := HC.out
        simp only [List.all_nil] at h1
        exact ⟨by simp [prodB, hz, h1], ((Below.refl _ _).alloc (Nat.le_refl _) _).trans (hb1.mono (by simp [World.iter]))⟩
end Go.Proofs.Ytmaijkoopjocdaa
