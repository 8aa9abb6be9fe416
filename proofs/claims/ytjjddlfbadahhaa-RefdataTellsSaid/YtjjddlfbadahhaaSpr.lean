/- Walks of Spread and ParseSpread, the program's and the document's. -/
import Derived.Test.YtjjddlfbadahhaaRef
namespace Go.Proofs.Ytjjddlfbadahhaa
open Go.RowKit

theorem codeB_size (q : ByteArray) (m : Nat) : (codeB q m).size = q.size + 3 := by simp [codeB]; rfl

theorem codeS_size (s : ByteArray) (m : Int) : (codeS s m).1.size ≤ s.size + 3 := by
  unfold codeS
  split
  · show 0 ≤ _; omega
  · split
    · show 0 ≤ _; omega
    · rw [codeB_size]; omega

/-- what Spread answers -/
def spreadS (s : ByteArray) (n f : Int) : ByteArray × Int :=
  if (codeS s n).2 ≠ 0 then (⟨#[]⟩, (codeS s n).2) else if (codeS s f).2 ≠ 0 then (⟨#[]⟩, (codeS s f).2) else if f ≤ n then (⟨#[]⟩, 1) else ((codeS s n).1 ++ ⟨#[45]⟩ ++ (codeS s f).1, 0)

set_option maxHeartbeats 1000000 in
theorem spread_any (s : ByteArray) (n f : Int) (w : World) (hs : s.size ≤ 1000) :
    Calls Try.prog 46 #[.string s, .int .i64 n, .int .i64 f] w fun e w' => e = .returned (.tuple #[.string (spreadS s n f).1, .int .i64 (spreadS s n f).2]) ∧ Below w.heap.size w w' := by
  have hA := codeS_size s n
  have hB := codeS_size s f
  have h3 : s.size + 3 ≤ maxLen := by unfold maxLen; omega
  have HS : Hid (spreadS s n f = (if (codeS s n).2 ≠ 0 then (⟨#[]⟩, (codeS s n).2) else if (codeS s f).2 ≠ 0 then (⟨#[]⟩, (codeS s f).2) else if f ≤ n then (⟨#[]⟩, 1) else ((codeS s n).1 ++ ⟨#[45]⟩ ++ (codeS s f).1, 0))) := rfl
  have HC1 : ∀ w, Calls Try.prog 45 #[.string s, .int .i64 n] w fun e w' => e = .returned (.tuple #[.string (codeS s n).1, .int .i64 (codeS s n).2]) ∧ Below w.heap.size w w' := fun w => code_any s n w h3
  have HC2 : ∀ w, Calls Try.prog 45 #[.string s, .int .i64 f] w fun e w' => e = .returned (.tuple #[.string (codeS s f).1, .int .i64 (codeS s f).2]) ∧ Below w.heap.size w w' := fun w => code_any s f w h3
  generalize codeS s n = A at *
  generalize codeS s f = B at *
  obtain ⟨a, ea⟩ := A
  obtain ⟨b, eb⟩ := B
  simp only [] at hA hB HS HC1 HC2
  have H1 := Lib.hid HC1
  have H2 := Lib.hid HC2
  clear HC1 HC2
  by_cases hea : ea = 0
  · subst hea
    by_cases heb : eb = 0
    · subst heb
      by_cases hle : f ≤ n
      · have HR : Hid (spreadS s n f = (⟨#[]⟩, 1)) := Lib.hid (by rw [HS.out]; simp [hle])
        clear HS
        go_enter Try.func46, Try.ntmps46
        go_wp2_with fail
        refine (H1.out _).mono ?_
        rintro e w1 ⟨rfl, hb1⟩
        go_wp2_with fail
        refine (H2.out _).mono ?_
        rintro e w2 ⟨rfl, hb2⟩
        go_wp2_with fail
        go_ret2
        rw [HR.out]
        exact ⟨rfl, hb1.trans (hb2.mono hb1.size)⟩
      · have HR : Hid (spreadS s n f = (a ++ ⟨#[45]⟩ ++ b, 0)) := Lib.hid (by rw [HS.out]; simp [hle])
        clear HS
        go_enter Try.func46, Try.ntmps46
        go_wp2_with fail
        refine (H1.out _).mono ?_
        rintro e w1 ⟨rfl, hb1⟩
        go_wp2_with fail
        refine (H2.out _).mono ?_
        rintro e w2 ⟨rfl, hb2⟩
        go_wp2_with fail
        go_ret2
        rw [HR.out]
        exact ⟨rfl, hb1.trans (hb2.mono hb1.size)⟩
    · have HR : Hid (spreadS s n f = (⟨#[]⟩, eb)) := Lib.hid (by rw [HS.out]; simp [heb])
      have hb : (eb != 0) = true := by simpa using heb
      have hb' : (eb == 0) = false := by simpa using heb
      clear HS heb
      go_enter Try.func46, Try.ntmps46
      go_wp2_with fail
      refine (H1.out _).mono ?_
      rintro e w1 ⟨rfl, hb1⟩
      go_wp2_with fail
      refine (H2.out _).mono ?_
      rintro e w2 ⟨rfl, hb2⟩
      go_wp2_with fail
      go_ret2
      rw [HR.out]
      exact ⟨rfl, hb1.trans (hb2.mono hb1.size)⟩
  · have HR : Hid (spreadS s n f = (⟨#[]⟩, ea)) := Lib.hid (by rw [HS.out]; simp [hea])
    have ha : (ea != 0) = true := by simpa using hea
    have ha' : (ea == 0) = false := by simpa using hea
    clear HS hea
    go_enter Try.func46, Try.ntmps46
    go_wp2_with fail
    refine (H1.out _).mono ?_
    rintro e w1 ⟨rfl, hb1⟩
    go_wp2_with fail
    go_ret2
    rw [HR.out]
    exact ⟨rfl, hb1⟩

set_option maxHeartbeats 1000000 in
theorem rspread_any (s : ByteArray) (n f : Int) (w : World) (hs : s.size ≤ 1000) :
    Calls Try.prog 44 #[.string s, .int .i64 n, .int .i64 f] w fun e w' => e = .returned (.tuple #[.string (spreadS s n f).1, .int .i64 (spreadS s n f).2]) ∧ Below w.heap.size w w' := by
  have hA := codeS_size s n
  have hB := codeS_size s f
  have h3 : s.size + 3 ≤ maxLen := by unfold maxLen; omega
  have HS : Hid (spreadS s n f = (if (codeS s n).2 ≠ 0 then (⟨#[]⟩, (codeS s n).2) else if (codeS s f).2 ≠ 0 then (⟨#[]⟩, (codeS s f).2) else if f ≤ n then (⟨#[]⟩, 1) else ((codeS s n).1 ++ ⟨#[45]⟩ ++ (codeS s f).1, 0))) := rfl
  have HC1 : ∀ w, Calls Try.prog 43 #[.string s, .int .i64 n] w fun e w' => e = .returned (.tuple #[.string (codeS s n).1, .int .i64 (codeS s n).2]) ∧ Below w.heap.size w w' := fun w => rcode_any s n w h3
  have HC2 : ∀ w, Calls Try.prog 43 #[.string s, .int .i64 f] w fun e w' => e = .returned (.tuple #[.string (codeS s f).1, .int .i64 (codeS s f).2]) ∧ Below w.heap.size w w' := fun w => rcode_any s f w h3
  generalize codeS s n = A at *
  generalize codeS s f = B at *
  obtain ⟨a, ea⟩ := A
  obtain ⟨b, eb⟩ := B
  simp only [] at hA hB HS HC1 HC2
  have H1 := Lib.hid HC1
  have H2 := Lib.hid HC2
  clear HC1 HC2
  by_cases hea : ea = 0
  · subst hea
    by_cases heb : eb = 0
    · subst heb
      by_cases hle : f ≤ n
      · have HR : Hid (spreadS s n f = (⟨#[]⟩, 1)) := Lib.hid (by rw [HS.out]; simp [hle])
        clear HS
        go_enter Try.func44, Try.ntmps44
        go_wp2_with fail
        refine (H1.out _).mono ?_
        rintro e w1 ⟨rfl, hb1⟩
        go_wp2_with fail
        refine (H2.out _).mono ?_
        rintro e w2 ⟨rfl, hb2⟩
        go_wp2_with fail
        go_ret2
        rw [HR.out]
        exact ⟨rfl, hb1.trans (hb2.mono hb1.size)⟩
      · have HR : Hid (spreadS s n f = (a ++ ⟨#[45]⟩ ++ b, 0)) := Lib.hid (by rw [HS.out]; simp [hle])
        clear HS
        go_enter Try.func44, Try.ntmps44
        go_wp2_with fail
        refine (H1.out _).mono ?_
        rintro e w1 ⟨rfl, hb1⟩
        go_wp2_with fail
        refine (H2.out _).mono ?_
        rintro e w2 ⟨rfl, hb2⟩
        go_wp2_with fail
        go_ret2
        rw [HR.out]
        exact ⟨rfl, hb1.trans (hb2.mono hb1.size)⟩
    · have HR : Hid (spreadS s n f = (⟨#[]⟩, eb)) := Lib.hid (by rw [HS.out]; simp [heb])
      have hb : (eb != 0) = true := by simpa using heb
      have hb' : (eb == 0) = false := by simpa using heb
      clear HS heb
      go_enter Try.func44, Try.ntmps44
      go_wp2_with fail
      refine (H1.out _).mono ?_
      rintro e w1 ⟨rfl, hb1⟩
      go_wp2_with fail
      refine (H2.out _).mono ?_
      rintro e w2 ⟨rfl, hb2⟩
      go_wp2_with fail
      go_ret2
      rw [HR.out]
      exact ⟨rfl, hb1.trans (hb2.mono hb1.size)⟩
  · have HR : Hid (spreadS s n f = (⟨#[]⟩, ea)) := Lib.hid (by rw [HS.out]; simp [hea])
    have ha : (ea != 0) = true := by simpa using hea
    have ha' : (ea == 0) = false := by simpa using hea
    clear HS hea
    go_enter Try.func44, Try.ntmps44
    go_wp2_with fail
    refine (H1.out _).mono ?_
    rintro e w1 ⟨rfl, hb1⟩
    go_wp2_with fail
    go_ret2
    rw [HR.out]
    exact ⟨rfl, hb1⟩

end Go.Proofs.Ytjjddlfbadahhaa
