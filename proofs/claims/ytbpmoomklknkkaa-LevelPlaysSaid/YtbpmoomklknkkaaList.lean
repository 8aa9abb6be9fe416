/- The walks of level.Arena.Take refused for its quantity, of List. -/
import Derived.Test.YtbpmoomklknkkaaOpen
namespace Go.Proofs.Ytbpmoomklknkkaa
open Go.RowKit

section
variable {w : World} {pb sb : Nat} {S : List Slt} {qa : Option Addr} {qc : Nat} {Q : List Que} {F : Int}
set_option maxHeartbeats 400000 in
theorem take_qty (h : ArenaC w pb sb S qa qc Q F) (i : Nat) (qty : Int) (hi : i < S.length) (s : Slt) (hs : S[i]'hi = s) (hu : s.used = true) (hq : qty < 1 ∨ s.qty < qty) :
    Calls Try.prog 12 #[.pointer (some ⟨pb, 0, none⟩), .int .i64 i, .int .i64 qty] w fun e w' => e = .returned (.int .i64 24) ∧ w = w' := by
  have H := Lib.hid h
  have HN : Hid (slotPtr sb S i = .pointer (some ⟨sb, i * 8, none⟩)) := Lib.hid (by rw [slotPtr_at hi, hs, hu]; rfl)
  obtain ⟨_, _, _, s3, _, _, _, _⟩ := h.sf hi hs
  clear h hs hu
  rcases hq with hq | hq
  · go_enter Try.func12, Try.ntmps12
    go_wp2_with (go_at_call 24; refine (find_any H.out i).mono ?_; rintro e w1 ⟨rfl, rfl⟩; rw [HN.out])
    go_ret
    exact ⟨rfl, rfl⟩
  · by_cases h1 : qty < 1
    · go_enter Try.func12, Try.ntmps12
      go_wp2_with (go_at_call 24; refine (find_any H.out i).mono ?_; rintro e w1 ⟨rfl, rfl⟩; rw [HN.out])
      go_ret
      exact ⟨rfl, rfl⟩
    · go_enter Try.func12, Try.ntmps12
      go_wp2_with (go_at_call 24; refine (find_any H.out i).mono ?_; rintro e w1 ⟨rfl, rfl⟩; rw [HN.out])
      go_ret
      exact ⟨rfl, rfl⟩
set_option maxHeartbeats 400000 in
theorem list_no (h : ArenaC w pb sb S qa qc Q F) (n : Int) (hn : n < 0 ∨ (Q.length : Int) ≤ n) :
    Calls Try.prog 17 #[.pointer (some ⟨pb, 0, none⟩), .int .i64 n] w fun e w' => e = .returned (.slice none 0 0) ∧ w = w' := by
  have hb : Hid ((decide (0 ≤ n) && decide (n < (Q.length : Int))) = false) := Lib.hid (by simp; omega)
  have H := Lib.hid h
  clear h
  go_enter Try.func17, Try.ntmps17
  go_wp2_with (go_at_call 26; refine (is_any H.out n).mono ?_; rintro e w1 ⟨rfl, rfl⟩; rw [hb.out])
  go_ret
  exact ⟨rfl, rfl⟩
end
end Go.Proofs.Ytbpmoomklknkkaa
