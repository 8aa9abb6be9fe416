/- The walk of level.Arena.Get. -/
import Derived.Test.YtbpmoomklknkkaaLevX
namespace Go.Proofs.Ytbpmoomklknkkaa
open Go.RowKit

section
variable {w : World} {pb sb : Nat} {S : List Slt} {qa : Option Addr} {qc : Nat} {Q : List Que} {F : Int}
set_option maxHeartbeats 400000 in
theorem get_no (h : ArenaC w pb sb S qa qc Q F) (n : Int) (hn : slotPtr sb S n = .pointer none) :
    Calls Try.prog 11 #[.pointer (some ⟨pb, 0, none⟩), .int .i64 n] w fun e w' => e = .returned (.tuple #[.agg #[.int .i64 0, .int .i64 0, .int .i64 0, .bool false], .bool false]) ∧ Below w.heap.size w w' := by
  have H := Lib.hid h
  have HN := Lib.hid hn
  clear h hn
  go_enter Try.func11, Try.ntmps11
  go_wp2_with (go_at_call 24; refine (find_any (H.out.alloc _) n).mono ?_; rintro e w1 ⟨rfl, rfl⟩; rw [HN.out])
  exact bodyPost_ret (v := .tuple #[.agg #[.int .i64 0, .int .i64 0, .int .i64 0, .bool false], .bool false]) (by simp [results, Try.results11, go_sem]) rfl ⟨rfl, (Below.refl _ _).alloc (Nat.le_refl _) _⟩
set_option maxHeartbeats 400000 in
theorem get_yes (h : ArenaC w pb sb S qa qc Q F) (i : Nat) (hi : i < S.length) (s : Slt) (hs : S[i]'hi = s) (hu : s.used = true) :
    Calls Try.prog 11 #[.pointer (some ⟨pb, 0, none⟩), .int .i64 i] w fun e w' => e = .returned (.tuple #[.agg #[.int .i64 s.slot, .int .i64 s.id, .int .i64 s.qty, .bool s.top], .bool true]) ∧ Below w.heap.size w w' := by
  have H := Lib.hid h
  have HN : Hid (slotPtr sb S i = .pointer (some ⟨sb, i * 8, none⟩)) := Lib.hid (by rw [slotPtr_at hi, hs, hu]; rfl)
  have hlt := h.hs.lt
  obtain ⟨_, s1, s2, s3, s4, _, _, _⟩ := h.sf hi hs
  clear h hs hu
  go_enter Try.func11, Try.ntmps11
  go_wp2_with (go_at_call 24; refine (find_any (H.out.alloc _) i).mono ?_; rintro e w1 ⟨rfl, rfl⟩; rw [HN.out])
  exact bodyPost_ret (v := .tuple #[.agg #[.int .i64 s.slot, .int .i64 s.id, .int .i64 s.qty, .bool s.top], .bool true]) (by simp [results, Try.results11, go_sem]) rfl ⟨rfl, (Below.refl _ _).alloc (Nat.le_refl _) _⟩
end
end Go.Proofs.Ytbpmoomklknkkaa
