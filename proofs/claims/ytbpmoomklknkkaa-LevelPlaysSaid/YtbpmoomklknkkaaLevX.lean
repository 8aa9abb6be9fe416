/- The walks of level.Arena.Push refused, Get. -/
import Derived.Test.YtbpmoomklknkkaaPush2
namespace Go.Proofs.Ytbpmoomklknkkaa
open Go.RowKit

section
variable {w : World} {pb sb : Nat} {S : List Slt} {qa : Option Addr} {qc : Nat} {Q : List Que} {F : Int}
set_option maxHeartbeats 400000 in
theorem push_none (h : ArenaC w pb sb S qa qc Q F) (n id qty : Int) (top : Bool) (hn : n < 0 ∨ (Q.length : Int) ≤ n) :
    Calls Try.prog 13 #[.pointer (some ⟨pb, 0, none⟩), .int .i64 n, .int .i64 id, .int .i64 qty, .bool top] w fun e w' => e = .returned (.tuple #[.int .i64 0, .int .i64 26]) ∧ w = w' := by
  have hb : Hid ((decide (0 ≤ n) && decide (n < (Q.length : Int))) = false) := Lib.hid (by simp; omega)
  have H := Lib.hid h
  clear h hn
  go_enter Try.func13, Try.ntmps13
  go_wp2_with (go_at_call 26; refine (is_any H.out n).mono ?_; rintro e w1 ⟨rfl, rfl⟩; rw [hb.out])
  go_ret2
  exact ⟨rfl, rfl⟩
set_option maxHeartbeats 400000 in
theorem push_qty (h : ArenaC w pb sb S qa qc Q F) (n id qty : Int) (top : Bool) (hn : 0 ≤ n ∧ n < (Q.length : Int)) (hq : qty < 1 ∨ 1000000 < qty) :
    Calls Try.prog 13 #[.pointer (some ⟨pb, 0, none⟩), .int .i64 n, .int .i64 id, .int .i64 qty, .bool top] w fun e w' => e = .returned (.tuple #[.int .i64 0, .int .i64 24]) ∧ w = w' := by
  have hb : Hid ((decide (0 ≤ n) && decide (n < (Q.length : Int))) = true) := Lib.hid (by simp; omega)
  have H := Lib.hid h
  clear h hn
  rcases hq with hq | hq
  · go_enter Try.func13, Try.ntmps13
    go_wp2_with (go_at_call 26; refine (is_any H.out n).mono ?_; rintro e w1 ⟨rfl, rfl⟩; rw [hb.out])
    go_ret2
    exact ⟨rfl, rfl⟩
  · have h1 : ¬ qty < 1 := by omega
    go_enter Try.func13, Try.ntmps13
    go_wp2_with (go_at_call 26; refine (is_any H.out n).mono ?_; rintro e w1 ⟨rfl, rfl⟩; rw [hb.out])
    go_ret2
    exact ⟨rfl, rfl⟩
set_option maxHeartbeats 400000 in
theorem push_full (h : ArenaC w pb sb S qa qc Q F) (n id qty : Int) (top : Bool) (hn : 0 ≤ n ∧ n < (Q.length : Int)) (hq : 1 ≤ qty) (hq2 : qty ≤ 1000000) (hF : F = 0) :
    Calls Try.prog 13 #[.pointer (some ⟨pb, 0, none⟩), .int .i64 n, .int .i64 id, .int .i64 qty, .bool top] w fun e w' => e = .returned (.tuple #[.int .i64 0, .int .i64 13]) ∧ w = w' := by
  have hb : Hid ((decide (0 ≤ n) && decide (n < (Q.length : Int))) = true) := Lib.hid (by simp; omega)
  subst hF
  have c2 := h.c2
  have H := Lib.hid h
  clear h hn
  go_enter Try.func13, Try.ntmps13
  go_wp2_with (go_at_call 26; refine (is_any H.out n).mono ?_; rintro e w1 ⟨rfl, rfl⟩; rw [hb.out])
  go_ret2
  exact ⟨rfl, rfl⟩
end
end Go.Proofs.Ytbpmoomklknkkaa
