/- The walk of level.Arena.Take. -/
import Derived.Test.YtbpmoomklknkkaaLevG
namespace Go.Proofs.Ytbpmoomklknkkaa
open Go.RowKit

section
variable {w : World} {pb sb qb : Nat} {S : List Slt} {qc : Nat} {Q : List Que} {F : Int}
set_option maxHeartbeats 400000 in
theorem take_no {qa : Option Addr} (h : ArenaC w pb sb S qa qc Q F) (n qty : Int) (hn : slotPtr sb S n = .pointer none) :
    Calls Try.prog 12 #[.pointer (some ⟨pb, 0, none⟩), .int .i64 n, .int .i64 qty] w fun e w' => e = .returned (.int .i64 26) ∧ w = w' := by
  have H := Lib.hid h
  have HN := Lib.hid hn
  clear h hn
  go_enter Try.func12, Try.ntmps12
  go_wp2_with (go_at_call 24; refine (find_any H.out n).mono ?_; rintro e w1 ⟨rfl, rfl⟩; rw [HN.out])
  go_ret
  exact ⟨rfl, rfl⟩
def Slt.withQty (s : Slt) (x : Int) : Slt := { s with qty := x }
set_option maxRecDepth 100000 in
set_option maxHeartbeats 1000000 in
theorem take_less (h : ArenaC w pb sb S (some ⟨qb, 0, none⟩) qc Q F) (i n : Nat) (s : Slt) (q : Que) (hi : i < S.length) (hn : n < Q.length) (hs : S[i]'hi = s) (hq : Q[n]'hn = q) (hsn : s.q = n) (hu : s.used = true)
    (qty : Int) (h1 : 1 ≤ qty) (h2 : qty < s.qty) (h3 : s.qty ≤ 1000000) (ht : s.qty ≤ q.tot ∧ q.tot ≤ 4096000000) :
    Calls Try.prog 12 #[.pointer (some ⟨pb, 0, none⟩), .int .i64 i, .int .i64 qty] w fun e w' => e = .returned (.int .i64 0) ∧ ArenaC w' pb sb (S.set i (s.withQty (s.qty - qty))) (some ⟨qb, 0, none⟩) qc (Q.set n { q with tot := q.tot - qty }) F ∧ Keeps (fun g => g = pb ∨ g = sb ∨ g = qb) w w' := by
  obtain ⟨n1, n2, n3, n4, n5, n6⟩ := h.six
  have hm := h.many
  have hr := h.room
  have hn' : (n : Int) < (Q.length : Int) := by omega
  have HN : Hid (slotPtr sb S i = .pointer (some ⟨sb, i * 8, none⟩)) := Lib.hid (by rw [slotPtr_at hi, hs, hu]; rfl)
  obtain ⟨s0, s1, s2, s3, s4, s5, s6, s7⟩ := h.sf hi hs
  obtain ⟨q0, q1, q2, q3⟩ := h.qf hn hq
  have c1 := h.c1
  rw [hsn] at s5
  have fq := fun k => h.qfz k
  have fs := fun k => h.hs.frozen k
  have hz : (s.qty - qty == 0) = false := by rw [beq_eq_false_iff_ne]; omega
  have HS := Lib.hid hs
  have HQ := Lib.hid hq
  have HSN := Lib.hid hsn
  have H := Lib.hid h
  clear hs hq hsn hu h
  go_enter Try.func12, Try.ntmps12
  go_wp2_with (go_at_call 24; refine (find_any H.out i).mono ?_; rintro e w1 ⟨rfl, rfl⟩; rw [HN.out])
  have h2' : ArenaC (w.setCell ⟨sb, i * 8 + 1 + 2, none⟩ (.int .i64 (s.qty - qty))) pb sb (S.set i (s.withQty (s.qty - qty))) (some ⟨qb, 0, none⟩) qc (Q.set n q) F :=
    ((H.out.self hi HS.out).selfQ hn HQ.out).nextS (k := 3) (y := s.withQty (s.qty - qty)) (v := .int .i64 (s.qty - qty)) hi (by omega) rfl
  have H2 := Lib.hid h2'
  have K2 := Lib.hid ((Keeps.refl (fun g => g = pb ∨ g = sb ∨ g = qb) w).setCell (p := ⟨sb, i * 8 + 1 + 2, none⟩) (fun _ => by simp) (.int .i64 (s.qty - qty)))
  clear h2' s0 s1 s2 s3 s4 s5 s6 s7 q0 q1 q2 q3 c1 fq fs
  generalize w.setCell ⟨sb, i * 8 + 1 + 2, none⟩ (.int .i64 (s.qty - qty)) = w2 at *
  have hi2 : i < (S.set i (s.withQty (s.qty - qty))).length := by simpa using hi
  have hn2 : n < (Q.set n q).length := by simpa using hn
  have HS2 : Hid ((S.set i (s.withQty (s.qty - qty)))[i]'hi2 = s.withQty (s.qty - qty)) := Lib.hid (by rw [List.getElem_set_self])
  have HQ2 : Hid ((Q.set n q)[n]'hn2 = q) := Lib.hid (by rw [List.getElem_set_self])
  obtain ⟨_, _, _, s3, _, s5, _, _⟩ := H2.out.sf hi2 HS2.out
  obtain ⟨_, _, q2, _⟩ := H2.out.qf hn2 HQ2.out
  have s5' : w2.cell? ⟨sb, i * 8 + 5, none⟩ = some (.int .i64 n) := by rw [s5]; show some (Value.int .i64 s.q) = _; rw [HSN.out]
  have s3' : w2.cell? ⟨sb, i * 8 + 3, none⟩ = some (.int .i64 (s.qty - qty)) := s3
  have c1 := H2.out.c1
  have hz2 : (Q.set n q).length = Q.length := by simp
  rw [hz2] at c1
  have fq := fun k => H2.out.qfz k
  clear s3 s5 hz2
  go_region
  go_wp2_with fail
  clear s5' s3' q2 c1 fq
  go_ret
  refine ⟨rfl, ?_, ?_⟩
  · exact (H2.out.nextQ (k := 2) (y := { q with tot := q.tot - qty }) (v := .int .i64 (q.tot - qty)) hn (by omega) rfl).drew
  · exact (K2.out.setCell (p := ⟨qb, n * 4 + 2, none⟩) (fun _ => by simp) _).drew
end
end Go.Proofs.Ytbpmoomklknkkaa
