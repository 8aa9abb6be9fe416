/- The walk of level.Arena.Take: all of an order. -/
import Derived.Test.YtbpmoomklknkkaaTake
namespace Go.Proofs.Ytbpmoomklknkkaa
open Go.RowKit

section
variable {w : World} {pb sb qb : Nat} {S : List Slt} {qc : Nat} {Q : List Que} {F : Int}
set_option maxRecDepth 100000 in
set_option maxHeartbeats 1000000 in
theorem take_all (h : ArenaC w pb sb S (some ⟨qb, 0, none⟩) qc Q F) (i n : Nat) (s : Slt) (q : Que) (hi : i < S.length) (hn : n < Q.length) (hs : S[i]'hi = s) (hq : Q[n]'hn = q) (hsn : s.q = n) (hu : s.used = true)
    {S' : List Slt} {Q' : List Que} {F' : Int} (h1 : 1 ≤ s.qty) (h3 : s.qty ≤ 1000000)
    (hd : ∀ w3, ArenaC w3 pb sb (S.set i (s.withQty 0)) (some ⟨qb, 0, none⟩) qc (Q.set n { q with tot := q.tot - s.qty }) F → Calls Try.prog 25 #[.pointer (some ⟨pb, 0, none⟩), .pointer (some ⟨sb, i * 8, none⟩)] w3 fun e w' => e = .returned (.tuple #[]) ∧ ArenaC w' pb sb S' (some ⟨qb, 0, none⟩) qc Q' F' ∧ Keeps (fun g => g = pb ∨ g = sb ∨ g = qb) w3 w') (ht : s.qty ≤ q.tot ∧ q.tot ≤ 4096000000) :
    Calls Try.prog 12 #[.pointer (some ⟨pb, 0, none⟩), .int .i64 i, .int .i64 s.qty] w fun e w' => e = .returned (.int .i64 0) ∧ ArenaC w' pb sb S' (some ⟨qb, 0, none⟩) qc Q' F' ∧ Keeps (fun g => g = pb ∨ g = sb ∨ g = qb) w w' := by
  obtain ⟨n1, n2, n3, n4, n5, n6⟩ := h.six
  have hm := h.many
  have hr := h.room
  have hn' : (n : Int) < (Q.length : Int) := by omega
  have HN : Hid (slotPtr sb S i = .pointer (some ⟨sb, i * 8, none⟩)) := Lib.hid (by rw [slotPtr_at hi, hs, hu]; rfl)
  obtain ⟨s0, s1, s2, s3, s4, s5, s6, s7⟩ := h.sf hi hs
  obtain ⟨q0, q1, q2, q3⟩ := h.qf hn hq
  have c1 := h.c1
  rw [hsn] at s5
  have fq := fun k => h.qfz k
  have fs := fun k => h.hs.frozen k
  have HD := Lib.hid hd
  have HS := Lib.hid hs
  have HQ := Lib.hid hq
  have HSN := Lib.hid hsn
  have H := Lib.hid h
  clear hs hq hsn hu h hd
  go_enter Try.func12, Try.ntmps12
  go_wp2_with (go_at_call 24; refine (find_any H.out i).mono ?_; rintro e w1 ⟨rfl, rfl⟩; rw [HN.out])
  have h2' : ArenaC (w.setCell ⟨sb, i * 8 + 1 + 2, none⟩ (.int .i64 0)) pb sb (S.set i (s.withQty 0)) (some ⟨qb, 0, none⟩) qc (Q.set n q) F :=
    ((H.out.self hi HS.out).selfQ hn HQ.out).nextS (k := 3) (y := s.withQty 0) (v := .int .i64 0) hi (by omega) rfl
  have H2 := Lib.hid h2'
  have K2 := Lib.hid ((Keeps.refl (fun g => g = pb ∨ g = sb ∨ g = qb) w).setCell (p := ⟨sb, i * 8 + 1 + 2, none⟩) (fun _ => by simp) (.int .i64 0))
  clear h2' s0 s1 s2 s3 s4 s5 s6 s7 q0 q1 q2 q3 c1 fq fs
  generalize w.setCell ⟨sb, i * 8 + 1 + 2, none⟩ (.int .i64 0) = w2 at *
  have hi2 : i < (S.set i (s.withQty 0)).length := by simpa using hi
  have hn2 : n < (Q.set n q).length := by simpa using hn
  have HS2 : Hid ((S.set i (s.withQty 0))[i]'hi2 = s.withQty 0) := Lib.hid (by rw [List.getElem_set_self])
  have HQ2 : Hid ((Q.set n q)[n]'hn2 = q) := Lib.hid (by rw [List.getElem_set_self])
  obtain ⟨_, _, _, s3, _, s5, _, _⟩ := H2.out.sf hi2 HS2.out
  obtain ⟨_, _, q2, _⟩ := H2.out.qf hn2 HQ2.out
  have s5' : w2.cell? ⟨sb, i * 8 + 5, none⟩ = some (.int .i64 n) := by rw [s5]; show some (Value.int .i64 s.q) = _; rw [HSN.out]
  have s3' : w2.cell? ⟨sb, i * 8 + 3, none⟩ = some (.int .i64 0) := s3
  have c1 := H2.out.c1
  have hz2 : (Q.set n q).length = Q.length := by simp
  rw [hz2] at c1
  have fq := fun k => H2.out.qfz k
  clear s3 s5 hz2
  go_region
  have H3 := Lib.hid (H2.out.nextQ (k := 2) (y := { q with tot := q.tot - s.qty }) (v := .int .i64 (q.tot - s.qty)) hn (by omega) rfl).drew
  have K3 := Lib.hid (K2.out.setCell (p := ⟨qb, n * 4 + 2, none⟩) (fun _ => by simp) (.int .i64 (q.tot - s.qty))).drew
  clear s5' s3' q2 c1 fq
  generalize (w2.setCell ⟨qb, n * 4 + 2, none⟩ (.int .i64 (q.tot - s.qty))).drew = w3 at *
  have hi3 : i < (S.set i (s.withQty 0)).length := hi2
  obtain ⟨_, _, _, s3, _, _, _, _⟩ := H3.out.sf hi3 HS2.out
  have s3' : w3.cell? ⟨sb, i * 8 + 3, none⟩ = some (.int .i64 0) := s3
  clear s3
  go_wp2_with fail
  refine (HD.out _ H3.out).mono ?_
  rintro e w4 ⟨rfl, h4, k4⟩
  go_wp2_with fail
  go_ret
  exact ⟨rfl, h4, K3.out.step k4 fun _ _ x => x⟩
end
end Go.Proofs.Ytbpmoomklknkkaa
