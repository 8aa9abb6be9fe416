/- The walk of level.Arena.drop. -/
import Derived.Test.YtbpmoomklknkkaaLevW
namespace Go.Proofs.Ytbpmoomklknkkaa
open Go.RowKit

def Slt.setBk (s : Slt) (b : Int) : Slt := { s with bk := b }
def Slt.setAh (s : Slt) (a : Int) : Slt := { s with ah := a }

section
variable {w : World} {pb sb qb : Nat} {S : List Slt} {qc : Nat} {Q : List Que} {F : Int}

set_option maxRecDepth 100000 in
set_option maxHeartbeats 1000000 in
theorem drop_one (h : ArenaC w pb sb S (some ⟨qb, 0, none⟩) qc Q F) (i n : Nat) (s : Slt) (q : Que) (hi : i < S.length) (hn : n < Q.length) (hs : S[i]'hi = s) (hq : Q[n]'hn = q) (hsn : s.q = n)
    (ha : s.ah = -1) (hb : s.bk = -1) (hcnt : 1 ≤ q.cnt ∧ q.cnt ≤ 4096) (hF : 0 ≤ F ∧ F ≤ 4095) :
    Calls Try.prog 25 #[.pointer (some ⟨pb, 0, none⟩), .pointer (some ⟨sb, i * 8, none⟩)] w fun e w' => e = .returned (.tuple #[]) ∧ ArenaC w' pb sb (S.set i Slt.none_) (some ⟨qb, 0, none⟩) qc (Q.set n { q with fst := -1, lst := -1, cnt := q.cnt - 1 }) (F + 1) ∧ Keeps (fun g => g = pb ∨ g = sb ∨ g = qb) w w' := by
  obtain ⟨n1, n2, n3, n4, n5, n6⟩ := h.six
  have hm := h.many
  have hr := h.room
  have hn' : (n : Int) < (Q.length : Int) := by omega
  have c1 := h.c1
  obtain ⟨_, _, _, _, _, s5, _, _⟩ := h.sf hi hs
  rw [hsn] at s5
  have HS := Lib.hid hs
  have HQ := Lib.hid hq
  have HA := Lib.hid ha
  have HB := Lib.hid hb
  have H := Lib.hid h
  clear hs hq hsn ha hb h
  go_enter Try.func25, Try.ntmps25
  go_wp2
  go_quiet (fail)
  have H2 := Lib.hid (H.out.drewN nq)
  have K2 := Lib.hid ((Keeps.refl (fun g => g = pb ∨ g = sb ∨ g = qb) w).drewN nq)
  clear c1 s5
  generalize w.drewN nq = w2 at *
  obtain ⟨s0, s1, s2, s3, s4, s5, s6, s7⟩ := H2.out.sf hi HS.out
  obtain ⟨q0, q1, q2, q3⟩ := H2.out.qf hn HQ.out
  rw [HA.out] at s6
  rw [HB.out] at s7
  have c0 := H2.out.c0
  have c1 := H2.out.c1
  have c2 := H2.out.c2
  have fq := fun k => H2.out.qfz k
  have fs := fun k => H2.out.hs.frozen k
  have fp := fun k => H2.out.hp.frozen k
  go_wp2_with fail
  clear s0 s1 s2 s3 s4 s5 s6 s7 q0 q1 q2 q3 c0 c1 c2 fq fs fp
  go_end0
  refine ⟨rfl, ?_, ?_⟩
  · have h0 := (H2.out.self hi HS.out).selfQ hn HQ.out
    have h1 := h0.nextQ (k := 0) (y := { q with fst := -1 }) (v := .int .i64 (-1)) hn (by omega) rfl
    have h2 := h1.nextQ (k := 1) (y := { q with fst := -1, lst := -1 }) (v := .int .i64 (-1)) hn (by omega) rfl
    have h3 := h2.nextQ (k := 3) (y := { q with fst := -1, lst := -1, cnt := q.cnt - 1 }) (v := .int .i64 (q.cnt - 1)) hn (by omega) rfl
    exact (h3.setF (F + 1)).next8 (y := Slt.none_) hi
  · refine K2.out.step (G := fun g => g = pb ∨ g = sb ∨ g = qb) ?_ fun _ _ x => x
    iterate 12 (with_reducible refine Keeps.setCell ?_ (fun _ => by simp) _)
    exact Keeps.refl _ _

set_option maxRecDepth 100000 in
set_option maxHeartbeats 1000000 in
/-- the first of several goes -/
theorem drop_first (h : ArenaC w pb sb S (some ⟨qb, 0, none⟩) qc Q F) (i n b : Nat) (s : Slt) (q : Que) (hi : i < S.length) (hn : n < Q.length) (hbl : b < S.length) (hbi : b ≠ i) (hs : S[i]'hi = s) (hq : Q[n]'hn = q) (hsn : s.q = n)
    (ha : s.ah = -1) (hb : s.bk = b) (hcnt : 1 ≤ q.cnt ∧ q.cnt ≤ 4096) (hF : 0 ≤ F ∧ F ≤ 4095) :
    Calls Try.prog 25 #[.pointer (some ⟨pb, 0, none⟩), .pointer (some ⟨sb, i * 8, none⟩)] w fun e w' => e = .returned (.tuple #[]) ∧ ArenaC w' pb sb ((S.set b ((S[b]'hbl).setAh (-1))).set i Slt.none_) (some ⟨qb, 0, none⟩) qc (Q.set n { q with fst := b, cnt := q.cnt - 1 }) (F + 1) ∧ Keeps (fun g => g = pb ∨ g = sb ∨ g = qb) w w' := by
  obtain ⟨n1, n2, n3, n4, n5, n6⟩ := h.six
  have hm := h.many
  have hr := h.room
  have hn' : (n : Int) < (Q.length : Int) := by omega
  have hbl' : (b : Int) < (S.length : Int) := by omega
  have hb1 : ((b : Int) == -1) = false := by rw [beq_eq_false_iff_ne]; omega
  have c1 := h.c1
  obtain ⟨_, _, _, _, _, s5, _, _⟩ := h.sf hi hs
  rw [hsn] at s5
  obtain ⟨sB, HSB⟩ : ∃ x, Hid (S[b]'hbl = x) := ⟨_, rfl⟩
  have HS := Lib.hid hs
  have HQ := Lib.hid hq
  have HA := Lib.hid ha
  have HB := Lib.hid hb
  have H := Lib.hid h
  clear hs hq hsn ha hb h
  go_enter Try.func25, Try.ntmps25
  go_wp2
  go_quiet (fail)
  have H2 := Lib.hid (H.out.drewN nq)
  have K2 := Lib.hid ((Keeps.refl (fun g => g = pb ∨ g = sb ∨ g = qb) w).drewN nq)
  clear c1 s5
  generalize w.drewN nq = w2 at *
  obtain ⟨_, _, _, _, _, _, s6, s7⟩ := H2.out.sf hi HS.out
  obtain ⟨_, _, _, _, _, _, b6, _⟩ := H2.out.sf hbl HSB.out
  obtain ⟨q0, _, _, _⟩ := H2.out.qf hn HQ.out
  rw [HA.out] at s6
  rw [HB.out] at s7
  have c0 := H2.out.c0
  have fq := fun k => H2.out.qfz k
  have fs := fun k => H2.out.hs.frozen k
  go_wp2_with fail
  go_region
  have h3 : ArenaC ((w2.setCell ⟨qb, n * 4, none⟩ (.int .i64 (b : Int))).setCell ⟨sb, b * 8 + 6, none⟩ (.int .i64 (-1))) pb sb (S.set b (sB.setAh (-1))) (some ⟨qb, 0, none⟩) qc (Q.set n { q with fst := b }) F :=
    (((H2.out.self hbl HSB.out).selfQ hn HQ.out).nextQ (k := 0) (y := { q with fst := b }) (v := .int .i64 (b : Int)) hn (by omega) rfl).nextS (k := 6) (y := sB.setAh (-1)) (v := .int .i64 (-1)) hbl (by omega) rfl
  have H3 := Lib.hid h3.drew
  have K3 : Hid (Keeps (fun g => g = pb ∨ g = sb ∨ g = qb) w ((w2.setCell ⟨qb, n * 4, none⟩ (.int .i64 (b : Int))).setCell ⟨sb, b * 8 + 6, none⟩ (.int .i64 (-1))).drew) :=
    Lib.hid ((K2.out.setCell (p := ⟨qb, n * 4, none⟩) (fun _ => by simp) _).setCell (p := ⟨sb, b * 8 + 6, none⟩) (fun _ => by simp) _).drew
  clear h3 s6 s7 b6 q0 c0 fq fs
  generalize ((w2.setCell ⟨qb, n * 4, none⟩ (.int .i64 (b : Int))).setCell ⟨sb, b * 8 + 6, none⟩ (.int .i64 (-1))).drew = w3 at *
  have hi3 : i < (S.set b (sB.setAh (-1))).length := by simpa using hi
  have hn3 : n < (Q.set n { q with fst := (b : Int) }).length := by simpa using hn
  have HSi : Hid ((S.set b (sB.setAh (-1)))[i]'hi3 = s) := Lib.hid (by rw [List.getElem_set_ne hbi]; exact HS.out)
  have HQi : Hid ((Q.set n { q with fst := (b : Int) })[n]'hn3 = { q with fst := (b : Int) }) := Lib.hid (by rw [List.getElem_set_self])
  obtain ⟨s0, s1, s2, s3, s4, s5, s6, s7⟩ := H3.out.sf hi3 HSi.out
  obtain ⟨_, _, _, q3⟩ := H3.out.qf hn3 HQi.out
  have c2 := H3.out.c2
  have fq := fun k => H3.out.qfz k
  have fs := fun k => H3.out.hs.frozen k
  have fp := fun k => H3.out.hp.frozen k
  go_wp2_with fail
  clear s0 s1 s2 s3 s4 s5 s6 s7 q3 c2 fq fs fp
  go_end0
  refine ⟨rfl, ?_, ?_⟩
  · have h0 := (H3.out.self hi3 HSi.out)
    have h1 := h0.nextQ (k := 3) (y := { q with fst := (b : Int), cnt := q.cnt - 1 }) (v := .int .i64 (q.cnt - 1)) hn (by omega) rfl
    have h2 := (h1.setF (F + 1)).next8 (y := Slt.none_) hi3
    rw [← HSB.out] at h2
    exact h2
  · refine K3.out.step (G := fun g => g = pb ∨ g = sb ∨ g = qb) ?_ fun _ _ x => x
    iterate 10 (with_reducible refine Keeps.setCell ?_ (fun _ => by simp) _)
    exact Keeps.refl _ _
end
end Go.Proofs.Ytbpmoomklknkkaa
