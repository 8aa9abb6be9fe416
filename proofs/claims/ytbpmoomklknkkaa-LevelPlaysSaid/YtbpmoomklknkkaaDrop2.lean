/- The walk of level.Arena.drop: the last of several; one in the middle. -/
import Derived.Test.YtbpmoomklknkkaaDrop
namespace Go.Proofs.Ytbpmoomklknkkaa
open Go.RowKit

section
variable {w : World} {pb sb qb : Nat} {S : List Slt} {qc : Nat} {Q : List Que} {F : Int}

set_option maxRecDepth 100000 in
set_option maxHeartbeats 1000000 in
/-- the last of several goes -/
theorem drop_last (h : ArenaC w pb sb S (some ⟨qb, 0, none⟩) qc Q F) (i n a : Nat) (s : Slt) (q : Que) (hi : i < S.length) (hn : n < Q.length) (hal : a < S.length) (hai : a ≠ i) (hs : S[i]'hi = s) (hq : Q[n]'hn = q) (hsn : s.q = n)
    (ha : s.ah = a) (hb : s.bk = -1) (hcnt : 1 ≤ q.cnt ∧ q.cnt ≤ 4096) (hF : 0 ≤ F ∧ F ≤ 4095) :
    Calls Try.prog 25 #[.pointer (some ⟨pb, 0, none⟩), .pointer (some ⟨sb, i * 8, none⟩)] w fun e w' => e = .returned (.tuple #[]) ∧ ArenaC w' pb sb ((S.set a ((S[a]'hal).setBk (-1))).set i Slt.none_) (some ⟨qb, 0, none⟩) qc (Q.set n { q with lst := a, cnt := q.cnt - 1 }) (F + 1) ∧ Keeps (fun g => g = pb ∨ g = sb ∨ g = qb) w w' := by
  obtain ⟨n1, n2, n3, n4, n5, n6⟩ := h.six
  have hm := h.many
  have hr := h.room
  have hn' : (n : Int) < (Q.length : Int) := by omega
  have hal' : (a : Int) < (S.length : Int) := by omega
  have ha1 : ((a : Int) == -1) = false := by rw [beq_eq_false_iff_ne]; omega
  have c1 := h.c1
  obtain ⟨_, _, _, _, _, s5, _, _⟩ := h.sf hi hs
  rw [hsn] at s5
  obtain ⟨sA, HSA⟩ : ∃ x, Hid (S[a]'hal = x) := ⟨_, rfl⟩
  have HS := Lib.hid hs
  have HQ := Lib.hid hq
  have HA := Lib.hid ha
  have HB := Lib.hid hb
  have H := Lib.hid h
  clear hs hq hsn ha hb h
  go_enter Try.func25, Try.ntmps25
  go_wp2
  go_quiet (fail)
  have H2 := Lib.hid (H.out.drewN nq)
  have K2 := Lib.hid ((Keeps.refl (fun g => g = pb ∨ g = sb ∨ g = qb) w).drewN nq)
  clear c1 s5
  generalize w.drewN nq = w2 at *
  obtain ⟨_, _, _, _, _, _, s6, s7⟩ := H2.out.sf hi HS.out
  obtain ⟨_, _, _, _, _, _, _, a7⟩ := H2.out.sf hal HSA.out
  rw [HA.out] at s6
  rw [HB.out] at s7
  have c0 := H2.out.c0
  have fq := fun k => H2.out.qfz k
  have fs := fun k => H2.out.hs.frozen k
  go_wp2_with fail
  go_region
  have h3 : ArenaC (w2.setCell ⟨sb, a * 8 + 7, none⟩ (.int .i64 (-1))) pb sb (S.set a (sA.setBk (-1))) (some ⟨qb, 0, none⟩) qc Q F :=
    (H2.out.self hal HSA.out).nextS (k := 7) (y := sA.setBk (-1)) (v := .int .i64 (-1)) hal (by omega) rfl
  have H3 := Lib.hid h3.drew
  have K3 : Hid (Keeps (fun g => g = pb ∨ g = sb ∨ g = qb) w (w2.setCell ⟨sb, a * 8 + 7, none⟩ (.int .i64 (-1))).drew) :=
    Lib.hid (K2.out.setCell (p := ⟨sb, a * 8 + 7, none⟩) (fun _ => by simp) _).drew
  clear h3 s6 s7 a7 c0 fq fs
  generalize (w2.setCell ⟨sb, a * 8 + 7, none⟩ (.int .i64 (-1))).drew = w3 at *
  have hi3 : i < (S.set a (sA.setBk (-1))).length := by simpa using hi
  have HSi : Hid ((S.set a (sA.setBk (-1)))[i]'hi3 = s) := Lib.hid (by rw [List.getElem_set_ne hai]; exact HS.out)
  obtain ⟨s0, s1, s2, s3, s4, s5, s6, s7⟩ := H3.out.sf hi3 HSi.out
  rw [HA.out] at s6
  rw [HB.out] at s7
  obtain ⟨_, q1, _, q3⟩ := H3.out.qf hn HQ.out
  have c2 := H3.out.c2
  have fq := fun k => H3.out.qfz k
  have fs := fun k => H3.out.hs.frozen k
  have fp := fun k => H3.out.hp.frozen k
  go_wp2_with fail
  clear s0 s1 s2 s3 s4 s5 s6 s7 q1 q3 c2 fq fs fp
  go_end0
  refine ⟨rfl, ?_, ?_⟩
  · have h0 := (H3.out.self hi3 HSi.out).selfQ hn HQ.out
    have h01 := h0.nextQ (k := 1) (y := { q with lst := (a : Int) }) (v := .int .i64 (a : Int)) hn (by omega) rfl
    have h1 := h01.nextQ (k := 3) (y := { q with lst := (a : Int), cnt := q.cnt - 1 }) (v := .int .i64 (q.cnt - 1)) hn (by omega) rfl
    have h2 := (h1.setF (F + 1)).next8 (y := Slt.none_) hi3
    rw [← HSA.out] at h2
    exact h2
  · refine K3.out.step (G := fun g => g = pb ∨ g = sb ∨ g = qb) ?_ fun _ _ x => x
    iterate 11 (with_reducible refine Keeps.setCell ?_ (fun _ => by simp) _)
    exact Keeps.refl _ _

set_option maxRecDepth 100000 in
set_option maxHeartbeats 2000000 in
/-- one in the middle goes -/
theorem drop_mid (h : ArenaC w pb sb S (some ⟨qb, 0, none⟩) qc Q F) (i n a b : Nat) (s : Slt) (q : Que) (hi : i < S.length) (hn : n < Q.length) (hal : a < S.length) (hai : a ≠ i) (hbl : b < S.length) (hbi : b ≠ i) (hab : a ≠ b) (hs : S[i]'hi = s) (hq : Q[n]'hn = q) (hsn : s.q = n)
    (ha : s.ah = a) (hb : s.bk = b) (hcnt : 1 ≤ q.cnt ∧ q.cnt ≤ 4096) (hF : 0 ≤ F ∧ F ≤ 4095) :
    Calls Try.prog 25 #[.pointer (some ⟨pb, 0, none⟩), .pointer (some ⟨sb, i * 8, none⟩)] w fun e w' => e = .returned (.tuple #[]) ∧ ArenaC w' pb sb (((S.set a ((S[a]'hal).setBk b)).set b ((S[b]'hbl).setAh a)).set i Slt.none_) (some ⟨qb, 0, none⟩) qc (Q.set n { q with cnt := q.cnt - 1 }) (F + 1) ∧ Keeps (fun g => g = pb ∨ g = sb ∨ g = qb) w w' := by
  obtain ⟨n1, n2, n3, n4, n5, n6⟩ := h.six
  have hm := h.many
  have hr := h.room
  have hn' : (n : Int) < (Q.length : Int) := by omega
  have hal' : (a : Int) < (S.length : Int) := by omega
  have hbl' : (b : Int) < (S.length : Int) := by omega
  have ha1 : ((a : Int) == -1) = false := by rw [beq_eq_false_iff_ne]; omega
  have hb1 : ((b : Int) == -1) = false := by rw [beq_eq_false_iff_ne]; omega
  have c1 := h.c1
  obtain ⟨_, _, _, _, _, s5, _, _⟩ := h.sf hi hs
  rw [hsn] at s5
  obtain ⟨sA, HSA⟩ : ∃ x, Hid (S[a]'hal = x) := ⟨_, rfl⟩
  obtain ⟨sB, HSB⟩ : ∃ x, Hid (S[b]'hbl = x) := ⟨_, rfl⟩
  have HS := Lib.hid hs
  have HQ := Lib.hid hq
  have HA := Lib.hid ha
  have HB := Lib.hid hb
  have H := Lib.hid h
  have NE := Lib.hid hab
  clear hs hq hsn ha hb h hab
  go_enter Try.func25, Try.ntmps25
  go_wp2
  go_quiet (fail)
  have H2 := Lib.hid (H.out.drewN nq)
  have K2 := Lib.hid ((Keeps.refl (fun g => g = pb ∨ g = sb ∨ g = qb) w).drewN nq)
  clear c1 s5
  generalize w.drewN nq = w2 at *
  obtain ⟨_, _, _, _, _, _, s6, s7⟩ := H2.out.sf hi HS.out
  obtain ⟨_, _, _, _, _, _, _, a7⟩ := H2.out.sf hal HSA.out
  rw [HA.out] at s6
  rw [HB.out] at s7
  have c0 := H2.out.c0
  have fs := fun k => H2.out.hs.frozen k
  go_wp2_with fail
  go_region
  have h3 : ArenaC (w2.setCell ⟨sb, a * 8 + 7, none⟩ (.int .i64 (b : Int))) pb sb (S.set a (sA.setBk b)) (some ⟨qb, 0, none⟩) qc Q F :=
    (H2.out.self hal HSA.out).nextS (k := 7) (y := sA.setBk b) (v := .int .i64 (b : Int)) hal (by omega) rfl
  have H3 := Lib.hid h3.drew
  have K3 : Hid (Keeps (fun g => g = pb ∨ g = sb ∨ g = qb) w (w2.setCell ⟨sb, a * 8 + 7, none⟩ (.int .i64 (b : Int))).drew) :=
    Lib.hid (K2.out.setCell (p := ⟨sb, a * 8 + 7, none⟩) (fun _ => by simp) _).drew
  clear h3 s6 s7 a7 c0 fs
  generalize (w2.setCell ⟨sb, a * 8 + 7, none⟩ (.int .i64 (b : Int))).drew = w3 at *
  have hz3 : (S.set a (sA.setBk b)).length = S.length := by simp
  have hi3 : i < (S.set a (sA.setBk b)).length := by omega
  have hb3 : b < (S.set a (sA.setBk b)).length := by omega
  have HSi : Hid ((S.set a (sA.setBk b))[i]'hi3 = s) := Lib.hid (by rw [List.getElem_set_ne hai]; exact HS.out)
  have HSb : Hid ((S.set a (sA.setBk b))[b]'hb3 = sB) := Lib.hid (by rw [List.getElem_set_ne NE.out]; exact HSB.out)
  have HZ3 := Lib.hid hz3
  obtain ⟨_, _, _, _, _, _, s6, s7⟩ := H3.out.sf hi3 HSi.out
  obtain ⟨_, _, _, _, _, _, b6, _⟩ := H3.out.sf hb3 HSb.out
  rw [HA.out] at s6
  rw [HB.out] at s7
  have c0 := H3.out.c0
  rw [hz3] at c0
  have fs := fun k => H3.out.hs.frozen k
  clear hz3
  generalize hS3 : S.set a (sA.setBk b) = S3 at *
  have HS3 := Lib.hid hS3
  clear hS3
  go_wp2_with fail
  go_region
  have h4 : ArenaC (w3.setCell ⟨sb, b * 8 + 6, none⟩ (.int .i64 (a : Int))) pb sb (S3.set b (sB.setAh a)) (some ⟨qb, 0, none⟩) qc Q F :=
    (H3.out.self hb3 HSb.out).nextS (k := 6) (y := sB.setAh a) (v := .int .i64 (a : Int)) hb3 (by omega) rfl
  have H4 := Lib.hid h4.drew
  have K4 : Hid (Keeps (fun g => g = pb ∨ g = sb ∨ g = qb) w (w3.setCell ⟨sb, b * 8 + 6, none⟩ (.int .i64 (a : Int))).drew) :=
    Lib.hid (K3.out.setCell (p := ⟨sb, b * 8 + 6, none⟩) (fun _ => by simp) _).drew
  clear h4 s6 s7 b6 c0 fs
  generalize (w3.setCell ⟨sb, b * 8 + 6, none⟩ (.int .i64 (a : Int))).drew = w4 at *
  have hi4 : i < (S3.set b (sB.setAh a)).length := by simpa using hi3
  have HSi4 : Hid ((S3.set b (sB.setAh a))[i]'hi4 = s) := Lib.hid (by rw [List.getElem_set_ne hbi]; exact HSi.out)
  obtain ⟨s0, s1, s2, s3, s4, s5, s6, s7⟩ := H4.out.sf hi4 HSi4.out
  obtain ⟨_, _, _, q3⟩ := H4.out.qf hn HQ.out
  have c2 := H4.out.c2
  have fq := fun k => H4.out.qfz k
  have fs := fun k => H4.out.hs.frozen k
  have fp := fun k => H4.out.hp.frozen k
  go_wp2_with fail
  clear s0 s1 s2 s3 s4 s5 s6 s7 q3 c2 fq fs fp
  go_end0
  refine ⟨rfl, ?_, ?_⟩
  · have h0 := (H4.out.self hi4 HSi4.out).selfQ hn HQ.out
    have h1 := h0.nextQ (k := 3) (y := { q with cnt := q.cnt - 1 }) (v := .int .i64 (q.cnt - 1)) hn (by omega) rfl
    have h2 := (h1.setF (F + 1)).next8 (y := Slt.none_) hi4
    rw [← HS3.out, ← HSB.out, ← HSA.out] at h2
    exact h2
  · refine K4.out.step (G := fun g => g = pb ∨ g = sb ∨ g = qb) ?_ fun _ _ x => x
    iterate 10 (with_reducible refine Keeps.setCell ?_ (fun _ => by simp) _)
    exact Keeps.refl _ _
end
end Go.Proofs.Ytbpmoomklknkkaa
