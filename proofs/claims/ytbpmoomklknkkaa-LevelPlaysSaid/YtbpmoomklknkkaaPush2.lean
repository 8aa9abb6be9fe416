/- The walk of level.Arena.Push: behind another order. -/
import Derived.Test.YtbpmoomklknkkaaPush
namespace Go.Proofs.Ytbpmoomklknkkaa
open Go.RowKit

section
variable {w : World} {pb sb qb : Nat} {S : List Slt} {qc : Nat} {Q : List Que} {F : Int}
set_option maxRecDepth 100000 in
set_option maxHeartbeats 1000000 in
theorem push_next (h : ArenaC w pb sb S (some ⟨qb, 0, none⟩) qc Q F) (n r l : Nat) (q : Que) (hll : l < S.length) (hlr : l ≠ r) (hn : n < Q.length) (hq : Q[n]'hn = q) (id qty : Int) (top : Bool) (hq1 : 1 ≤ qty) (hq2 : qty ≤ 1000000) (hF : 1 ≤ F ∧ F ≤ 4096)
    (hfree : (∀ j (hj : j < S.length), j < r → (S[j]'hj).used = true)) (hrl : r < S.length) (hru : (S[r]'hrl).used = false) (hl : q.lst = l) (ht : 0 ≤ q.tot ∧ q.tot ≤ 4096000000) (hc : 0 ≤ q.cnt ∧ q.cnt ≤ 4096) :
    Calls Try.prog 13 #[.pointer (some ⟨pb, 0, none⟩), .int .i64 n, .int .i64 id, .int .i64 qty, .bool top] w fun e w' => e = .returned (.tuple #[.int .i64 r, .int .i64 0]) ∧ ArenaC w' pb sb ((S.set r (Slt.mk_ r id qty top n l)).set l ((S[l]'hll).setBk r)) (some ⟨qb, 0, none⟩) qc (Q.set n ⟨q.fst, r, q.tot + qty, q.cnt + 1⟩) (F - 1) ∧ Keeps (fun g => g = pb ∨ g = sb ∨ g = qb) w w' := by
  have hb : Hid ((decide ((0 : Int) ≤ n) && decide ((n : Int) < (Q.length : Int))) = true) := Lib.hid (by simp; omega)
  have hn' : (n : Int) < (Q.length : Int) := by omega
  have hll' : (l : Int) < (S.length : Int) := by omega
  have hl1 : ((l : Int) == -1) = false := by rw [beq_eq_false_iff_ne]; omega
  obtain ⟨sL, HSL⟩ : ∃ x, Hid (S[l]'hll = x) := ⟨_, rfl⟩
  have NE := Lib.hid hlr
  have hr' : (r : Int) < (S.length : Int) := by omega
  have hr := h.room
  have hm := h.many
  have c0 := h.c0
  have c1 := h.c1
  have c2 := h.c2
  have hF' : (F == 0) = false := by rw [beq_eq_false_iff_ne]; omega
  have H := Lib.hid h
  have HQ := Lib.hid hq
  have HL := Lib.hid hl
  have HI := Lib.hid (index_any h.hs hr r hfree hrl hru)
  obtain ⟨n1, n2, n3, n4, n5, n6⟩ := h.six
  clear hfree hru hq hl h hlr
  go_enter Try.func13, Try.ntmps13
  go_wp2_with (go_at_call 26; refine (is_any H.out n).mono ?_; rintro e w1 ⟨rfl, rfl⟩; rw [hb.out])
  refine HI.out.mono ?_
  rintro e w2 ⟨rfl, hw2⟩
  have H2 := Lib.hid (H.out.same hw2.block)
  have K2 := Lib.hid (Below.keeps (F := fun g => g = pb ∨ g = sb ∨ g = qb) hw2)
  clear c0 c1 c2 hw2 HI
  have c0 := H2.out.c0
  have c1 := H2.out.c1
  have fs := fun k => H2.out.hs.frozen k
  obtain ⟨s0, s1, s2, s3, s4, s5, s6, s7⟩ := H2.out.sf hrl rfl
  obtain ⟨q0, q1, q2, q3⟩ := H2.out.qf hn HQ.out
  rw [HL.out] at q1
  generalize S[r]'hrl = old at *
  go_wp2_with fail
  go_region
  have h3 : ArenaC ((((((((w2.setCell ⟨sb, r * 8, none⟩ (.bool true)).setCell ⟨sb, r * 8 + 1, none⟩ (.int .i64 (r : Int))).setCell ⟨sb, r * 8 + 2, none⟩ (.int .i64 id)).setCell ⟨sb, r * 8 + 3, none⟩ (.int .i64 qty)).setCell ⟨sb, r * 8 + 4, none⟩ (.bool top)).setCell ⟨sb, r * 8 + 5, none⟩ (.int .i64 (n : Int))).setCell ⟨sb, r * 8 + 6, none⟩ (.int .i64 (l : Int))).setCell ⟨sb, r * 8 + 7, none⟩ (.int .i64 (-1))) pb sb (S.set r (Slt.mk_ r id qty top n l)) (some ⟨qb, 0, none⟩) qc (Q.set n q) F :=
    ((H2.out.self hrl rfl).selfQ hn HQ.out).next8 (y := Slt.mk_ r id qty top n l) hrl
  have H3 := Lib.hid h3.drew
  have K3 : Hid (Keeps (fun g => g = pb ∨ g = sb ∨ g = qb) w ((((((((w2.setCell ⟨sb, r * 8, none⟩ (.bool true)).setCell ⟨sb, r * 8 + 1, none⟩ (.int .i64 (r : Int))).setCell ⟨sb, r * 8 + 2, none⟩ (.int .i64 id)).setCell ⟨sb, r * 8 + 3, none⟩ (.int .i64 qty)).setCell ⟨sb, r * 8 + 4, none⟩ (.bool top)).setCell ⟨sb, r * 8 + 5, none⟩ (.int .i64 (n : Int))).setCell ⟨sb, r * 8 + 6, none⟩ (.int .i64 (l : Int))).setCell ⟨sb, r * 8 + 7, none⟩ (.int .i64 (-1))).drew) := by
    refine Lib.hid (Keeps.drew ?_)
    refine K2.out.step (G := fun g => g = pb ∨ g = sb ∨ g = qb) ?_ fun _ _ x => x
    iterate 8 (with_reducible refine Keeps.setCell ?_ (fun _ => by simp) _)
    exact Keeps.refl _ _
  clear h3 s0 s1 s2 s3 s4 s5 s6 s7 q0 q1 q2 q3 c0 c1 fs
  generalize ((((((((w2.setCell ⟨sb, r * 8, none⟩ (.bool true)).setCell ⟨sb, r * 8 + 1, none⟩ (.int .i64 (r : Int))).setCell ⟨sb, r * 8 + 2, none⟩ (.int .i64 id)).setCell ⟨sb, r * 8 + 3, none⟩ (.int .i64 qty)).setCell ⟨sb, r * 8 + 4, none⟩ (.bool top)).setCell ⟨sb, r * 8 + 5, none⟩ (.int .i64 (n : Int))).setCell ⟨sb, r * 8 + 6, none⟩ (.int .i64 (l : Int))).setCell ⟨sb, r * 8 + 7, none⟩ (.int .i64 (-1))).drew = w3 at *
  have hz3 : (S.set r (Slt.mk_ r id qty top n l)).length = S.length := by simp
  have hl3 : l < (S.set r (Slt.mk_ r id qty top n l)).length := by omega
  have HSl : Hid ((S.set r (Slt.mk_ r id qty top n l))[l]'hl3 = sL) := Lib.hid (by rw [List.getElem_set_ne NE.out.symm]; exact HSL.out)
  have hn3 : n < (Q.set n q).length := by simpa using hn
  have HQ3 : Hid ((Q.set n q)[n]'hn3 = q) := Lib.hid (by rw [List.getElem_set_self])
  obtain ⟨q0, q1, q2, q3⟩ := H3.out.qf hn3 HQ3.out
  rw [HL.out] at q1
  obtain ⟨_, _, _, _, _, _, _, l7⟩ := H3.out.sf hl3 HSl.out
  have c0 := H3.out.c0
  rw [hz3] at c0
  have fs := fun k => H3.out.hs.frozen k
  clear hz3
  generalize hS3 : S.set r (Slt.mk_ r id qty top n l) = S3 at *
  have HS3 := Lib.hid hS3
  clear hS3
  go_wp2_with fail
  go_region
  have h4 : ArenaC (w3.setCell ⟨sb, l * 8 + 7, none⟩ (.int .i64 (r : Int))) pb sb (S3.set l (sL.setBk r)) (some ⟨qb, 0, none⟩) qc (Q.set n q) F :=
    (H3.out.self hl3 HSl.out).nextS (k := 7) (y := sL.setBk r) (v := .int .i64 (r : Int)) hl3 (by omega) rfl
  have H4 := Lib.hid h4.drew
  have K4 : Hid (Keeps (fun g => g = pb ∨ g = sb ∨ g = qb) w (w3.setCell ⟨sb, l * 8 + 7, none⟩ (.int .i64 (r : Int))).drew) :=
    Lib.hid (K3.out.setCell (p := ⟨sb, l * 8 + 7, none⟩) (fun _ => by simp) _).drew
  clear h4 q0 q1 q2 q3 l7 c0 fs
  generalize (w3.setCell ⟨sb, l * 8 + 7, none⟩ (.int .i64 (r : Int))).drew = w4 at *
  obtain ⟨q0, q1, q2, q3⟩ := H4.out.qf hn3 HQ3.out
  rw [HL.out] at q1
  have c2 := H4.out.c2
  have fq := fun k => H4.out.qfz k
  have fp := fun k => H4.out.hp.frozen k
  go_wp2_with fail
  clear q0 q1 q2 q3 c2 fq fp
  go_ret2
  refine ⟨rfl, ?_, ?_⟩
  · have h2 := H4.out.nextQ (k := 1) (y := { q with lst := (r : Int) }) (v := .int .i64 (r : Int)) hn (by omega) rfl
    have h3 := h2.nextQ (k := 2) (y := { q with lst := (r : Int), tot := q.tot + qty }) (v := .int .i64 (q.tot + qty)) hn (by omega) rfl
    have h4 := h3.nextQ (k := 3) (y := ⟨q.fst, r, q.tot + qty, q.cnt + 1⟩) (v := .int .i64 (q.cnt + 1)) hn (by omega) rfl
    have h5 := h4.setF (F - 1)
    rw [← HS3.out, ← HSL.out] at h5
    exact h5
  · refine K4.out.step (G := fun g => g = pb ∨ g = sb ∨ g = qb) ?_ fun _ _ x => x
    iterate 4 (with_reducible refine Keeps.setCell ?_ (fun _ => by simp) _)
    exact Keeps.refl _ _
end
end Go.Proofs.Ytbpmoomklknkkaa
