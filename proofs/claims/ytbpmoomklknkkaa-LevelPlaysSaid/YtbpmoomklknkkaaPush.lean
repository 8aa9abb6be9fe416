/- The walk of level.Arena.Push. -/
import Derived.Test.YtbpmoomklknkkaaDrop2
namespace Go.Proofs.Ytbpmoomklknkkaa
open Go.RowKit

set_option maxHeartbeats 400000 in
theorem unused_any (s : Slt) (w : World) :
    Calls Try.prog 28 #[.agg s.cells.toArray] w fun e w' => e = .returned (.bool (!s.used)) ∧ Below w.heap.size w w' := by
  obtain ⟨u, a1, a2, a3, a4, a5, a6, a7⟩ := s
  show Calls Try.prog 28 #[.agg #[.bool u, .int .i64 a1, .int .i64 a2, .int .i64 a3, .bool a4, .int .i64 a5, .int .i64 a6, .int .i64 a7]] w fun e w' => e = .returned (.bool (!u)) ∧ Below w.heap.size w w'
  go_enter Try.func28, Try.ntmps28
  go_wp2
  go_ret
  exact ⟨rfl, (Below.refl _ _).alloc (Nat.le_refl _) _⟩

theorem slt_cells {w : World} {sb : Nat} {S : List Slt} (h : Blk w sb 62 (S.flatMap Slt.cells).toArray) {i : Nat} (hi : i < S.length) {s : Slt} (hs : S[i]'hi = s) :
    w.cell? ⟨sb, i * 8, none⟩ = some (.bool s.used) ∧ w.cell? ⟨sb, i * 8 + 1, none⟩ = some (.int .i64 s.slot) ∧ w.cell? ⟨sb, i * 8 + 2, none⟩ = some (.int .i64 s.id) ∧ w.cell? ⟨sb, i * 8 + 3, none⟩ = some (.int .i64 s.qty) ∧
    w.cell? ⟨sb, i * 8 + 4, none⟩ = some (.bool s.top) ∧ w.cell? ⟨sb, i * 8 + 5, none⟩ = some (.int .i64 s.q) ∧ w.cell? ⟨sb, i * 8 + 6, none⟩ = some (.int .i64 s.ah) ∧ w.cell? ⟨sb, i * 8 + 7, none⟩ = some (.int .i64 s.bk) := by
  subst hs
  have g : ∀ k, k < 8 → w.cell? ⟨sb, i * 8 + k, none⟩ = (S[i]'hi).cells[k]? := fun k hk => by
    rw [h.cell, List.getElem?_toArray]
    exact fm_get Slt.cells 8 Slt.len S i k hi hk
  exact ⟨g 0 (by omega), g 1 (by omega), g 2 (by omega), g 3 (by omega), g 4 (by omega), g 5 (by omega), g 6 (by omega), g 7 (by omega)⟩

set_option maxHeartbeats 400000 in
theorem index_any {w : World} {sb : Nat} {S : List Slt} (h : Blk w sb 62 (S.flatMap Slt.cells).toArray) (hr : S.length ≤ 4096) (r : Nat) (hfree : (∀ j (hj : j < S.length), j < r → (S[j]'hj).used = true)) (hrl : r < S.length) (hru : (S[r]'hrl).used = false) :
    Calls Try.prog 27 #[.slice (some ⟨sb, 0, none⟩) S.length S.length, .func (Fn.func 28) #[] #[]] w fun e w' => e = .returned (.int .i64 r) ∧ Below w.heap.size w w' := by
  have HF := Lib.hid hfree
  have HR := Lib.hid hru
  have H := Lib.hid h
  clear hfree hru h
  go_enter Try.func27, Try.ntmps27
  go_wp2
  go_loopw [8] (fun i w' => ∃ k : Nat, i = .int .i64 k ∧ k ≤ r ∧ Below w.heap.size w w') (fun i _ => S.length - (intOf i).toNat)
  case atStart => exact ⟨0, rfl, by omega, Below.refl _ _⟩
  case round =>
    obtain ⟨k, rfl, hk, hbw⟩ := hrel
    have HB := Lib.hid hbw
    have hkl : k < S.length := by omega
    have hB := (H.out.lt : sb < w.heap.size)
    have hblk : Blk wr sb 62 (S.flatMap Slt.cells).toArray := (hbw.block sb hB).trans H.out
    obtain ⟨s, HS⟩ : ∃ x, Hid (S[k]'hkl = x) := ⟨_, rfl⟩
    obtain ⟨s0, s1, s2, s3, s4, s5, s6, s7⟩ := slt_cells hblk hkl HS.out
    clear hbw hblk
    by_cases hkr : k = r
    · have hu : s.used = false := by subst hkr; rw [← HS.out]; exact HR.out
      have HU := Lib.hid hu
      have HK := Lib.hid hkr
      clear hu hkr
      go_wp2_with (go_at_call 28; refine (unused_any s _).mono ?_; rintro e w1 ⟨rfl, h1⟩; rw [HU.out])
      go_ret
      exact ⟨by rw [← HK.out]; rfl, HB.out.trans (h1.mono HB.out.size)⟩
    · have hu : s.used = true := by rw [← HS.out]; exact HF.out k hkl (by omega)
      have HU := Lib.hid hu
      clear hu
      go_wp2_with (go_at_call 28; refine (unused_any s _).mono ?_; rintro e w1 ⟨rfl, h1⟩; rw [HU.out])
      go_roundw
      case rel => exact ⟨k + 1, by go_num, by omega, HB.out.trans (h1.mono HB.out.size)⟩
      case measure => simp [intOf]; omega

section
variable {w : World} {pb sb qb : Nat} {S : List Slt} {qc : Nat} {Q : List Que} {F : Int}

theorem ArenaC.same {qa : Option Addr} {w1 : World} (h : ArenaC w pb sb S qa qc Q F) (hk : ∀ k, k < w.heap.size → w1.heap[k]? = w.heap[k]?) : ArenaC w1 pb sb S qa qc Q F := by
  refine ⟨(hk _ h.hp.lt).trans h.hp, (hk _ h.hs.lt).trans h.hs, ⟨h.hq.1, ?_⟩, h.room, h.many⟩
  rcases h.hq.2 with h2 | ⟨g, cap, cur, hv, hb, hh, r⟩
  · exact .inl h2
  · have hlt : g < w.heap.size := by
      rcases Nat.lt_or_ge g w.heap.size with hlt | hge
      · exact hlt
      · rw [Array.getElem?_eq_none hge] at hh; cases hh
    exact .inr ⟨g, cap, cur, hv, hb, (hk g hlt).trans hh, r⟩

/-- the order that a push lays -/
def Slt.mk_ (r : Nat) (id qty : Int) (top : Bool) (n : Nat) (ah : Int) : Slt := ⟨true, r, id, qty, top, n, ah, -1⟩

set_option maxRecDepth 100000 in
set_option maxHeartbeats 1000000 in
theorem push_first (h : ArenaC w pb sb S (some ⟨qb, 0, none⟩) qc Q F) (n r : Nat) (q : Que) (hn : n < Q.length) (hq : Q[n]'hn = q) (id qty : Int) (top : Bool) (hq1 : 1 ≤ qty) (hq2 : qty ≤ 1000000) (hF : 1 ≤ F ∧ F ≤ 4096)
    (hfree : (∀ j (hj : j < S.length), j < r → (S[j]'hj).used = true)) (hrl : r < S.length) (hru : (S[r]'hrl).used = false) (hl : q.lst = -1) (ht : 0 ≤ q.tot ∧ q.tot ≤ 4096000000) (hc : 0 ≤ q.cnt ∧ q.cnt ≤ 4096) :
    Calls Try.prog 13 #[.pointer (some ⟨pb, 0, none⟩), .int .i64 n, .int .i64 id, .int .i64 qty, .bool top] w fun e w' => e = .returned (.tuple #[.int .i64 r, .int .i64 0]) ∧ ArenaC w' pb sb (S.set r (Slt.mk_ r id qty top n (-1))) (some ⟨qb, 0, none⟩) qc (Q.set n ⟨r, r, q.tot + qty, q.cnt + 1⟩) (F - 1) ∧ Keeps (fun g => g = pb ∨ g = sb ∨ g = qb) w w' := by
  have hb : Hid ((decide ((0 : Int) ≤ n) && decide ((n : Int) < (Q.length : Int))) = true) := Lib.hid (by simp; omega)
  have hn' : (n : Int) < (Q.length : Int) := by omega
  have hr' : (r : Int) < (S.length : Int) := by omega
  have hr := h.room
  have hm := h.many
  have c0 := h.c0
  have c1 := h.c1
  have c2 := h.c2
  have hF' : (F == 0) = false := by rw [beq_eq_false_iff_ne]; omega
  have H := Lib.hid h
  have HQ := Lib.hid hq
  have HL := Lib.hid hl
  have HI := Lib.hid (index_any h.hs hr r hfree hrl hru)
  obtain ⟨n1, n2, n3, n4, n5, n6⟩ := h.six
  clear hfree hru hq hl h
  go_enter Try.func13, Try.ntmps13
  go_wp2_with (go_at_call 26; refine (is_any H.out n).mono ?_; rintro e w1 ⟨rfl, rfl⟩; rw [hb.out])
  refine HI.out.mono ?_
  rintro e w2 ⟨rfl, hw2⟩
  have H2 := Lib.hid (H.out.same hw2.block)
  have K2 := Lib.hid (Below.keeps (F := fun g => g = pb ∨ g = sb ∨ g = qb) hw2)
  clear c0 c1 c2 hw2 HI
  have c0 := H2.out.c0
  have c1 := H2.out.c1
  have fs := fun k => H2.out.hs.frozen k
  obtain ⟨s0, s1, s2, s3, s4, s5, s6, s7⟩ := H2.out.sf hrl rfl
  obtain ⟨q0, q1, q2, q3⟩ := H2.out.qf hn HQ.out
  rw [HL.out] at q1
  generalize S[r]'hrl = old at *
  go_wp2_with fail
  go_region
  have h3 : ArenaC ((((((((w2.setCell ⟨sb, r * 8, none⟩ (.bool true)).setCell ⟨sb, r * 8 + 1, none⟩ (.int .i64 (r : Int))).setCell ⟨sb, r * 8 + 2, none⟩ (.int .i64 id)).setCell ⟨sb, r * 8 + 3, none⟩ (.int .i64 qty)).setCell ⟨sb, r * 8 + 4, none⟩ (.bool top)).setCell ⟨sb, r * 8 + 5, none⟩ (.int .i64 (n : Int))).setCell ⟨sb, r * 8 + 6, none⟩ (.int .i64 (-1))).setCell ⟨sb, r * 8 + 7, none⟩ (.int .i64 (-1))) pb sb (S.set r (Slt.mk_ r id qty top n (-1))) (some ⟨qb, 0, none⟩) qc (Q.set n q) F :=
    ((H2.out.self hrl rfl).selfQ hn HQ.out).next8 (y := Slt.mk_ r id qty top n (-1)) hrl
  have H3 := Lib.hid h3.drew
  have K3 : Hid (Keeps (fun g => g = pb ∨ g = sb ∨ g = qb) w ((((((((w2.setCell ⟨sb, r * 8, none⟩ (.bool true)).setCell ⟨sb, r * 8 + 1, none⟩ (.int .i64 (r : Int))).setCell ⟨sb, r * 8 + 2, none⟩ (.int .i64 id)).setCell ⟨sb, r * 8 + 3, none⟩ (.int .i64 qty)).setCell ⟨sb, r * 8 + 4, none⟩ (.bool top)).setCell ⟨sb, r * 8 + 5, none⟩ (.int .i64 (n : Int))).setCell ⟨sb, r * 8 + 6, none⟩ (.int .i64 (-1))).setCell ⟨sb, r * 8 + 7, none⟩ (.int .i64 (-1))).drew) := by
    refine Lib.hid (Keeps.drew ?_)
    refine K2.out.step (G := fun g => g = pb ∨ g = sb ∨ g = qb) ?_ fun _ _ x => x
    iterate 8 (with_reducible refine Keeps.setCell ?_ (fun _ => by simp) _)
    exact Keeps.refl _ _
  clear h3 s0 s1 s2 s3 s4 s5 s6 s7 q0 q1 q2 q3 c0 c1 fs
  generalize ((((((((w2.setCell ⟨sb, r * 8, none⟩ (.bool true)).setCell ⟨sb, r * 8 + 1, none⟩ (.int .i64 (r : Int))).setCell ⟨sb, r * 8 + 2, none⟩ (.int .i64 id)).setCell ⟨sb, r * 8 + 3, none⟩ (.int .i64 qty)).setCell ⟨sb, r * 8 + 4, none⟩ (.bool top)).setCell ⟨sb, r * 8 + 5, none⟩ (.int .i64 (n : Int))).setCell ⟨sb, r * 8 + 6, none⟩ (.int .i64 (-1))).setCell ⟨sb, r * 8 + 7, none⟩ (.int .i64 (-1))).drew = w3 at *
  have hn3 : n < (Q.set n q).length := by simpa using hn
  have HQ3 : Hid ((Q.set n q)[n]'hn3 = q) := Lib.hid (by rw [List.getElem_set_self])
  obtain ⟨q0, q1, q2, q3⟩ := H3.out.qf hn3 HQ3.out
  rw [HL.out] at q1
  have c2 := H3.out.c2
  have fq := fun k => H3.out.qfz k
  have fp := fun k => H3.out.hp.frozen k
  go_wp2_with fail
  clear q0 q1 q2 q3 c2 fq fp
  go_ret2
  refine ⟨rfl, ?_, ?_⟩
  · have h1 := H3.out.nextQ (k := 0) (y := { q with fst := (r : Int) }) (v := .int .i64 (r : Int)) hn (by omega) rfl
    have h2 := h1.nextQ (k := 1) (y := { q with fst := (r : Int), lst := (r : Int) }) (v := .int .i64 (r : Int)) hn (by omega) rfl
    have h3 := h2.nextQ (k := 2) (y := { q with fst := (r : Int), lst := (r : Int), tot := q.tot + qty }) (v := .int .i64 (q.tot + qty)) hn (by omega) rfl
    have h4 := h3.nextQ (k := 3) (y := ⟨r, r, q.tot + qty, q.cnt + 1⟩) (v := .int .i64 (q.cnt + 1)) hn (by omega) rfl
    exact h4.setF (F - 1)
  · refine K3.out.step (G := fun g => g = pb ∨ g = sb ∨ g = qb) ?_ fun _ _ x => x
    iterate 5 (with_reducible refine Keeps.setCell ?_ (fun _ => by simp) _)
    exact Keeps.refl _ _
end
end Go.Proofs.Ytbpmoomklknkkaa
