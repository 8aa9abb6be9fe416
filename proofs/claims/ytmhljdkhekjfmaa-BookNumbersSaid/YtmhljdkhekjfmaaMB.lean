/- Merged: Take Take2 Open List LevP LevP2 LevA List2 LevB. -/
import Derived.Test.YtmhljdkhekjfmaaMA
import Derived.Maps.AppendAt
/- The walk of level.Arena.Take. -/
namespace Go.Proofs.Ytmhljdkhekjfmaa
open Go.RowKit

section
variable {w : World} {pb sb qb : Nat} {S : List Slt} {qc : Nat} {Q : List Que} {F : Int}
set_option maxHeartbeats 400000 in
theorem take_no {qa : Option Addr} (h : ArenaC w pb sb S qa qc Q F) (n qty : Int) (hn : slotPtr sb S n = .pointer none) :
    Calls Try.prog 31 #[.pointer (some ⟨pb, 0, none⟩), .int .i64 n, .int .i64 qty] w fun e w' => e = .returned (.int .i64 26) ∧ w = w' := by
  have H := Lib.hid h
  have HN := Lib.hid hn
  clear h hn
  go_enter Try.func31, Try.ntmps31
  go_wp2_with (go_at_call 53; refine (find_any H.out n).mono ?_; rintro e w1 ⟨rfl, rfl⟩; rw [HN.out])
  go_ret
  exact ⟨rfl, rfl⟩
def Slt.withQty (s : Slt) (x : Int) : Slt := { s with qty := x }
set_option maxRecDepth 100000 in
set_option maxHeartbeats 1000000 in
theorem take_less (h : ArenaC w pb sb S (some ⟨qb, 0, none⟩) qc Q F) (i n : Nat) (s : Slt) (q : Que) (hi : i < S.length) (hn : n < Q.length) (hs : S[i]'hi = s) (hq : Q[n]'hn = q) (hsn : s.q = n) (hu : s.used = true)
    (qty : Int) (h1 : 1 ≤ qty) (h2 : qty < s.qty) (h3 : s.qty ≤ 1000000) (ht : s.qty ≤ q.tot ∧ q.tot ≤ 4096000000) :
    Calls Try.prog 31 #[.pointer (some ⟨pb, 0, none⟩), .int .i64 i, .int .i64 qty] w fun e w' => e = .returned (.int .i64 0) ∧ ArenaC w' pb sb (S.set i (s.withQty (s.qty - qty))) (some ⟨qb, 0, none⟩) qc (Q.set n { q with tot := q.tot - qty }) F ∧ Keeps (fun g => g = pb ∨ g = sb ∨ g = qb) w w' := by
  obtain ⟨n1, n2, n3, n4, n5, n6⟩ := h.six
  have hm := h.many
  have hr := h.room
  have hn' : (n : Int) < (Q.length : Int) := by omega
  have HN : Hid (slotPtr sb S i = .pointer (some ⟨sb, i * 8, none⟩)) := Lib.hid (by rw [slotPtr_at hi, hs, hu]; rfl)
  obtain ⟨s0, s1, s2, s3, s4, s5, s6, s7⟩ := h.sf hi hs
  obtain ⟨q0, q1, q2, q3⟩ := h.qf hn hq
  have c1 := h.c1
  rw [hsn] at s5
  have fq := fun k => h.qfz k
  have fs := fun k => h.hs.frozen k
  have hz : (s.qty - qty == 0) = false := by rw [beq_eq_false_iff_ne]; omega
  have HS := Lib.hid hs
  have HQ := Lib.hid hq
  have HSN := Lib.hid hsn
  have H := Lib.hid h
  clear hs hq hsn hu h
  go_enter Try.func31, Try.ntmps31
  go_wp2_with (go_at_call 53; refine (find_any H.out i).mono ?_; rintro e w1 ⟨rfl, rfl⟩; rw [HN.out])
  have h2' : ArenaC (w.setCell ⟨sb, i * 8 + 1 + 2, none⟩ (.int .i64 (s.qty - qty))) pb sb (S.set i (s.withQty (s.qty - qty))) (some ⟨qb, 0, none⟩) qc (Q.set n q) F :=
    ((H.out.self hi HS.out).selfQ hn HQ.out).nextS (k := 3) (y := s.withQty (s.qty - qty)) (v := .int .i64 (s.qty - qty)) hi (by omega) rfl
  have H2 := Lib.hid h2'
  have K2 := Lib.hid ((Keeps.refl (fun g => g = pb ∨ g = sb ∨ g = qb) w).setCell (p := ⟨sb, i * 8 + 1 + 2, none⟩) (fun _ => by simp) (.int .i64 (s.qty - qty)))
  clear h2' s0 s1 s2 s3 s4 s5 s6 s7 q0 q1 q2 q3 c1 fq fs
  generalize w.setCell ⟨sb, i * 8 + 1 + 2, none⟩ (.int .i64 (s.qty - qty)) = w2 at *
  have hi2 : i < (S.set i (s.withQty (s.qty - qty))).length := by simpa using hi
  have hn2 : n < (Q.set n q).length := by simpa using hn
  have HS2 : Hid ((S.set i (s.withQty (s.qty - qty)))[i]'hi2 = s.withQty (s.qty - qty)) := Lib.hid (by rw [List.getElem_set_self])
  have HQ2 : Hid ((Q.set n q)[n]'hn2 = q) := Lib.hid (by rw [List.getElem_set_self])
  obtain ⟨_, _, _, s3, _, s5, _, _⟩ := H2.out.sf hi2 HS2.out
  obtain ⟨_, _, q2, _⟩ := H2.out.qf hn2 HQ2.out
  have s5' : w2.cell? ⟨sb, i * 8 + 5, none⟩ = some (.int .i64 n) := by rw [s5]; show some (Value.int .i64 s.q) = _; rw [HSN.out]
  have s3' : w2.cell? ⟨sb, i * 8 + 3, none⟩ = some (.int .i64 (s.qty - qty)) := s3
  have c1 := H2.out.c1
  have hz2 : (Q.set n q).length = Q.length := by simp
  rw [hz2] at c1
  have fq := fun k => H2.out.qfz k
  clear s3 s5 hz2
  go_region
  go_wp2_with fail
  clear s5' s3' q2 c1 fq
  go_ret
  refine ⟨rfl, ?_, ?_⟩
  · exact (H2.out.nextQ (k := 2) (y := { q with tot := q.tot - qty }) (v := .int .i64 (q.tot - qty)) hn (by omega) rfl).drew
  · exact (K2.out.setCell (p := ⟨qb, n * 4 + 2, none⟩) (fun _ => by simp) _).drew
end
end Go.Proofs.Ytmhljdkhekjfmaa

/- The walk of level.Arena.Take: all of an order. -/
namespace Go.Proofs.Ytmhljdkhekjfmaa
open Go.RowKit

section
variable {w : World} {pb sb qb : Nat} {S : List Slt} {qc : Nat} {Q : List Que} {F : Int}
set_option maxRecDepth 100000 in
set_option maxHeartbeats 1000000 in
theorem take_all (h : ArenaC w pb sb S (some ⟨qb, 0, none⟩) qc Q F) (i n : Nat) (s : Slt) (q : Que) (hi : i < S.length) (hn : n < Q.length) (hs : S[i]'hi = s) (hq : Q[n]'hn = q) (hsn : s.q = n) (hu : s.used = true)
    {S' : List Slt} {Q' : List Que} {F' : Int} (h1 : 1 ≤ s.qty) (h3 : s.qty ≤ 1000000)
    (hd : ∀ w3, ArenaC w3 pb sb (S.set i (s.withQty 0)) (some ⟨qb, 0, none⟩) qc (Q.set n { q with tot := q.tot - s.qty }) F → Calls Try.prog 54 #[.pointer (some ⟨pb, 0, none⟩), .pointer (some ⟨sb, i * 8, none⟩)] w3 fun e w' => e = .returned (.tuple #[]) ∧ ArenaC w' pb sb S' (some ⟨qb, 0, none⟩) qc Q' F' ∧ Keeps (fun g => g = pb ∨ g = sb ∨ g = qb) w3 w') (ht : s.qty ≤ q.tot ∧ q.tot ≤ 4096000000) :
    Calls Try.prog 31 #[.pointer (some ⟨pb, 0, none⟩), .int .i64 i, .int .i64 s.qty] w fun e w' => e = .returned (.int .i64 0) ∧ ArenaC w' pb sb S' (some ⟨qb, 0, none⟩) qc Q' F' ∧ Keeps (fun g => g = pb ∨ g = sb ∨ g = qb) w w' := by
  obtain ⟨n1, n2, n3, n4, n5, n6⟩ := h.six
  have hm := h.many
  have hr := h.room
  have hn' : (n : Int) < (Q.length : Int) := by omega
  have HN : Hid (slotPtr sb S i = .pointer (some ⟨sb, i * 8, none⟩)) := Lib.hid (by rw [slotPtr_at hi, hs, hu]; rfl)
  obtain ⟨s0, s1, s2, s3, s4, s5, s6, s7⟩ := h.sf hi hs
  obtain ⟨q0, q1, q2, q3⟩ := h.qf hn hq
  have c1 := h.c1
  rw [hsn] at s5
  have fq := fun k => h.qfz k
  have fs := fun k => h.hs.frozen k
  have HD := Lib.hid hd
  have HS := Lib.hid hs
  have HQ := Lib.hid hq
  have HSN := Lib.hid hsn
  have H := Lib.hid h
  clear hs hq hsn hu h hd
  go_enter Try.func31, Try.ntmps31
  go_wp2_with (go_at_call 53; refine (find_any H.out i).mono ?_; rintro e w1 ⟨rfl, rfl⟩; rw [HN.out])
  have h2' : ArenaC (w.setCell ⟨sb, i * 8 + 1 + 2, none⟩ (.int .i64 0)) pb sb (S.set i (s.withQty 0)) (some ⟨qb, 0, none⟩) qc (Q.set n q) F :=
    ((H.out.self hi HS.out).selfQ hn HQ.out).nextS (k := 3) (y := s.withQty 0) (v := .int .i64 0) hi (by omega) rfl
  have H2 := Lib.hid h2'
  have K2 := Lib.hid ((Keeps.refl (fun g => g = pb ∨ g = sb ∨ g = qb) w).setCell (p := ⟨sb, i * 8 + 1 + 2, none⟩) (fun _ => by simp) (.int .i64 0))
  clear h2' s0 s1 s2 s3 s4 s5 s6 s7 q0 q1 q2 q3 c1 fq fs
  generalize w.setCell ⟨sb, i * 8 + 1 + 2, none⟩ (.int .i64 0) = w2 at *
  have hi2 : i < (S.set i (s.withQty 0)).length := by simpa using hi
  have hn2 : n < (Q.set n q).length := by simpa using hn
  have HS2 : Hid ((S.set i (s.withQty 0))[i]'hi2 = s.withQty 0) := Lib.hid (by rw [List.getElem_set_self])
  have HQ2 : Hid ((Q.set n q)[n]'hn2 = q) := Lib.hid (by rw [List.getElem_set_self])
  obtain ⟨_, _, _, s3, _, s5, _, _⟩ := H2.out.sf hi2 HS2.out
  obtain ⟨_, _, q2, _⟩ := H2.out.qf hn2 HQ2.out
  have s5' : w2.cell? ⟨sb, i * 8 + 5, none⟩ = some (.int .i64 n) := by rw [s5]; show some (Value.int .i64 s.q) = _; rw [HSN.out]
  have s3' : w2.cell? ⟨sb, i * 8 + 3, none⟩ = some (.int .i64 0) := s3
  have c1 := H2.out.c1
  have hz2 : (Q.set n q).length = Q.length := by simp
  rw [hz2] at c1
  have fq := fun k => H2.out.qfz k
  clear s3 s5 hz2
  go_region
  have H3 := Lib.hid (H2.out.nextQ (k := 2) (y := { q with tot := q.tot - s.qty }) (v := .int .i64 (q.tot - s.qty)) hn (by omega) rfl).drew
  have K3 := Lib.hid (K2.out.setCell (p := ⟨qb, n * 4 + 2, none⟩) (fun _ => by simp) (.int .i64 (q.tot - s.qty))).drew
  clear s5' s3' q2 c1 fq
  generalize (w2.setCell ⟨qb, n * 4 + 2, none⟩ (.int .i64 (q.tot - s.qty))).drew = w3 at *
  have hi3 : i < (S.set i (s.withQty 0)).length := hi2
  obtain ⟨_, _, _, s3, _, _, _, _⟩ := H3.out.sf hi3 HS2.out
  have s3' : w3.cell? ⟨sb, i * 8 + 3, none⟩ = some (.int .i64 0) := s3
  clear s3
  go_wp2_with fail
  refine (HD.out _ H3.out).mono ?_
  rintro e w4 ⟨rfl, h4, k4⟩
  go_wp2_with fail
  go_ret
  exact ⟨rfl, h4, K3.out.step k4 fun _ _ x => x⟩
end
end Go.Proofs.Ytmhljdkhekjfmaa

/- The walk of level.Arena.Open. -/
namespace Go.Proofs.Ytmhljdkhekjfmaa
open Go.RowKit

def Que.new_ : Que := ⟨-1, -1, 0, 0⟩
theorem info_que : (Try.prog.info? 114).map (fun i => (i.zero, i.size, i.bytes)) = some (some (.agg #[.int .i64 0, .int .i64 0, .int .i64 0, .int .i64 0]), 4, 32) := by kernel_rfl

section
variable {w : World} {pb sb : Nat} {S : List Slt} {qa : Option Addr} {qc : Nat} {Q : List Que} {F : Int}
set_option maxHeartbeats 600000 in
theorem open_any (h : ArenaC w pb sb S qa qc Q F) (hm : Q.length ≤ 1000000) :
    Calls Try.prog 51 #[.pointer (some ⟨pb, 0, none⟩)] w fun e w' => e = .returned (.int .i64 Q.length) ∧ (∃ qb qc', (qa = some ⟨qb, 0, none⟩ ∨ w.heap.size ≤ qb) ∧ ArenaC w' pb sb S (some ⟨qb, 0, none⟩) qc' (Q ++ [Que.new_]) F) ∧ Keeps (fun g => g = pb ∨ qa = some ⟨g, 0, none⟩) w w' := by
  obtain ⟨i0, hi, hz0, hz1, hz2⟩ := info_parts info_que
  have c1 := h.c1
  have H := Lib.hid h
  clear h
  go_enter Try.func51, Try.ntmps51
  go_wp2_with (first
    | (at_builtin; refine wpList_append_own_at _ rfl (.tmp 7) (.tmp 9) _ rfl 0 114 i0 _ 4 32 Try.underlying102 hi hz0 hz1 hz2 rfl (by omega) (.slice qa Q.length qc) Q.length (Q.flatMap Que.cells) rfl (H.out.hq.alloc _) ⟨w.heap.size, 0, none⟩ 1 1 Que.new_.cells rfl rfl ?c1 ?c2 ?c3 ?c4 (Nat.zero_le _) ?_))
  case c1 =>
    intro j u hj
    have h4 : j < 4 := by
      rcases Nat.lt_or_ge j 4 with h | h
      · exact h
      · rw [List.getElem?_eq_none (by rw [Que.len]; exact h)] at hj; cases hj
    have := (Blk.new w 114 Que.new_.cells.toArray).cell j
    rw [List.getElem?_toArray, hj] at this
    have e : (⟨w.heap.size, 0, none⟩ : Addr).add j = ⟨w.heap.size, j, none⟩ := by unfold Addr.add; split <;> simp_all
    rw [e]
    exact this
  case c2 => decide
  case c3 => unfold maxLen; omega
  case c4 => omega
  intro v' w2 hown hg _ hat
  obtain ⟨g, cap, hv⟩ : ∃ g cap, v' = .slice (some ⟨g, 0, none⟩) (Q.length + 1) cap := by
    rcases hown.2 with ⟨_, h0⟩ | ⟨g, cap, _, hv, _⟩
    · omega
    · exact ⟨g, cap, hv⟩
  rw [hv] at hown hat ⊢
  have hold : ∀ k, k < w.heap.size → some k ≠ (Value.slice qa Q.length qc).ownBlock → w2.heap[k]? = w.heap[k]? := fun k hk hne =>
    (hg.block k (by simp; omega) hne).trans (Below.heap_alloc w _ k hk)
  have hp2 : Blk w2 pb 104 #[.slice (some ⟨sb, 0, none⟩) S.length S.length, .slice qa Q.length qc, .int .i64 F] := (hold pb H.out.hp.lt (Ne.symm H.out.qp)).trans H.out.hp
  have hs2 : Blk w2 sb 110 (S.flatMap Slt.cells).toArray := (hold sb H.out.hs.lt (Ne.symm H.out.qs)).trans H.out.hs
  have hgp := own_ne hown hp2 (by decide)
  have c1' : w2.cell? ⟨pb, 1, none⟩ = some (.slice qa Q.length qc) := by rw [hp2.cell]; rfl
  have f1' : w2.frozen? ⟨pb, 1, none⟩ = false := hp2.frozen 1
  have HP2 := Lib.hid hp2
  have HS2 := Lib.hid hs2
  have HOWN := Lib.hid hown
  have HAT := Lib.hid hat
  have HG := Lib.hid hg
  have HOLD := Lib.hid hold
  have HGP := Lib.hid hgp
  clear hp2 hs2 hown hat hg hold hgp hv hi hz0 hz1 hz2 c1
  go_wp2_with fail
  go_ret
  have hform : ∀ k, (Value.slice qa Q.length qc).ownBlock = some k → qa = some ⟨k, 0, none⟩ := by
    intro k hk
    rcases H.out.hq.2 with ⟨hv, _⟩ | ⟨g', cap', _, hv, _⟩
    · rw [hv] at hk; simp [Value.ownBlock] at hk
    · rw [hv] at hk
      have e : g' = k := by simpa [Value.ownBlock] using hk
      injection hv with e1
      rw [e1, e]
  refine ⟨by simp, ⟨g, cap, ?_, ?_⟩, ?_⟩
  · rcases HAT.out with h1 | h1
    · exact .inl (hform g h1.symm)
    · refine .inr ?_
      have : g = w.heap.size + 1 := by simpa [Value.ownBlock] using h1
      omega
  · refine ⟨?_, ?_, ?_, H.out.room, by simp; omega⟩
    · have := HP2.out.set_ 1 (.slice (some ⟨g, 0, none⟩) (Q.length + 1) cap)
      simpa using this
    · have := HS2.out.far (p := ⟨pb, 1, none⟩) H.out.ps.symm (.slice (some ⟨g, 0, none⟩) (Q.length + 1) cap)
      simpa using this
    · have := own_far HOWN.out (p := ⟨pb, 1, none⟩) HGP.out (.slice (some ⟨g, 0, none⟩) (Q.length + 1) cap)
      simpa using this
  · have K2 : Keeps (fun k => k = pb ∨ qa = some ⟨k, 0, none⟩) w w2 :=
      ⟨HG.out.os, HG.out.tape, HG.out.output, by have := HG.out.size; simp at this; omega, fun k hk hf => HOLD.out k hk fun e => hf (.inr (hform k e.symm))⟩
    exact K2.setCell (p := ⟨pb, 1, none⟩) (fun _ => .inl rfl) _
end
end Go.Proofs.Ytmhljdkhekjfmaa

/- The walks of level.Arena.Take refused for its quantity, of List. -/
namespace Go.Proofs.Ytmhljdkhekjfmaa
open Go.RowKit

section
variable {w : World} {pb sb : Nat} {S : List Slt} {qa : Option Addr} {qc : Nat} {Q : List Que} {F : Int}
set_option maxHeartbeats 400000 in
theorem take_qty (h : ArenaC w pb sb S qa qc Q F) (i : Nat) (qty : Int) (hi : i < S.length) (s : Slt) (hs : S[i]'hi = s) (hu : s.used = true) (hq : qty < 1 ∨ s.qty < qty) :
    Calls Try.prog 31 #[.pointer (some ⟨pb, 0, none⟩), .int .i64 i, .int .i64 qty] w fun e w' => e = .returned (.int .i64 24) ∧ w = w' := by
  have H := Lib.hid h
  have HN : Hid (slotPtr sb S i = .pointer (some ⟨sb, i * 8, none⟩)) := Lib.hid (by rw [slotPtr_at hi, hs, hu]; rfl)
  obtain ⟨_, _, _, s3, _, _, _, _⟩ := h.sf hi hs
  clear h hs hu
  rcases hq with hq | hq
  · go_enter Try.func31, Try.ntmps31
    go_wp2_with (go_at_call 53; refine (find_any H.out i).mono ?_; rintro e w1 ⟨rfl, rfl⟩; rw [HN.out])
    go_ret
    exact ⟨rfl, rfl⟩
  · by_cases h1 : qty < 1
    · go_enter Try.func31, Try.ntmps31
      go_wp2_with (go_at_call 53; refine (find_any H.out i).mono ?_; rintro e w1 ⟨rfl, rfl⟩; rw [HN.out])
      go_ret
      exact ⟨rfl, rfl⟩
    · go_enter Try.func31, Try.ntmps31
      go_wp2_with (go_at_call 53; refine (find_any H.out i).mono ?_; rintro e w1 ⟨rfl, rfl⟩; rw [HN.out])
      go_ret
      exact ⟨rfl, rfl⟩
set_option maxHeartbeats 400000 in
theorem list_no (h : ArenaC w pb sb S qa qc Q F) (n : Int) (hn : n < 0 ∨ (Q.length : Int) ≤ n) :
    Calls Try.prog 56 #[.pointer (some ⟨pb, 0, none⟩), .int .i64 n] w fun e w' => e = .returned (.slice none 0 0) ∧ w = w' := by
  have hb : Hid ((decide (0 ≤ n) && decide (n < (Q.length : Int))) = false) := Lib.hid (by simp; omega)
  have H := Lib.hid h
  clear h
  go_enter Try.func56, Try.ntmps56
  go_wp2_with (go_at_call 48; refine (is_any H.out n).mono ?_; rintro e w1 ⟨rfl, rfl⟩; rw [hb.out])
  go_ret
  exact ⟨rfl, rfl⟩
end
end Go.Proofs.Ytmhljdkhekjfmaa

/- Queues of orders as lists, and how they lie in slots linked by their numbers: the plain law. No walk. -/
namespace Go.Proofs.Ytmhljdkhekjfmaa

/-- an order of a queue -/
structure Ent where
  slot : Nat
  id : Int
  qty : Int
  top : Bool

/-- the number of the slot at place j; none: -1 -/
def sl (L : List Ent) (j : Nat) : Int := match L[j]? with | some e => (e.slot : Int) | none => -1
/-- the number of the slot ahead of place j; none: -1 -/
def pv (L : List Ent) (j : Nat) : Int := if j = 0 then -1 else sl L (j - 1)
def sltOf (n : Nat) (L : List Ent) (j : Nat) (e : Ent) : Slt := ⟨true, e.slot, e.id, e.qty, e.top, n, pv L j, sl L (j + 1)⟩
def qtys (L : List Ent) : Int := (L.map Ent.qty).sum
def queOf (L : List Ent) : Que := ⟨sl L 0, pv L L.length, qtys L, L.length⟩

theorem sl_some {L : List Ent} {j : Nat} {e : Ent} (h : L[j]? = some e) : sl L j = e.slot := by unfold sl; rw [h]
theorem sl_none {L : List Ent} {j : Nat} (h : L.length ≤ j) : sl L j = -1 := by unfold sl; rw [List.getElem?_eq_none h]
theorem sl_ge (L : List Ent) (j : Nat) : -1 ≤ sl L j := by
  unfold sl; split <;> omega
theorem pv_zero (L : List Ent) : pv L 0 = -1 := rfl
theorem pv_succ (L : List Ent) (j : Nat) : pv L (j + 1) = sl L j := rfl
theorem lt_of_get {α : Type} {L : List α} {j : Nat} {e : α} (h : L[j]? = some e) : j < L.length := by
  rcases Nat.lt_or_ge j L.length with hl | hl
  · exact hl
  · rw [List.getElem?_eq_none hl] at h; cases h
theorem sl_neg {L : List Ent} {j : Nat} (h : sl L j = -1) : L.length ≤ j := by
  rcases Nat.lt_or_ge j L.length with hl | hl
  · rw [sl_some (List.getElem?_eq_getElem hl)] at h; omega
  · exact hl

/-- the queues A lie in the slots S and the queues' rows Q; F slots are free -/
structure Rep (A : List (List Ent)) (S : List Slt) (Q : List Que) (F : Int) : Prop where
  qs : Q = A.map queOf
  at_ : ∀ (n j : Nat) (L : List Ent) (e : Ent), A[n]? = some L → L[j]? = some e → S[e.slot]? = some (sltOf n L j e)
  inj : ∀ (n j n' j' : Nat) (L L' : List Ent) (e e' : Ent), A[n]? = some L → L[j]? = some e → A[n']? = some L' → L'[j']? = some e' → e.slot = e'.slot → n = n' ∧ j = j'
  un : ∀ (i : Nat) (s : Slt), S[i]? = some s → s.used = true → ∃ (n j : Nat) (L : List Ent) (e : Ent), A[n]? = some L ∧ L[j]? = some e ∧ e.slot = i
  fr : ∀ (i : Nat) (s : Slt), S[i]? = some s → s.used = false → s = Slt.none_
  free : F = (S.countP (fun s => !s.used) : Nat)
  sum : F + (A.map List.length).sum = S.length
  qty : ∀ (n j : Nat) (L : List Ent) (e : Ent), A[n]? = some L → L[j]? = some e → 1 ≤ e.qty ∧ e.qty ≤ 1000000

/-! ### lists -/
theorem getq {A : List (List Ent)} {n : Nat} {L : List Ent} (h : A[n]? = some L) {Q : List Que} (hQ : Q = A.map queOf) : Q[n]? = some (queOf L) := by
  rw [hQ, List.getElem?_map, h]; rfl
theorem sum_set (l : List Nat) (n x y : Nat) (h : l[n]? = some x) : (l.set n y).sum + x = l.sum + y := by
  induction l generalizing n with
  | nil => simp at h
  | cons a l ih =>
    cases n with
    | zero => simp at h; subst h; simp; omega
    | succ n => simp at h; have := ih n h; simp; omega
theorem le_sum (l : List Nat) (n x : Nat) (h : l[n]? = some x) : x ≤ l.sum := by
  induction l generalizing n with
  | nil => simp at h
  | cons a l ih =>
    cases n with
    | zero => simp at h; subst h; simp
    | succ n => simp at h; have := ih n h; simp; omega
theorem map_set_ {α β : Type} (f : α → β) (l : List α) (n : Nat) (x : α) : (l.set n x).map f = (l.map f).set n (f x) := by
  rw [List.map_set]
theorem countP_set {α : Type} (p : α → Bool) (l : List α) (n : Nat) (x y : α) (h : l[n]? = some x) : (l.set n y).countP p + (if p x then 1 else 0) = l.countP p + (if p y then 1 else 0) := by
  induction l generalizing n with
  | nil => simp at h
  | cons a l ih =>
    cases n with
    | zero => simp at h; subst h; simp [List.countP_cons]; omega
    | succ n => simp at h; have := ih n h; simp [List.countP_cons]; omega
theorem qtys_le (L : List Ent) (h : ∀ (j : Nat) (e : Ent), L[j]? = some e → 1 ≤ e.qty ∧ e.qty ≤ 1000000) : 0 ≤ qtys L ∧ qtys L ≤ 1000000 * L.length := by
  induction L with
  | nil => simp [qtys]
  | cons a L ih =>
    have h0 := h 0 a rfl
    have := ih fun j (e : Ent) he => h (j + 1) e he
    unfold qtys at this ⊢
    simp
    omega
theorem qtys_mem (L : List Ent) (h : ∀ (j : Nat) (e : Ent), L[j]? = some e → 1 ≤ e.qty ∧ e.qty ≤ 1000000) (j : Nat) (e : Ent) (he : L[j]? = some e) : e.qty ≤ qtys L := by
  induction L generalizing j with
  | nil => simp at he
  | cons a L ih =>
    have h0 := h 0 a rfl
    have h1 := qtys_le L fun j (e : Ent) he => h (j + 1) e he
    cases j with
    | zero => simp at he; subst he; unfold qtys at h1 ⊢; simp; omega
    | succ j =>
      simp at he
      have := ih (fun j (e : Ent) he => h (j + 1) e he) j he
      unfold qtys at this ⊢; simp; omega

section
variable {A : List (List Ent)} {S : List Slt} {Q : List Que} {F : Int}

theorem Rep.len (h : Rep A S Q F) : Q.length = A.length := by rw [h.qs]; simp
theorem Rep.room (h : Rep A S Q F) : 0 ≤ F ∧ F ≤ S.length := by
  have := h.free
  have := List.countP_le_length (l := S) (p := fun s => !s.used)
  omega
theorem Rep.short (h : Rep A S Q F) {n : Nat} {L : List Ent} (hn : A[n]? = some L) : L.length ≤ S.length := by
  have h1 := le_sum (A.map List.length) n L.length (by rw [List.getElem?_map, hn]; rfl)
  have h2 := h.sum
  have := h.room
  omega
theorem Rep.short1 (h : Rep A S Q F) {n : Nat} {L : List Ent} (hn : A[n]? = some L) (hF : 1 ≤ F) : L.length + 1 ≤ S.length := by
  have h1 := le_sum (A.map List.length) n L.length (by rw [List.getElem?_map, hn]; rfl)
  have h2 := h.sum
  omega

/-- an arena that was just made -/
theorem Rep.new (n : Nat) : Rep [] (List.replicate n Slt.none_) [] n := by
  refine ⟨rfl, by simp, by simp, ?_, ?_, ?_, by simp, by simp⟩
  · intro i s hs hu
    rw [List.getElem?_replicate] at hs
    split at hs
    · injection hs with hs; subst hs; cases hu
    · cases hs
  · intro i s hs _
    rw [List.getElem?_replicate] at hs
    split at hs
    · injection hs with hs; exact hs.symm
    · cases hs
  · rw [List.countP_replicate]; simp [Slt.none_]

theorem get_push {α : Type} {A : List α} {x y : α} {n : Nat} (h : (A ++ [x])[n]? = some y) : A[n]? = some y ∨ y = x := by
  rw [List.getElem?_append] at h
  split at h
  · exact .inl h
  · have h0 := lt_of_get h
    simp at h0
    simp [h0] at h
    exact .inr h.symm
theorem Rep.open_ (h : Rep A S Q F) : Rep (A ++ [[]]) S (Q ++ [Que.new_]) F := by
  have key : ∀ (n j : Nat) (L : List Ent) (e : Ent), (A ++ [[]])[n]? = some L → L[j]? = some e → A[n]? = some L := by
    intro n j L e hn hj
    rcases get_push hn with h1 | h1
    · exact h1
    · subst h1; simp at hj
  refine ⟨by rw [h.qs]; simp; rfl, ?_, ?_, ?_, h.fr, h.free, by have := h.sum; simp; omega, ?_⟩
  · intro n j L e hn hj
    exact h.at_ n j L e (key n j L e hn hj) hj
  · intro n j n' j' L L' e e' hn hj hn' hj' he
    exact h.inj n j n' j' L L' e e' (key n j L e hn hj) hj (key n' j' L' e' hn' hj') hj' he
  · intro i s hs hu
    obtain ⟨n, j, L, e, h1, h2, h3⟩ := h.un i s hs hu
    refine ⟨n, j, L, e, ?_, h2, h3⟩
    rw [List.getElem?_append_left (lt_of_get h1)]
    exact h1
  · intro n j L e hn hj
    exact h.qty n j L e (key n j L e hn hj) hj

/-- an order's quantity or flag is another -/
theorem Rep.turn (h : Rep A S Q F) {n j : Nat} {L : List Ent} {e : Ent} (hn : A[n]? = some L) (hj : L[j]? = some e) (x : Int) (t : Bool) (hx : 1 ≤ x ∧ x ≤ 1000000) :
    Rep (A.set n (L.set j { e with qty := x, top := t })) (S.set e.slot { sltOf n L j e with qty := x, top := t }) (Q.set n { queOf L with tot := qtys L + x - e.qty }) F := by
  have hnl := lt_of_get hn
  have hjl := lt_of_get hj
  have hs := h.at_ n j L e hn hj
  have hsl := lt_of_get hs
  have hsl_ : ∀ k, sl (L.set j { e with qty := x, top := t }) k = sl L k := by
    intro k
    unfold sl
    rw [List.getElem?_set]
    by_cases hk : j = k
    · subst hk; rw [if_pos rfl, if_pos hjl, hj]
    · simp [hk]
  have hpv_ : ∀ k, pv (L.set j { e with qty := x, top := t }) k = pv L k := by
    intro k; unfold pv; rw [hsl_]
  have hq_ : ∀ (L : List Ent) (j : Nat) (e : Ent), L[j]? = some e → qtys (L.set j { e with qty := x, top := t }) = qtys L + x - e.qty := by
    intro L
    induction L with
    | nil => intro j e h; simp at h
    | cons a L ih =>
      intro j e h
      cases j with
      | zero => simp at h; subst h; simp [qtys]; omega
      | succ j => simp at h; have := ih j e h; simp [qtys] at this ⊢; omega
  -- what stands at a place of the new queues
  have key : ∀ (n' j' : Nat) (L' : List Ent) (e' : Ent), (A.set n (L.set j { e with qty := x, top := t }))[n']? = some L' → L'[j']? = some e' →
      ∃ L0 e0, A[n']? = some L0 ∧ L0[j']? = some e0 ∧ e0.slot = e'.slot ∧ (n' = n → L0 = L ∧ L' = L.set j { e with qty := x, top := t }) ∧ (n' ≠ n → L' = L0) ∧ ((n' = n ∧ j' = j) → e' = { e with qty := x, top := t }) ∧ (¬ (n' = n ∧ j' = j) → e' = e0) := by
    intro n' j' L' e' h1 h2
    rw [List.getElem?_set] at h1
    by_cases hnn : n = n'
    · subst hnn
      simp [hnl] at h1
      subst h1
      rw [List.getElem?_set] at h2
      by_cases hjj : j = j'
      · subst hjj
        simp [hjl] at h2
        subst h2
        exact ⟨L, e, hn, hj, rfl, fun _ => ⟨rfl, rfl⟩, fun h => absurd rfl h, fun _ => rfl, fun h => absurd ⟨rfl, rfl⟩ h⟩
      · simp [hjj] at h2
        exact ⟨L, e', hn, h2, rfl, fun _ => ⟨rfl, rfl⟩, fun h => absurd rfl h, fun h => absurd h.2.symm hjj, fun _ => rfl⟩
    · simp [hnn] at h1
      exact ⟨L', e', h1, h2, rfl, fun h => absurd h.symm hnn, fun _ => rfl, fun h => absurd h.1.symm hnn, fun _ => rfl⟩
  refine ⟨?_, ?_, ?_, ?_, ?_, ?_, ?_, ?_⟩
  · rw [h.qs, map_set_]
    congr 1
    unfold queOf
    rw [hsl_, hpv_, hq_ L j e hj]
    simp
  · intro n' j' L' e' h1 h2
    obtain ⟨L0, e0, k1, k2, k3, k4, k5, k6, k7⟩ := key n' j' L' e' h1 h2
    by_cases hnj : n' = n ∧ j' = j
    · rw [k6 hnj, (k4 hnj.1).2, hnj.1, hnj.2]
      show (S.set e.slot _)[e.slot]? = _
      rw [List.getElem?_set_self hsl]
      unfold sltOf
      rw [hpv_, hsl_]
    · have hne : e.slot ≠ e'.slot := by
        intro he
        rw [← k3] at he
        have := h.inj n j n' j' L L0 e e0 hn hj k1 k2 he
        exact hnj ⟨this.1.symm, this.2.symm⟩
      rw [List.getElem?_set_ne hne, ← k3, h.at_ n' j' L0 e0 k1 k2, k7 hnj]
      by_cases hnn : n' = n
      · rw [(k4 hnn).1, (k4 hnn).2]
        unfold sltOf
        rw [hpv_, hsl_]
      · rw [k5 hnn]
  · intro n1 j1 n2 j2 L1 L2 e1 e2 a1 a2 b1 b2 he
    obtain ⟨K1, f1, k1, k2, k3, _⟩ := key n1 j1 L1 e1 a1 a2
    obtain ⟨K2, f2, m1, m2, m3, _⟩ := key n2 j2 L2 e2 b1 b2
    exact h.inj n1 j1 n2 j2 K1 K2 f1 f2 k1 k2 m1 m2 (by rw [k3, m3, he])
  · intro i s hi hu
    have : ∃ s0, S[i]? = some s0 ∧ s0.used = true := by
      rw [List.getElem?_set] at hi
      by_cases hi2 : e.slot = i
      · subst hi2; exact ⟨_, hs, rfl⟩
      · simp [hi2] at hi; exact ⟨s, hi, hu⟩
    obtain ⟨s0, hi0, hu0⟩ := this
    obtain ⟨n', j', L', e', k1, k2, k3⟩ := h.un i s0 hi0 hu0
    by_cases hnn : n = n'
    · subst hnn
      obtain rfl : L' = L := by rw [hn] at k1; injection k1 with k1; exact k1.symm
      refine ⟨n, j', L'.set j { e with qty := x, top := t }, if j = j' then { e with qty := x, top := t } else e', by rw [List.getElem?_set_self hnl], ?_, ?_⟩
      · rw [List.getElem?_set]
        by_cases hjj : j = j'
        · simp [hjj, lt_of_get k2]
        · simp [hjj, k2]
      · by_cases hjj : j = j'
        · subst hjj; rw [hj] at k2; injection k2 with k2; simp [k2, k3]
        · simp [hjj, k3]
    · exact ⟨n', j', L', e', by rw [List.getElem?_set_ne hnn]; exact k1, k2, k3⟩
  · intro i s hi hu
    rw [List.getElem?_set] at hi
    by_cases hi2 : e.slot = i
    · rw [if_pos hi2, if_pos hsl] at hi
      injection hi with hi
      subst hi; cases hu
    · rw [if_neg hi2] at hi; exact h.fr i s hi hu
  · have := countP_set (fun s : Slt => !s.used) S e.slot _ { sltOf n L j e with qty := x, top := t } hs
    rw [h.free]
    simp [sltOf] at this ⊢
    omega
  · have := sum_set (A.map List.length) n L.length (L.set j { e with qty := x, top := t }).length (by rw [List.getElem?_map, hn]; rfl)
    have h2 := h.sum
    rw [map_set_]
    simp at this ⊢
    omega
  · intro n' j' L' e' h1 h2
    obtain ⟨L0, e0, k1, k2, k3, k4, k5, k6, k7⟩ := key n' j' L' e' h1 h2
    by_cases hnj : n' = n ∧ j' = j
    · rw [k6 hnj]; exact hx
    · rw [k7 hnj]; exact h.qty n' j' L0 e0 k1 k2
end
end Go.Proofs.Ytmhljdkhekjfmaa

/- Queues of orders: an order more at the end, an order gone: the plain law. No walk. -/
namespace Go.Proofs.Ytmhljdkhekjfmaa

theorem sl_mem {L : List Ent} {j k : Nat} (h : sl L j = (k : Int)) : ∃ e, L[j]? = some e ∧ e.slot = k := by
  unfold sl at h
  split at h
  · rename_i e he; exact ⟨e, he, by omega⟩
  · omega
theorem pv_mem {L : List Ent} {j k : Nat} (h : pv L j = (k : Int)) : ∃ j0 e, j = j0 + 1 ∧ L[j0]? = some e ∧ e.slot = k := by
  cases j with
  | zero => rw [pv_zero] at h; omega
  | succ j => rw [pv_succ] at h; obtain ⟨e, h1, h2⟩ := sl_mem h; exact ⟨j, e, rfl, h1, h2⟩
theorem sl_app (L : List Ent) (e : Ent) (k : Nat) : sl (L ++ [e]) k = if k < L.length then sl L k else if k = L.length then (e.slot : Int) else -1 := by
  by_cases h : k < L.length
  · rw [if_pos h]; unfold sl; rw [List.getElem?_append_left h]
  · rw [if_neg h]
    by_cases h2 : k = L.length
    · rw [if_pos h2, h2]; unfold sl; rw [List.getElem?_append_right (Nat.le_refl _)]; simp
    · rw [if_neg h2]; exact sl_none (by simp; omega)
theorem pv_app (L : List Ent) (e : Ent) (k : Nat) (hk : k ≤ L.length) : pv (L ++ [e]) k = pv L k := by
  cases k with
  | zero => rfl
  | succ k => rw [pv_succ, pv_succ, sl_app, if_pos (by omega)]
theorem sl_erase (L : List Ent) (j k : Nat) : sl (L.eraseIdx j) k = if k < j then sl L k else sl L (k + 1) := by
  unfold sl
  rw [List.getElem?_eraseIdx]
  by_cases h : k < j
  · rw [if_pos h, if_pos h]
  · rw [if_neg h, if_neg h]
theorem pv_erase (L : List Ent) (j k : Nat) : pv (L.eraseIdx j) k = if k ≤ j then pv L k else pv L (k + 1) := by
  cases k with
  | zero => simp [pv_zero]
  | succ k =>
    rw [pv_succ, sl_erase, pv_succ, pv_succ]
    by_cases h : k < j
    · rw [if_pos h, if_pos (by omega)]
    · rw [if_neg h, if_neg (by omega)]
theorem qtys_app (L : List Ent) (e : Ent) : qtys (L ++ [e]) = qtys L + e.qty := by
  unfold qtys
  rw [List.map_append, List.sum_append]
  simp
theorem qtys_erase (L : List Ent) (j : Nat) (e : Ent) (h : L[j]? = some e) : qtys (L.eraseIdx j) = qtys L - e.qty := by
  induction L generalizing j with
  | nil => simp at h
  | cons a L ih =>
    cases j with
    | zero => simp at h; subst h; simp [qtys]; omega
    | succ j => simp at h; have := ih j h; simp [qtys] at this ⊢; omega

theorem count_one (S S' : List Slt) (i : Nat) (b : Bool) (s0 : Slt) (hi : S[i]? = some s0) (hU : ∀ k, S'[k]?.map Slt.used = if k = i then some b else S[k]?.map Slt.used) :
    S'.countP (fun s => !s.used) + (if s0.used then 0 else 1) = S.countP (fun s => !s.used) + (if b then 0 else 1) := by
  have e : S'.map Slt.used = (S.map Slt.used).set i b := by
    apply List.ext_getElem?
    intro k
    rw [List.getElem?_map, hU, List.getElem?_set]
    have hl := lt_of_get hi
    by_cases hk : k = i
    · subst hk; simp [hl]
    · simp [hk, Ne.symm hk]
  have c : ∀ T : List Slt, T.countP (fun s => !s.used) = (T.map Slt.used).countP (fun b => !b) := by
    intro T; rw [List.countP_map]; rfl
  rw [c, c, e]
  have := countP_set (fun b : Bool => !b) (S.map Slt.used) i s0.used b (by rw [List.getElem?_map, hi]; rfl)
  cases b <;> cases hsu : s0.used <;> simp_all

section
variable {A : List (List Ent)} {S S' : List Slt} {Q : List Que} {F : Int}
theorem len_one (n : Nat) (L L' : List Ent) (hn : A[n]? = some L) : ((A.set n L').map List.length).sum + L.length = (A.map List.length).sum + L'.length := by
  rw [map_set_]
  exact sum_set _ n L.length L'.length (by rw [List.getElem?_map, hn]; rfl)

theorem Rep.push (h : Rep A S Q F) {n r : Nat} {L : List Ent} {s0 : Slt} (hn : A[n]? = some L) (hr : S[r]? = some s0) (hu : s0.used = false) (e : Ent) (he : e.slot = r) (hq : 1 ≤ e.qty ∧ e.qty ≤ 1000000) (hlen : S'.length = S.length)
    (hS : ∀ k, S'[k]? = if k = r then some (sltOf n (L ++ [e]) L.length e) else if (k : Int) = pv L L.length then S[k]?.map (fun s => s.setBk r) else S[k]?) :
    Rep (A.set n (L ++ [e])) S' (Q.set n (queOf (L ++ [e]))) (F - 1) := by
  have hnl := lt_of_get hn
  have key : ∀ (n' j' : Nat) (L' : List Ent) (e' : Ent), (A.set n (L ++ [e]))[n']? = some L' → L'[j']? = some e' →
      (n' = n ∧ j' = L.length ∧ e' = e ∧ L' = L ++ [e]) ∨ ∃ L0, A[n']? = some L0 ∧ L0[j']? = some e' ∧ ((n' = n ∧ L0 = L ∧ L' = L ++ [e]) ∨ (n' ≠ n ∧ L' = L0)) := by
    intro n' j' L' e' h1 h2
    rw [List.getElem?_set] at h1
    by_cases hnn : n = n'
    · subst hnn
      simp [hnl] at h1
      subst h1
      rw [List.getElem?_append] at h2
      by_cases hjj : j' < L.length
      · rw [if_pos hjj] at h2
        exact .inr ⟨L, hn, h2, .inl ⟨rfl, rfl, rfl⟩⟩
      · rw [if_neg hjj] at h2
        have h3 := lt_of_get h2
        have h4 : j' = L.length := by simp at h3; omega
        subst h4
        simp at h2
        exact .inl ⟨rfl, rfl, h2.symm, rfl⟩
    · simp [hnn] at h1
      exact .inr ⟨L', h1, h2, .inr ⟨fun h => hnn h.symm, rfl⟩⟩
  have notr : ∀ (n' j' : Nat) (L' : List Ent) (e' : Ent), A[n']? = some L' → L'[j']? = some e' → e'.slot ≠ r := by
    intro n' j' L' e' h1 h2 h3
    have := h.at_ n' j' L' e' h1 h2
    rw [h3, hr] at this
    injection this with this
    rw [this] at hu
    cases hu
  refine ⟨by rw [h.qs, map_set_], ?_, ?_, ?_, ?_, ?_, ?_, ?_⟩
  · intro n' j' L' e' h1 h2
    rcases key n' j' L' e' h1 h2 with ⟨rfl, rfl, rfl, rfl⟩ | ⟨L0, k1, k2, k3⟩
    · rw [hS, if_pos he]
    · rw [hS, if_neg (notr n' j' L0 e' k1 k2), h.at_ n' j' L0 e' k1 k2]
      rcases k3 with ⟨rfl, rfl, rfl⟩ | ⟨hnn, rfl⟩
      · by_cases hp : (e'.slot : Int) = pv L0 L0.length
        · rw [if_pos hp]
          obtain ⟨j0, e0, q1, q2, q3⟩ := pv_mem hp.symm
          have := (h.inj n' j0 n' j' L0 L0 e0 e' k1 q2 k1 k2 q3).2
          subst this
          unfold sltOf Slt.setBk
          rw [pv_app _ _ _ (by omega), sl_app, if_neg (by omega), if_pos (by omega), he]
          rfl
        · rw [if_neg hp]
          have hj := lt_of_get k2
          have : j' + 1 < L0.length := by
            rcases Nat.lt_or_ge (j' + 1) L0.length with hl | hl
            · exact hl
            · exfalso; apply hp
              rw [show L0.length = j' + 1 by omega, pv_succ, sl_some k2]
          unfold sltOf
          rw [pv_app _ _ _ (by omega), sl_app, if_pos this]
      · rw [if_neg]
        intro hp
        obtain ⟨j0, e0, q1, q2, q3⟩ := pv_mem hp.symm
        exact hnn (h.inj n' j' n j0 L' L e' e0 k1 k2 hn q2 q3.symm).1
  · intro n1 j1 n2 j2 L1 L2 e1 e2 a1 a2 b1 b2 hee
    rcases key n1 j1 L1 e1 a1 a2 with ⟨rfl, rfl, rfl, rfl⟩ | ⟨K1, k1, k2, _⟩
    · rcases key n2 j2 L2 e2 b1 b2 with ⟨rfl, rfl, rfl, rfl⟩ | ⟨K2, m1, m2, _⟩
      · exact ⟨rfl, rfl⟩
      · exact absurd (hee.symm.trans he) (notr _ _ _ _ m1 m2)
    · rcases key n2 j2 L2 e2 b1 b2 with ⟨rfl, rfl, rfl, rfl⟩ | ⟨K2, m1, m2, _⟩
      · exact absurd (hee.trans he) (notr _ _ _ _ k1 k2)
      · exact h.inj n1 j1 n2 j2 K1 K2 e1 e2 k1 k2 m1 m2 hee
  · intro i s hi hus
    by_cases hir : i = r
    · subst hir
      exact ⟨n, L.length, L ++ [e], e, by rw [List.getElem?_set_self hnl], by simp, he⟩
    · rw [hS, if_neg hir] at hi
      have : ∃ s0, S[i]? = some s0 ∧ s0.used = true := by
        split at hi
        · rw [Option.map_eq_some_iff] at hi
          obtain ⟨s1, h1, h2⟩ := hi
          exact ⟨s1, h1, by rw [← h2] at hus; exact hus⟩
        · exact ⟨s, hi, hus⟩
      obtain ⟨s1, h1, h2⟩ := this
      obtain ⟨n', j', L', e', k1, k2, k3⟩ := h.un i s1 h1 h2
      by_cases hnn : n = n'
      · subst hnn
        obtain rfl : L' = L := by rw [hn] at k1; injection k1 with k1; exact k1.symm
        exact ⟨n, j', L' ++ [e], e', by rw [List.getElem?_set_self hnl], by rw [List.getElem?_append_left (lt_of_get k2)]; exact k2, k3⟩
      · exact ⟨n', j', L', e', by rw [List.getElem?_set_ne hnn]; exact k1, k2, k3⟩
  · intro i s hi hus
    rw [hS] at hi
    split at hi
    · injection hi with hi; subst hi; cases hus
    · split at hi
      · rename_i hp
        obtain ⟨j0, e0, q1, q2, q3⟩ := pv_mem hp.symm
        rw [← q3, h.at_ n j0 L e0 hn q2] at hi
        injection hi with hi; subst hi; cases hus
      · exact h.fr i s hi hus
  · have := count_one S S' r true s0 hr (by
      intro k
      rw [hS]
      by_cases hk : k = r
      · simp [hk, sltOf]
      · simp only [if_neg hk]
        split
        · rw [Option.map_map]; rfl
        · rfl)
    rw [hu] at this
    rw [h.free]
    simp at this ⊢
    omega
  · have h1 := len_one n L (L ++ [e]) hn
    have h2 := h.sum
    rw [hlen]
    rw [List.length_append] at h1
    simp only [List.length_cons, List.length_nil] at h1
    omega
  · intro n' j' L' e' h1 h2
    rcases key n' j' L' e' h1 h2 with ⟨rfl, rfl, rfl, rfl⟩ | ⟨L0, k1, k2, _⟩
    · exact hq
    · exact h.qty _ _ _ _ k1 k2

theorem Rep.gone (h : Rep A S Q F) {n j : Nat} {L : List Ent} {e : Ent} (hn : A[n]? = some L) (hj : L[j]? = some e) (hlen : S'.length = S.length)
    (hS : ∀ k, S'[k]? = if k = e.slot then some Slt.none_ else if (k : Int) = pv L j then S[k]?.map (fun s => s.setBk (sl L (j + 1))) else if (k : Int) = sl L (j + 1) then S[k]?.map (fun s => s.setAh (pv L j)) else S[k]?) :
    Rep (A.set n (L.eraseIdx j)) S' (Q.set n (queOf (L.eraseIdx j))) (F + 1) := by
  have hnl := lt_of_get hn
  have hjl := lt_of_get hj
  have hse := h.at_ n j L e hn hj
  have key : ∀ (n' j' : Nat) (L' : List Ent) (e' : Ent), (A.set n (L.eraseIdx j))[n']? = some L' → L'[j']? = some e' →
      (n' = n ∧ L' = L.eraseIdx j ∧ ((j' < j ∧ L[j']? = some e') ∨ (j ≤ j' ∧ L[j' + 1]? = some e'))) ∨ (n' ≠ n ∧ A[n']? = some L') := by
    intro n' j' L' e' h1 h2
    rw [List.getElem?_set] at h1
    by_cases hnn : n = n'
    · subst hnn
      simp [hnl] at h1
      subst h1
      rw [List.getElem?_eraseIdx] at h2
      refine .inl ⟨rfl, rfl, ?_⟩
      split at h2
      · rename_i hjj; exact .inl ⟨hjj, h2⟩
      · rename_i hjj; exact .inr ⟨by omega, h2⟩
    · simp [hnn] at h1
      exact .inr ⟨fun h => hnn h.symm, h1⟩
  have old : ∀ (n' j' : Nat) (L' : List Ent) (e' : Ent), (A.set n (L.eraseIdx j))[n']? = some L' → L'[j']? = some e' → ∃ L0 j0, A[n']? = some L0 ∧ L0[j0]? = some e' ∧ (n' = n → j0 ≠ j) ∧ (n' = n → j0 = if j' < j then j' else j' + 1) ∧ (n' ≠ n → j0 = j') := by
    intro n' j' L' e' h1 h2
    rcases key n' j' L' e' h1 h2 with ⟨rfl, rfl, ⟨a, b⟩ | ⟨a, b⟩⟩ | ⟨a, b⟩
    · exact ⟨L, j', hn, b, fun _ => by omega, fun _ => by rw [if_pos a], fun h => absurd rfl h⟩
    · exact ⟨L, j' + 1, hn, b, fun _ => by omega, fun _ => by rw [if_neg (by omega)], fun h => absurd rfl h⟩
    · exact ⟨L', j', b, h2, fun h => absurd h a, fun h => absurd h a, fun _ => rfl⟩
  have note : ∀ (n' j' : Nat) (L' : List Ent) (e' : Ent), (A.set n (L.eraseIdx j))[n']? = some L' → L'[j']? = some e' → e'.slot ≠ e.slot := by
    intro n' j' L' e' h1 h2 h3
    obtain ⟨L0, j0, k1, k2, k3, _⟩ := old n' j' L' e' h1 h2
    have := h.inj n' j0 n j L0 L e' e k1 k2 hn hj h3
    exact k3 this.1 this.2
  refine ⟨by rw [h.qs, map_set_], ?_, ?_, ?_, ?_, ?_, ?_, ?_⟩
  · intro n' j' L' e' h1 h2
    rw [hS, if_neg (note n' j' L' e' h1 h2)]
    rcases key n' j' L' e' h1 h2 with ⟨rfl, rfl, k⟩ | ⟨a, b⟩
    · -- the same queue; j0: its old place
      have hj0 : ∃ j0, L[j0]? = some e' ∧ j0 ≠ j ∧ pv (L.eraseIdx j) j' = (if j0 = j + 1 then pv L j else pv L j0) ∧ sl (L.eraseIdx j) (j' + 1) = (if j0 + 1 = j then sl L (j + 1) else sl L (j0 + 1)) := by
        rcases k with ⟨a, b⟩ | ⟨a, b⟩
        · refine ⟨j', b, by omega, ?_, ?_⟩
          · rw [pv_erase, if_pos (by omega), if_neg (by omega)]
          · rw [sl_erase]
            by_cases hx : j' + 1 = j
            · rw [if_neg (by omega), if_pos hx, hx]
            · rw [if_pos (by omega), if_neg hx]
        · refine ⟨j' + 1, b, by omega, ?_, ?_⟩
          · rw [pv_erase]
            by_cases hx : j' = j
            · rw [if_pos (by omega), if_pos (by omega), hx]
            · rw [if_neg (by omega), if_neg (by omega)]
          · rw [sl_erase, if_neg (by omega), if_neg (by omega)]
      obtain ⟨j0, k2, kne, kp, ks⟩ := hj0
      rw [h.at_ n' j0 L e' hn k2]
      have i1 : (e'.slot : Int) = pv L j ↔ j0 + 1 = j := by
        constructor
        · intro hp
          obtain ⟨j1, e1, q1, q2, q3⟩ := pv_mem hp.symm
          have := (h.inj n' j1 n' j0 L L e1 e' hn q2 hn k2 q3).2
          omega
        · rintro rfl
          rw [pv_succ, sl_some k2]
      have i2 : (e'.slot : Int) = sl L (j + 1) ↔ j0 = j + 1 := by
        constructor
        · intro hp
          obtain ⟨e1, q2, q3⟩ := sl_mem hp.symm
          have := (h.inj n' (j + 1) n' j0 L L e1 e' hn q2 hn k2 q3).2
          omega
        · rintro rfl
          rw [sl_some k2]
      unfold sltOf
      rw [kp, ks]
      by_cases c1 : j0 + 1 = j
      · rw [if_pos (i1.2 c1), if_neg (by omega), if_pos c1]
        rfl
      · rw [if_neg (fun x => c1 (i1.1 x)), if_neg c1]
        by_cases c2 : j0 = j + 1
        · rw [if_pos (i2.2 c2), if_pos c2]
          rfl
        · rw [if_neg (fun x => c2 (i2.1 x)), if_neg c2]
    · rw [if_neg, if_neg, h.at_ n' j' L' e' b h2]
      · intro hp
        obtain ⟨e1, q2, q3⟩ := sl_mem hp.symm
        exact a (h.inj n' j' n (j + 1) L' L e' e1 b h2 hn q2 q3.symm).1
      · intro hp
        obtain ⟨j1, e1, q1, q2, q3⟩ := pv_mem hp.symm
        exact a (h.inj n' j' n j1 L' L e' e1 b h2 hn q2 q3.symm).1
  · intro n1 j1 n2 j2 L1 L2 e1 e2 a1 a2 b1 b2 hee
    obtain ⟨K1, i1, k1, k2, k3, k4, k5⟩ := old n1 j1 L1 e1 a1 a2
    obtain ⟨K2, i2, m1, m2, m3, m4, m5⟩ := old n2 j2 L2 e2 b1 b2
    obtain ⟨x, y⟩ := h.inj n1 i1 n2 i2 K1 K2 e1 e2 k1 k2 m1 m2 hee
    subst x
    refine ⟨rfl, ?_⟩
    by_cases hx : n1 = n
    · have k4 := k4 hx
      have m4 := m4 hx
      split at k4 <;> split at m4 <;> omega
    · have := k5 hx; have := m5 hx; omega
  · intro i s hi hus
    have hie : i ≠ e.slot := by
      intro hx
      rw [hS, if_pos hx] at hi
      injection hi with hi
      subst hi; cases hus
    rw [hS, if_neg hie] at hi
    have : ∃ s0, S[i]? = some s0 ∧ s0.used = true := by
      split at hi
      · rw [Option.map_eq_some_iff] at hi
        obtain ⟨s1, h1, h2⟩ := hi
        exact ⟨s1, h1, by rw [← h2] at hus; exact hus⟩
      · split at hi
        · rw [Option.map_eq_some_iff] at hi
          obtain ⟨s1, h1, h2⟩ := hi
          exact ⟨s1, h1, by rw [← h2] at hus; exact hus⟩
        · exact ⟨s, hi, hus⟩
    obtain ⟨s1, h1, h2⟩ := this
    obtain ⟨n', j', L', e', k1, k2, k3⟩ := h.un i s1 h1 h2
    by_cases hnn : n = n'
    · subst hnn
      obtain rfl : L' = L := by rw [hn] at k1; injection k1 with k1; exact k1.symm
      have hjj : j' ≠ j := by
        rintro rfl
        rw [hj] at k2
        injection k2 with k2
        exact hie (by rw [k2, k3])
      refine ⟨n, if j' < j then j' else j' - 1, L'.eraseIdx j, e', by rw [List.getElem?_set_self hnl], ?_, k3⟩
      rw [List.getElem?_eraseIdx]
      by_cases hx : j' < j
      · rw [if_pos hx, if_pos hx]; exact k2
      · rw [if_neg hx, if_neg (by omega), show j' - 1 + 1 = j' by omega]; exact k2
    · exact ⟨n', j', L', e', by rw [List.getElem?_set_ne hnn]; exact k1, k2, k3⟩
  · intro i s hi hus
    rw [hS] at hi
    split at hi
    · injection hi with hi; exact hi.symm
    · split at hi
      · rename_i hp
        obtain ⟨j0, e0, q1, q2, q3⟩ := pv_mem hp.symm
        rw [← q3, h.at_ n j0 L e0 hn q2] at hi
        injection hi with hi; subst hi; cases hus
      · split at hi
        · rename_i hp
          obtain ⟨e0, q2, q3⟩ := sl_mem hp.symm
          rw [← q3, h.at_ n (j + 1) L e0 hn q2] at hi
          injection hi with hi; subst hi; cases hus
        · exact h.fr i s hi hus
  · have := count_one S S' e.slot false _ hse (by
      intro k
      rw [hS]
      by_cases hk : k = e.slot
      · simp [hk, Slt.none_]
      · simp only [if_neg hk]
        split
        · rw [Option.map_map]; rfl
        · split
          · rw [Option.map_map]; rfl
          · rfl)
    rw [h.free]
    simp [sltOf] at this ⊢
    omega
  · have h1 := len_one n L (L.eraseIdx j) hn
    have h2 := h.sum
    rw [hlen]
    rw [List.length_eraseIdx, if_pos hjl] at h1
    omega
  · intro n' j' L' e' h1 h2
    obtain ⟨L0, j0, k1, k2, _⟩ := old n' j' L' e' h1 h2
    exact h.qty _ _ _ _ k1 k2
end
end Go.Proofs.Ytmhljdkhekjfmaa

/- The arena's calls over queues as lists: New, Open, Push. -/
namespace Go.Proofs.Ytmhljdkhekjfmaa
open Go.RowKit

/-! ### what the calls do to queues that are lists -/
def findL : List Ent → Nat → Nat → Option (Nat × Ent)
  | [], _, _ => none
  | e :: L, i, j => if e.slot = i then some (j, e) else findL L i (j + 1)
def findQ : List (List Ent) → Nat → Nat → Option (Nat × Nat × Ent)
  | [], _, _ => none
  | L :: A, i, n => match findL L i 0 with
    | some (j, e) => some (n, j, e)
    | none => findQ A i (n + 1)
/-- where a slot's order stands: its queue, its place, and it -/
def findA (A : List (List Ent)) (i : Int) : Option (Nat × Nat × Ent) := if i < 0 then none else findQ A i.toNat 0
theorem findL_some : ∀ (L : List Ent) (i j0 j : Nat) (e : Ent), findL L i j0 = some (j, e) → j0 ≤ j ∧ L[j - j0]? = some e ∧ e.slot = i := by
  intro L
  induction L with
  | nil => intro i j0 j e h; cases h
  | cons a L ih =>
    intro i j0 j e h
    unfold findL at h
    split at h
    · rename_i ha
      injection h with h; injection h with h1 h2
      subst h1; subst h2
      exact ⟨Nat.le_refl _, by simp, ha⟩
    · obtain ⟨h1, h2, h3⟩ := ih i (j0 + 1) j e h
      exact ⟨by omega, by rw [show j - j0 = j - (j0 + 1) + 1 by omega]; simpa using h2, h3⟩
theorem findL_none : ∀ (L : List Ent) (i j0 : Nat), findL L i j0 = none → ∀ (j : Nat) (e : Ent), L[j]? = some e → e.slot ≠ i := by
  intro L
  induction L with
  | nil => intro i j0 _ j e h; simp at h
  | cons a L ih =>
    intro i j0 h j e he
    unfold findL at h
    split at h
    · cases h
    · rename_i ha
      cases j with
      | zero => simp at he; subst he; exact ha
      | succ j => simp at he; exact ih i (j0 + 1) h j e he
theorem findQ_some : ∀ (A : List (List Ent)) (i n0 n j : Nat) (e : Ent), findQ A i n0 = some (n, j, e) → n0 ≤ n ∧ ∃ L, A[n - n0]? = some L ∧ L[j]? = some e ∧ e.slot = i := by
  intro A
  induction A with
  | nil => intro i n0 n j e h; cases h
  | cons L A ih =>
    intro i n0 n j e h
    unfold findQ at h
    split at h
    · rename_i j' e' hl
      injection h with h; injection h with h1 h2; injection h2 with h2 h3
      subst h1; subst h2; subst h3
      have := findL_some L i 0 _ _ hl
      exact ⟨Nat.le_refl _, L, by simp, this.2.1, this.2.2⟩
    · obtain ⟨h1, L', h2, h3⟩ := ih i (n0 + 1) n j e h
      exact ⟨by omega, L', by rw [show n - n0 = n - (n0 + 1) + 1 by omega]; simpa using h2, h3⟩
theorem findQ_none : ∀ (A : List (List Ent)) (i n0 : Nat), findQ A i n0 = none → ∀ (n j : Nat) (L : List Ent) (e : Ent), A[n]? = some L → L[j]? = some e → e.slot ≠ i := by
  intro A
  induction A with
  | nil => intro i n0 _ n j L e h; simp at h
  | cons L A ih =>
    intro i n0 h n j L' e hn he
    unfold findQ at h
    split at h
    · cases h
    · rename_i hl
      cases n with
      | zero => simp at hn; subst hn; exact findL_none L i 0 hl j e he
      | succ n => simp at hn; exact ih i (n0 + 1) h n j L' e hn he
theorem findA_some {A : List (List Ent)} {i : Int} {n j : Nat} {e : Ent} (h : findA A i = some (n, j, e)) : ∃ L, A[n]? = some L ∧ L[j]? = some e ∧ i = (e.slot : Int) := by
  unfold findA at h
  split at h
  · cases h
  · obtain ⟨_, L, h1, h2, h3⟩ := findQ_some A _ 0 n j e h
    exact ⟨L, by simpa using h1, h2, by omega⟩
theorem findA_none {A : List (List Ent)} {i : Int} (h : findA A i = none) : ∀ (n j : Nat) (L : List Ent) (e : Ent), A[n]? = some L → L[j]? = some e → i ≠ (e.slot : Int) := by
  intro n j L e h1 h2 h3
  subst h3
  unfold findA at h
  rw [if_neg (by omega)] at h
  exact findQ_none A _ 0 h n j L e h1 h2 (by simp)

def leastFree (room : Nat) (A : List (List Ent)) : Option Nat := (List.range room).find? (fun i => (findA A (i : Int)).isNone)
theorem least_some {room : Nat} {A : List (List Ent)} {r : Nat} (h : leastFree room A = some r) : r < room ∧ findA A r = none ∧ ∀ i, i < r → (findA A (i : Int)).isSome = true := by
  unfold leastFree at h
  have h1 := List.mem_of_find?_eq_some h
  have h2 := List.find?_some h
  rw [List.find?_eq_some_iff_append] at h
  obtain ⟨_, xs, ys, hab, hall⟩ := h
  refine ⟨by simpa using h1, by simpa using h2, fun i hi => ?_⟩
  have hlen : xs.length = r := by
    have h5 : (List.range room)[xs.length]? = some r := by rw [hab]; simp
    have h6 := lt_of_get h5
    rw [List.getElem?_range (by simpa using h6)] at h5
    injection h5
  have hi2 : i ∈ xs := by
    have h7 : (List.range room)[i]? = xs[i]? := by rw [hab, List.getElem?_append_left (by omega)]
    have h8 : i < room := by have := List.mem_range.1 h1; omega
    rw [List.getElem?_range h8] at h7
    exact List.mem_of_getElem? h7.symm
  have := hall i hi2
  simpa [Option.isSome_iff_ne_none] using this
theorem least_none {room : Nat} {A : List (List Ent)} (h : leastFree room A = none) : ∀ i, i < room → (findA A (i : Int)).isSome = true := by
  unfold leastFree at h
  rw [List.find?_eq_none] at h
  intro i hi
  have := h i (List.mem_range.2 hi)
  simpa [Option.isSome_iff_ne_none] using this

/-- a push: the queues behind it, the slot, the refusal -/
def pushA (room : Nat) (A : List (List Ent)) (n id qty : Int) (top : Bool) : List (List Ent) × Int × Int :=
  if n < 0 ∨ (A.length : Int) ≤ n then (A, 0, 26) else if qty < 1 ∨ 1000000 < qty then (A, 0, 24) else
    match leastFree room A with
    | none => (A, 0, 13)
    | some r => (A.set n.toNat (A.getD n.toNat [] ++ [⟨r, id, qty, top⟩]), r, 0)
def takeA (A : List (List Ent)) (i qty : Int) : List (List Ent) × Int :=
  match findA A i with
  | none => (A, 26)
  | some (n, j, e) => if qty < 1 ∨ e.qty < qty then (A, 24) else if e.qty = qty then (A.set n ((A.getD n []).eraseIdx j), 0) else (A.set n ((A.getD n []).set j { e with qty := e.qty - qty }), 0)
def topA (A : List (List Ent)) (i : Int) (t : Bool) : List (List Ent) × Int :=
  match findA A i with
  | none => (A, 26)
  | some (n, j, e) => (A.set n ((A.getD n []).set j { e with top := t }), 0)

/-- in this world the queues A lie in an arena of so much room -/
def LA (w : World) (pb sb : Nat) (qa : Option Addr) (room : Nat) (A : List (List Ent)) : Prop :=
  ∃ S qc Q F, ArenaC w pb sb S qa qc Q F ∧ Rep A S Q F ∧ S.length = room
/-- the blocks that an arena's call may turn -/
def LF (pb sb : Nat) (qa : Option Addr) (g : Nat) : Prop := g = pb ∨ g = sb ∨ qa = some ⟨g, 0, none⟩

section
variable {w : World} {pb sb : Nat} {qa : Option Addr} {room : Nat} {A : List (List Ent)}

theorem la_new (n : Nat) (w : World) (hn : 1 ≤ n) (hn2 : n ≤ 4096) :
    Calls Try.prog 24 #[.int .i64 n] w fun e w' => e = .returned (.tuple #[.pointer (some ⟨w.heap.size + 1, 0, none⟩), .int .i64 0]) ∧ LA w' (w.heap.size + 1) w.heap.size none n [] ∧ Keeps (fun _ => False) w w' :=
  (new_yes n w hn hn2).mono fun _ _ ⟨h1, h2, h3⟩ => ⟨h1, ⟨_, _, _, _, h2, Rep.new n, by simp⟩, h3⟩

theorem LA.keep {F : Nat → Prop} {w' : World} (h : LA w pb sb qa room A) (hk : Keeps F w w') (h1 : ¬ F pb) (h2 : ¬ F sb) (h3 : ∀ g, qa = some ⟨g, 0, none⟩ → ¬ F g) : LA w' pb sb qa room A := by
  obtain ⟨S, qc, Q, F', hc, hr, hl⟩ := h
  refine ⟨S, qc, Q, F', ⟨hc.hp.keeps hk h1, hc.hs.keeps hk h2, ⟨hc.hq.1, ?_⟩, hc.room, hc.many⟩, hr, hl⟩
  rcases hc.hq.2 with h2 | ⟨g, cap, cur, hv, hb, hh, r⟩
  · exact .inl h2
  · have hlt : g < w.heap.size := by
      rcases Nat.lt_or_ge g w.heap.size with hlt | hge
      · exact hlt
      · rw [Array.getElem?_eq_none hge] at hh; cases hh
    refine .inr ⟨g, cap, cur, hv, hb, (hk.block g hlt (h3 g ?_)).trans hh, r⟩
    injection hv with e1
theorem LA.below {w' : World} (h : LA w pb sb qa room A) (hb : Below w.heap.size w w') : LA w' pb sb qa room A :=
  h.keep (Below.keeps (F := fun _ => False) hb) (fun x => x) (fun x => x) (fun _ _ x => x)
theorem LA.lt (h : LA w pb sb qa room A) : pb < w.heap.size ∧ sb < w.heap.size ∧ ∀ g, qa = some ⟨g, 0, none⟩ → g < w.heap.size := by
  obtain ⟨S, qc, Q, F', hc, hr, hl⟩ := h
  refine ⟨hc.hp.lt, hc.hs.lt, fun g hg => ?_⟩
  rcases hc.hq.2 with ⟨h2, _⟩ | ⟨g', cap, cur, hv, hb, hh, r⟩
  · injection h2 with e1; rw [hg] at e1; cases e1
  · injection hv with e1
    rw [hg] at e1
    have : g = g' := by injection e1 with e1; injection e1
    subst this
    rcases Nat.lt_or_ge g w.heap.size with hlt | hge
    · exact hlt
    · rw [Array.getElem?_eq_none hge] at hh; cases hh

theorem LA.row (h : LA w pb sb qa room A) (hA : 0 < A.length) : ∃ qb, qa = some ⟨qb, 0, none⟩ := by
  obtain ⟨S, qc, Q, F', hc, hr, hl⟩ := h
  obtain ⟨qb, h1, _⟩ := hc.que 0 (by rw [hr.len]; exact hA)
  exact ⟨qb, h1⟩

theorem la_open (h : LA w pb sb qa room A) (hm : A.length ≤ 1000000) :
    Calls Try.prog 51 #[.pointer (some ⟨pb, 0, none⟩)] w fun e w' => e = .returned (.int .i64 A.length) ∧ (∃ qb, (qa = some ⟨qb, 0, none⟩ ∨ w.heap.size ≤ qb) ∧ LA w' pb sb (some ⟨qb, 0, none⟩) room (A ++ [[]])) ∧ Keeps (LF pb sb qa) w w' := by
  obtain ⟨S, qc, Q, F', hc, hr, hl⟩ := h
  have hlen := hr.len
  refine (open_any hc (by omega)).mono ?_
  rintro e w' ⟨rfl, ⟨qb, qc', h1, h2⟩, hk⟩
  refine ⟨by rw [hlen], ⟨qb, h1, ⟨S, qc', _, F', h2, hr.open_, hl⟩⟩, hk.more fun k hk => ?_⟩
  rcases hk with hk | hk
  · exact .inl hk
  · exact .inr (.inr hk)

theorem getD_of {α : Type} {A : List (List α)} {n : Nat} {L : List α} (h : A[n]? = some L) : A.getD n [] = L := by
  rw [List.getD_eq_getElem?_getD, h]; rfl
theorem get_of {α : Type} {A : List α} {n : Nat} {x : α} (h : A[n]? = some x) : ∃ hn : n < A.length, A[n]'hn = x := by
  have hl := lt_of_get h
  refine ⟨hl, ?_⟩
  rw [List.getElem?_eq_getElem hl] at h
  injection h
theorem Rep.used {S : List Slt} {Q : List Que} {F : Int} (h : Rep A S Q F) (i : Nat) (hi : i < S.length) : (S[i]'hi).used = (findA A (i : Int)).isSome := by
  cases hf : findA A (i : Int) with
  | none =>
    cases hu : (S[i]'hi).used with
    | false => rfl
    | true =>
      obtain ⟨n, j, L, e, h1, h2, h3⟩ := h.un i _ (List.getElem?_eq_getElem hi) hu
      exact absurd (by omega) (findA_none hf n j L e h1 h2)
  | some x =>
    obtain ⟨n, j, e⟩ := x
    obtain ⟨L, h1, h2, h3⟩ := findA_some hf
    have := h.at_ n j L e h1 h2
    have hie : i = e.slot := by omega
    subst hie
    rw [List.getElem?_eq_getElem hi] at this
    injection this with this
    rw [this]
    rfl

set_option maxHeartbeats 1000000 in
theorem la_push (h : LA w pb sb qa room A) (n id qty : Int) (top : Bool) :
    Calls Try.prog 29 #[.pointer (some ⟨pb, 0, none⟩), .int .i64 n, .int .i64 id, .int .i64 qty, .bool top] w fun e w' => e = .returned (.tuple #[.int .i64 (pushA room A n id qty top).2.1, .int .i64 (pushA room A n id qty top).2.2]) ∧ LA w' pb sb qa room (pushA room A n id qty top).1 ∧ Keeps (LF pb sb qa) w w' := by
  have h0 := h
  obtain ⟨S, qc, Q, F, hc, hr, hl⟩ := h
  have hlen := hr.len
  have hroom := hc.room
  have hFr := hr.room
  unfold pushA
  by_cases hn : n < 0 ∨ (A.length : Int) ≤ n
  · rw [if_pos hn]
    refine (push_none hc n id qty top (by omega)).mono ?_
    rintro e w' ⟨rfl, rfl⟩
    exact ⟨rfl, h0, Keeps.refl _ _⟩
  · rw [if_neg hn]
    by_cases hq : qty < 1 ∨ 1000000 < qty
    · rw [if_pos hq]
      refine (push_qty hc n id qty top (by omega) hq).mono ?_
      rintro e w' ⟨rfl, rfl⟩
      exact ⟨rfl, h0, Keeps.refl _ _⟩
    · rw [if_neg hq]
      obtain ⟨n, rfl⟩ := Int.eq_ofNat_of_zero_le (show 0 ≤ n by omega)
      have hnl : n < A.length := by omega
      obtain ⟨L, hL⟩ : ∃ L, A[n]? = some L := ⟨_, List.getElem?_eq_getElem hnl⟩
      cases hlf : leastFree room A with
      | none =>
        have hall := least_none hlf
        have hF : F = 0 := by
          rw [hr.free]
          have : S.countP (fun s => !s.used) = 0 := by
            rw [List.countP_eq_zero]
            intro s hs
            obtain ⟨i, hi, rfl⟩ := List.getElem_of_mem hs
            rw [hr.used i hi, hall i (by omega)]
            simp
          omega
        refine (push_full hc n id qty top (by omega) (by omega) (by omega) hF).mono ?_
        rintro e w' ⟨rfl, rfl⟩
        exact ⟨rfl, h0, Keeps.refl _ _⟩
      | some r =>
        obtain ⟨hr1, hr2, hr3⟩ := least_some hlf
        have hrl : r < S.length := by omega
        have hru : (S[r]'hrl).used = false := by rw [hr.used r hrl, hr2]; rfl
        have hfree : ∀ j (hj : j < S.length), j < r → (S[j]'hj).used = true := fun j hj hjr => by rw [hr.used j hj]; exact hr3 j hjr
        have hF : 1 ≤ F ∧ F ≤ 4096 := by
          refine ⟨?_, by omega⟩
          rw [hr.free]
          have : 0 < S.countP (fun s => !s.used) := by
            rw [List.countP_pos_iff]
            exact ⟨_, List.getElem_mem hrl, by rw [hru]; rfl⟩
          omega
        obtain ⟨hqn, hqe⟩ := get_of (getq hL hr.qs)
        have hqt := qtys_le L fun j e he => hr.qty n j L e hL he
        have hsh := hr.short hL
        obtain ⟨qb, rfl⟩ := h0.row (by omega)
        show Calls Try.prog 29 #[.pointer (some ⟨pb, 0, none⟩), .int .i64 (n : Int), .int .i64 id, .int .i64 qty, .bool top] w _
        simp only [Int.toNat_natCast, getD_of hL]
        have hsum : ∀ (x : Int), (queOf (L ++ [⟨r, id, qty, top⟩])) = ⟨if L.length = 0 then r else sl L 0, r, qtys L + qty, L.length + 1⟩ := by
          intro _
          unfold queOf
          rw [qtys_app, sl_app, show (L ++ [(⟨r, id, qty, top⟩ : Ent)]).length = L.length + 1 by simp, pv_succ, sl_app, if_neg (Nat.lt_irrefl _), if_pos rfl]
          by_cases h0 : L.length = 0
          · rw [if_neg (by omega), if_pos (by omega), if_pos h0]; simp
          · rw [if_pos (by omega), if_neg h0]; simp
        have kk : ∀ w', Keeps (fun g => g = pb ∨ g = sb ∨ g = qb) w w' → Keeps (LF pb sb (some ⟨qb, 0, none⟩)) w w' := fun w' hk => hk.more fun g hg => by
          rcases hg with hg | hg | hg
          · exact .inl hg
          · exact .inr (.inl hg)
          · exact .inr (.inr (by rw [hg]))
        by_cases hL0 : L.length = 0
        · have hpv : pv L L.length = -1 := by rw [hL0]; rfl
          refine (push_first hc n r _ hqn hqe id qty top (by omega) (by omega) hF hfree hrl hru hpv ?_ ?_).mono ?_
          · show 0 ≤ qtys L ∧ qtys L ≤ 4096000000; omega
          · show (0 : Int) ≤ L.length ∧ (L.length : Int) ≤ 4096; omega
          rintro e w' ⟨rfl, hc', hk⟩
          refine ⟨rfl, ⟨_, _, _, _, hc', ?_, by simp; exact hl⟩, kk _ hk⟩
          have := hr.push (S' := S.set r (Slt.mk_ r id qty top n (-1))) hL (List.getElem?_eq_getElem hrl) hru ⟨r, id, qty, top⟩ rfl ⟨(show 1 ≤ qty by omega), (show qty ≤ 1000000 by omega)⟩ (by simp) (by
            intro k
            rw [hpv, if_neg (by omega : ¬ ((k : Int) = -1)), List.getElem?_set]
            by_cases hk : k = r
            · subst hk
              rw [if_pos rfl, if_pos rfl, if_pos hrl]
              unfold sltOf Slt.mk_
              rw [pv_app _ _ _ (Nat.le_refl _), hpv, sl_app, if_neg (by omega), if_neg (by omega)]
            · rw [if_neg (fun x => hk x.symm), if_neg hk])
          rw [hsum 0, if_pos hL0] at this
          exact this
        · obtain ⟨l, hl1⟩ : ∃ l, L[L.length - 1]? = some l := ⟨_, List.getElem?_eq_getElem (by omega)⟩
          have hpv : pv L L.length = l.slot := by
            rw [show L.length = L.length - 1 + 1 by omega, pv_succ, sl_some hl1]
          have hls := hr.at_ n _ L l hL hl1
          obtain ⟨hll, hle⟩ := get_of hls
          have hlr : l.slot ≠ r := by
            intro hx
            have : (S[l.slot]'hll).used = true := by rw [hle]; rfl
            subst hx
            rw [hru] at this
            cases this
          refine (push_next hc n r l.slot _ hll hlr hqn hqe id qty top (by omega) (by omega) hF hfree hrl hru hpv ?_ ?_).mono ?_
          · show 0 ≤ qtys L ∧ qtys L ≤ 4096000000; omega
          · show (0 : Int) ≤ L.length ∧ (L.length : Int) ≤ 4096; omega
          rintro e w' ⟨rfl, hc', hk⟩
          refine ⟨rfl, ⟨_, _, _, _, hc', ?_, by simp; exact hl⟩, kk _ hk⟩
          have := hr.push (S' := (S.set r (Slt.mk_ r id qty top n l.slot)).set l.slot ((S[l.slot]'hll).setBk r)) hL (List.getElem?_eq_getElem hrl) hru ⟨r, id, qty, top⟩ rfl ⟨(show 1 ≤ qty by omega), (show qty ≤ 1000000 by omega)⟩ (by simp) (by
            intro k
            rw [hpv, List.getElem?_set, List.getElem?_set]
            by_cases hk : k = r
            · subst hk
              rw [if_neg hlr, if_pos rfl, if_pos rfl, if_pos hrl]
              unfold sltOf Slt.mk_
              rw [pv_app _ _ _ (Nat.le_refl _), hpv, sl_app, if_neg (by omega), if_neg (by omega)]
            · rw [if_neg hk]
              by_cases hkl : l.slot = k
              · subst hkl
                rw [if_pos rfl, if_pos rfl, if_pos (by simpa using hll), List.getElem?_eq_getElem hll]
                rfl
              · rw [if_neg hkl, if_neg (by omega : ¬ ((k : Int) = (l.slot : Int))), if_neg (fun x => hk x.symm)])
          rw [hsum 0, if_neg hL0] at this
          exact this
end
end Go.Proofs.Ytmhljdkhekjfmaa

/- The walk of level.Arena.List, of a queue that is there. -/
namespace Go.Proofs.Ytmhljdkhekjfmaa
open Go.RowKit

/-- the next slot's number; none: -1 -/
def nxt (L : List Nat) (j : Nat) : Int := match L[j]? with | some x => (x : Int) | none => -1
theorem nxt_some {L : List Nat} {j k : Nat} (hj : L[j]? = some k) : nxt L j = (k : Int) := by unfold nxt; rw [hj]
theorem nxt_none {L : List Nat} {j : Nat} (hj : L.length ≤ j) : nxt L j = -1 := by unfold nxt; rw [List.getElem?_eq_none hj]
/-- an order, as it is handed out -/
def Slt.ent (s : Slt) : List Value := [.int .i64 s.slot, .int .i64 s.id, .int .i64 s.qty, .bool s.top]
def entAt (S : List Slt) (i : Nat) : List Value := (S[i]?.getD Slt.none_).ent
theorem info_ent : (Try.prog.info? 80).map (fun i => (i.zero, i.size, i.bytes)) = some (some (.agg #[.int .i64 0, .int .i64 0, .int .i64 0, .bool false]), 4, 32) := by kernel_rfl
def sliceLen : Value → Nat
  | .slice _ n _ => n
  | _ => 0
/-- a row of its own comes back: so many things, laid flat -/
def RowBack (B : Nat) (t : TypeId) (size n : Nat) (xs : List Value) (w : World) (e : Ending) (w' : World) : Prop :=
  ∃ a c, e = .returned (.slice a n c) ∧ w'.ownsRow B t size (.slice a n c) n xs ∧ Below w.heap.size w w'
theorem own_form {w : World} {B : Nat} {t : TypeId} {size n : Nat} {v : Value} {xs : List Value} (h : w.ownsRow B t size v n xs) : ∃ a c, v = .slice a n c := by
  rcases h.2 with ⟨rfl, h0⟩ | ⟨g, cap, cur, rfl, _⟩
  · exact ⟨none, 0, by rw [h0]⟩
  · exact ⟨_, _, rfl⟩
theorem grown_below {w0 w w' : World} {r : Option Nat} (h : w.grownBy w' r) (hb : Below w0.heap.size w0 w) (hr : ∀ g, r = some g → w0.heap.size ≤ g) : Below w0.heap.size w0 w' :=
  ⟨h.os.trans hb.os, h.tape.trans hb.tape, h.output.trans hb.output, Nat.le_trans hb.size h.size, fun k hk => (h.block k (Nat.lt_of_lt_of_le hk hb.size) (fun e => by have := hr k e.symm; omega)).trans (hb.block k hk)⟩
theorem own_base {w : World} {B : Nat} {t : TypeId} {size n : Nat} {v : Value} {xs : List Value} (h : w.ownsRow B t size v n xs) : ∀ g, v.ownBlock = some g → B ≤ g := by
  intro g hg
  rcases h.2 with ⟨rfl, h0⟩ | ⟨g', cap, cur, rfl, hb, _⟩
  · cases hg
  · have : g' = g := by simpa [Value.ownBlock] using hg
    omega

section
variable {w : World} {pb sb qb : Nat} {S : List Slt} {qc : Nat} {Q : List Que} {F : Int}
set_option maxRecDepth 100000 in
set_option maxHeartbeats 1000000 in
theorem list_at (h : ArenaC w pb sb S (some ⟨qb, 0, none⟩) qc Q F) (n : Nat) (q : Que) (hn : Q[n]? = some q) (L : List Nat) (hL : L.length ≤ 4096) (hf : q.fst = nxt L 0)
    (hb : ∀ j k, L[j]? = some k → ∃ s, S[k]? = some s ∧ s.bk = nxt L (j + 1)) :
    Calls Try.prog 56 #[.pointer (some ⟨pb, 0, none⟩), .int .i64 n] w (RowBack w.heap.size 80 4 L.length (L.flatMap (entAt S)) w) := by
  have hnl := lt_of_get hn
  obtain ⟨_, hqe⟩ := get_of hn
  have hbi : Hid ((decide ((0 : Int) ≤ n) && decide ((n : Int) < (Q.length : Int))) = true) := Lib.hid (by simp; omega)
  have hn' : (n : Int) < (Q.length : Int) := by omega
  obtain ⟨i0, hi, hz0, hz1, hz2⟩ := info_parts info_ent
  have hr := h.room
  have hm := h.many
  have c1 := h.c1
  obtain ⟨q0, _, _, _⟩ := h.qf hnl hqe
  rw [hf] at q0
  have H := Lib.hid h
  have HB := Lib.hid hb
  clear h hb hf hn hqe
  go_enter Try.func56, Try.ntmps56
  go_wp2_with (go_at_call 48; refine (is_any H.out n).mono ?_; rintro e w1 ⟨rfl, rfl⟩; rw [hbi.out])
  go_loopw [5, 6] (fun v x w' => ∃ j : Nat, j ≤ L.length ∧ x = .int .i64 (nxt L j) ∧ (∃ a c, v = .slice a j c) ∧ w'.ownsRow w.heap.size 80 4 v j ((L.take j).flatMap (entAt S)) ∧ Below w.heap.size w w') (fun v _ _ => L.length - sliceLen v)
  case atStart => exact ⟨0, Nat.zero_le _, rfl, ⟨_, _, rfl⟩, World.ownsRow_nil _ _ _ _, Below.refl _ _⟩
  case round =>
    obtain ⟨j, hj, rfl, ⟨a, c, rfl⟩, hown, hbw⟩ := hrel
    have HR := Lib.hid (H.out.same hbw.block)
    have HBW := Lib.hid hbw
    have HOWN := Lib.hid hown
    clear hown hbw
    by_cases hjl : j < L.length
    · obtain ⟨k, hk⟩ : ∃ k, L[j]? = some k := ⟨_, List.getElem?_eq_getElem hjl⟩
      obtain ⟨s, hs, hbk⟩ := HB.out j k hk
      have hkl := lt_of_get hs
      have HX := Lib.hid (nxt_some hk)
      have HT : Hid ((L.take (j + 1)).flatMap (entAt S) = (L.take j).flatMap (entAt S) ++ s.ent) := Lib.hid (by
        rw [List.take_succ_eq_append_getElem hjl, List.flatMap_append]
        rw [List.getElem?_eq_getElem hjl] at hk
        injection hk with hk
        simp [hk, entAt, hs])
      obtain ⟨_, hse⟩ := get_of hs
      have HS := Lib.hid hse
      have HBK := Lib.hid hbk
      rw [HX.out]
      have k1 : ((k : Int) == -1) = false := by rw [beq_eq_false_iff_ne]; omega
      have k2 : ((k : Int) != -1) = true := by rw [bne_iff_ne]; omega
      have hk' : (k : Int) < (S.length : Int) := by omega
      have c0 := HR.out.c0
      obtain ⟨_, s1, s2, s3, s4, _, _, s7⟩ := HR.out.sf hkl HS.out
      rw [hbk] at s7
      have hsz := HBW.out.size
      clear hk hs hbk hse
      go_wp2_with (first
        | (at_builtin; refine wpList_append_own _ rfl (.tmp 29) (.tmp 38) _ rfl w.heap.size 80 i0 _ 4 32 Try.underlying120 hi hz0 hz1 hz2 rfl (by omega) (.slice a j c) j ((L.take j).flatMap (entAt S)) rfl (HOWN.out.alloc _) ⟨wr.heap.size, 0, none⟩ 1 1 s.ent rfl rfl ?c1 ?c2 ?c3 ?c4 ?c5 ?_))
      case c1 =>
        intro i u hi4
        have := (Blk.new wr 80 s.ent.toArray).cell i
        rw [List.getElem?_toArray, hi4] at this
        have e : (⟨wr.heap.size, 0, none⟩ : Addr).add i = ⟨wr.heap.size, i, none⟩ := by unfold Addr.add; split <;> simp_all
        rw [e]
        exact this
      case c2 =>
        intro u hu
        simp only [Slt.ent, List.mem_cons, List.not_mem_nil, or_false] at hu
        rcases hu with rfl | rfl | rfl | rfl <;> rfl
      case c3 => unfold maxLen; omega
      case c4 => omega
      case c5 => simp; omega
      intro v' w2 hown2 hg _
      obtain ⟨a2, c2, rfl⟩ := own_form hown2
      have hb2 : Below w.heap.size w w2 := grown_below hg (HBW.out.alloc HBW.out.size _) (own_base HOWN.out)
      rw [← HT.out] at hown2
      have HO2 := Lib.hid hown2
      have HB2 := Lib.hid hb2
      have HR2 := Lib.hid (H.out.same hb2.block)
      have c02 := HR2.out.c0
      obtain ⟨_, _, _, _, _, _, _, s72⟩ := HR2.out.sf hkl HS.out
      rw [HBK.out] at s72
      clear hown2 hg hb2 c0 s1 s2 s3 s4 s7 hi hz0 hz1 hz2
      go_wp2_with fail
      go_roundw
      case rel => exact ⟨j + 1, by omega, rfl, ⟨_, _, rfl⟩, HO2.out, HB2.out⟩
      case measure => show L.length - (j + 1) < L.length - j; omega
    · obtain rfl : j = L.length := by omega
      rw [nxt_none (Nat.le_refl _)]
      go_wp2_with fail
      go_ret
      exact ⟨a, c, rfl, by have := HOWN.out; rwa [List.take_length] at this, HBW.out⟩
end
end Go.Proofs.Ytmhljdkhekjfmaa

/- The arena's calls over queues as lists: Take, Top, List, Get, Total, Count, Free. -/
namespace Go.Proofs.Ytmhljdkhekjfmaa
open Go.RowKit

def Ent.cells (e : Ent) : List Value := [.int .i64 e.slot, .int .i64 e.id, .int .i64 e.qty, .bool e.top]
def Ent.agg (e : Ent) : Value := .agg #[.int .i64 e.slot, .int .i64 e.id, .int .i64 e.qty, .bool e.top]

theorem flatMap_same {α β : Type} {f g : α → List β} : ∀ {L : List α}, (∀ x ∈ L, f x = g x) → L.flatMap f = L.flatMap g := by
  intro L
  induction L with
  | nil => intro _; rfl
  | cons a L ih => intro h; rw [List.flatMap_cons, List.flatMap_cons, h a List.mem_cons_self, ih fun x hx => h x (List.mem_cons_of_mem _ hx)]

section
variable {w : World} {pb sb : Nat} {qa : Option Addr} {room : Nat} {A : List (List Ent)}

def totA (A : List (List Ent)) (n : Int) : Int := if n < 0 then 0 else qtys (A.getD n.toNat [])
def cntA (A : List (List Ent)) (n : Int) : Int := if n < 0 then 0 else (A.getD n.toNat []).length
theorem getD_none {α : Type} {A : List (List α)} {n : Nat} (h : A.length ≤ n) : A.getD n [] = [] := by
  rw [List.getD_eq_getElem?_getD, List.getElem?_eq_none h]; rfl
theorem la_total (h : LA w pb sb qa room A) (n : Int) :
    Calls Try.prog 45 #[.pointer (some ⟨pb, 0, none⟩), .int .i64 n] w fun e w' => e = .returned (.int .i64 (totA A n)) ∧ w = w' := by
  obtain ⟨S, qc, Q, F, hc, hr, hl⟩ := h
  have hlen := hr.len
  by_cases hn : n < 0 ∨ (A.length : Int) ≤ n
  · refine (total_no hc n (by omega)).mono ?_
    rintro e w' ⟨rfl, rfl⟩
    refine ⟨?_, rfl⟩
    unfold totA
    rcases hn with hn | hn
    · rw [if_pos hn]
    · rw [if_neg (by omega), getD_none (by omega)]; rfl
  · obtain ⟨n, rfl⟩ := Int.eq_ofNat_of_zero_le (show 0 ≤ n by omega)
    obtain ⟨L, hL⟩ : ∃ L, A[n]? = some L := ⟨_, List.getElem?_eq_getElem (by omega)⟩
    obtain ⟨hqn, hqe⟩ := get_of (getq hL hr.qs)
    refine (total_at hc n hqn).mono ?_
    rintro e w' ⟨rfl, rfl⟩
    refine ⟨?_, rfl⟩
    unfold totA
    rw [if_neg (by omega), hqe, Int.toNat_natCast, getD_of hL]
    rfl
theorem la_count (h : LA w pb sb qa room A) (n : Int) :
    Calls Try.prog 46 #[.pointer (some ⟨pb, 0, none⟩), .int .i64 n] w fun e w' => e = .returned (.int .i64 (cntA A n)) ∧ w = w' := by
  obtain ⟨S, qc, Q, F, hc, hr, hl⟩ := h
  have hlen := hr.len
  by_cases hn : n < 0 ∨ (A.length : Int) ≤ n
  · refine (count_no hc n (by omega)).mono ?_
    rintro e w' ⟨rfl, rfl⟩
    refine ⟨?_, rfl⟩
    unfold cntA
    rcases hn with hn | hn
    · rw [if_pos hn]
    · rw [if_neg (by omega), getD_none (by omega)]; rfl
  · obtain ⟨n, rfl⟩ := Int.eq_ofNat_of_zero_le (show 0 ≤ n by omega)
    obtain ⟨L, hL⟩ : ∃ L, A[n]? = some L := ⟨_, List.getElem?_eq_getElem (by omega)⟩
    obtain ⟨hqn, hqe⟩ := get_of (getq hL hr.qs)
    refine (count_at hc n hqn).mono ?_
    rintro e w' ⟨rfl, rfl⟩
    refine ⟨?_, rfl⟩
    unfold cntA
    rw [if_neg (by omega), hqe, Int.toNat_natCast, getD_of hL]
    rfl

theorem findPtr {S : List Slt} {Q : List Que} {F : Int} (hr : Rep A S Q F) (i : Int) (hf : findA A i = none) : slotPtr sb S i = .pointer none := by
  by_cases h0 : i < 0
  · exact slotPtr_no (.inl h0)
  · obtain ⟨i, rfl⟩ := Int.eq_ofNat_of_zero_le (show 0 ≤ i by omega)
    by_cases hi : i < S.length
    · show slotPtr sb S (i : Int) = _
      rw [slotPtr_at hi, hr.used i hi]
      have hf' : findA A (i : Int) = none := hf
      rw [hf']
      rfl
    · exact slotPtr_no (.inr (by simp; omega))

theorem getA_facts {S : List Slt} {Q : List Que} {F : Int} (hr : Rep A S Q F) {i : Int} {n j : Nat} {e : Ent} (hf : findA A i = some (n, j, e)) :
    ∃ L, A[n]? = some L ∧ L[j]? = some e ∧ i = (e.slot : Int) ∧ (∃ hi : e.slot < S.length, S[e.slot]'hi = sltOf n L j e) ∧ (∃ hn : n < Q.length, Q[n]'hn = queOf L) := by
  obtain ⟨L, h1, h2, h3⟩ := findA_some hf
  exact ⟨L, h1, h2, h3, get_of (hr.at_ n j L e h1 h2), get_of (getq h1 hr.qs)⟩

def entOf (A : List (List Ent)) (i : Int) : Value × Bool := match findA A i with
  | some (_, _, e) => (e.agg, true)
  | none => (.agg #[.int .i64 0, .int .i64 0, .int .i64 0, .bool false], false)
theorem la_get (h : LA w pb sb qa room A) (i : Int) :
    Calls Try.prog 32 #[.pointer (some ⟨pb, 0, none⟩), .int .i64 i] w fun e w' => e = .returned (.tuple #[(entOf A i).1, .bool (entOf A i).2]) ∧ Below w.heap.size w w' := by
  obtain ⟨S, qc, Q, F, hc, hr, hl⟩ := h
  unfold entOf
  cases hf : findA A i with
  | none => exact get_no hc i (findPtr hr i hf)
  | some x =>
    obtain ⟨n, j, e⟩ := x
    obtain ⟨L, h1, h2, rfl, ⟨hi, hie⟩, _⟩ := getA_facts hr hf
    exact get_yes hc e.slot hi _ hie rfl

theorem LF_of (pb sb qb : Nat) : ∀ g, (g = pb ∨ g = sb ∨ g = qb) → LF pb sb (some ⟨qb, 0, none⟩) g := by
  rintro g (h | h | h)
  · exact .inl h
  · exact .inr (.inl h)
  · exact .inr (.inr (by rw [h]))

theorem la_top (h : LA w pb sb qa room A) (i : Int) (t : Bool) :
    Calls Try.prog 47 #[.pointer (some ⟨pb, 0, none⟩), .int .i64 i, .bool t] w fun e w' => e = .returned (.int .i64 (topA A i t).2) ∧ LA w' pb sb qa room (topA A i t).1 ∧ Keeps (LF pb sb qa) w w' := by
  have h0 := h
  obtain ⟨S, qc, Q, F, hc, hr, hl⟩ := h
  unfold topA
  cases hf : findA A i with
  | none =>
    refine (top_no hc i t (findPtr hr i hf)).mono ?_
    rintro e w' ⟨rfl, rfl⟩
    exact ⟨rfl, h0, Keeps.refl _ _⟩
  | some x =>
    obtain ⟨n, j, e⟩ := x
    obtain ⟨L, h1, h2, rfl, ⟨hi, hie⟩, ⟨hn, hqe⟩⟩ := getA_facts hr hf
    refine (top_yes hc e.slot t hi (by rw [hie]; rfl)).mono ?_
    rintro e' w' ⟨rfl, hc', hk⟩
    refine ⟨rfl, ⟨_, _, _, _, hc', ?_, by simp; exact hl⟩, hk.more fun g hg => .inr (.inl hg)⟩
    have := hr.turn h1 h2 e.qty t (hr.qty n j L e h1 h2)
    rw [show ({ queOf L with tot := qtys L + e.qty - e.qty } : Que) = Q[n]'hn by rw [hqe, Int.add_sub_cancel]; rfl, List.set_getElem_self] at this
    simp only [getD_of h1]
    rw [hie]
    exact this

/-- the slots behind an order's going -/
def slotsGone (S : List Slt) (_ : Nat) (L : List Ent) (j : Nat) (e : Ent) (S' : List Slt) : Prop :=
  S'.length = S.length ∧ ∀ k, S'[k]? = if k = e.slot then some Slt.none_ else if (k : Int) = pv L j then S[k]?.map (fun s => s.setBk (sl L (j + 1))) else if (k : Int) = sl L (j + 1) then S[k]?.map (fun s => s.setAh (pv L j)) else S[k]?
theorem pv_ge (L : List Ent) (j : Nat) : -1 ≤ pv L j := by
  unfold pv; split
  · omega
  · exact sl_ge _ _
theorem que_gone (L : List Ent) (j : Nat) (e : Ent) (hj : L[j]? = some e) : queOf (L.eraseIdx j) = ⟨if j = 0 then sl L 1 else sl L 0, if j + 1 = L.length then pv L j else pv L L.length, qtys L - e.qty, (L.length : Int) - 1⟩ := by
  have hjl := lt_of_get hj
  unfold queOf
  rw [sl_erase, pv_erase, qtys_erase L j e hj, List.length_eraseIdx, if_pos hjl]
  congr 1
  · by_cases h : j = 0
    · rw [if_pos h, if_neg (by omega)]
    · rw [if_neg h, if_pos (by omega)]
  · by_cases h : j + 1 = L.length
    · rw [if_pos h, if_pos (by omega), show L.length - 1 = j by omega]
    · rw [if_neg h, if_neg (by omega), show L.length - 1 + 1 = L.length by omega]
  · omega

/-- an order goes: the code's drop, over a slot whose quantity is gone already -/
theorem drop_la {qb : Nat} {S : List Slt} {qc : Nat} {Q : List Que} {F : Int} (hc0 : ArenaC w pb sb S (some ⟨qb, 0, none⟩) qc Q F) (hr : Rep A S Q F) {n j : Nat} {L : List Ent} {e : Ent} (h1 : A[n]? = some L) (h2 : L[j]? = some e) :
    ∃ S', slotsGone S n L j e S' ∧ ∀ w3, ArenaC w3 pb sb (S.set e.slot ((sltOf n L j e).withQty 0)) (some ⟨qb, 0, none⟩) qc (Q.set n { queOf L with tot := qtys L - e.qty }) F →
      Calls Try.prog 54 #[.pointer (some ⟨pb, 0, none⟩), .pointer (some ⟨sb, e.slot * 8, none⟩)] w3 fun x w' => x = .returned (.tuple #[]) ∧ ArenaC w' pb sb S' (some ⟨qb, 0, none⟩) qc (Q.set n (queOf (L.eraseIdx j))) (F + 1) ∧ Keeps (fun g => g = pb ∨ g = sb ∨ g = qb) w3 w' := by
  have hroom := hc0.room
  obtain ⟨hi, hie⟩ := get_of (hr.at_ n j L e h1 h2)
  obtain ⟨hn, hqe⟩ := get_of (getq h1 hr.qs)
  have hsh := hr.short h1
  have hjl := lt_of_get h2
  have hF := hr.room
  have hF2 : F + 1 ≤ S.length := by
    have h3 := le_sum (A.map List.length) n L.length (by rw [List.getElem?_map, h1]; rfl)
    have h4 := hr.sum
    omega
  have hi' : e.slot < (S.set e.slot ((sltOf n L j e).withQty 0)).length := by simpa using hi
  have hn' : n < (Q.set n { queOf L with tot := qtys L - e.qty }).length := by simpa using hn
  have g1 : (S.set e.slot ((sltOf n L j e).withQty 0))[e.slot]'hi' = (sltOf n L j e).withQty 0 := by rw [List.getElem_set_self]
  have g2 : (Q.set n { queOf L with tot := qtys L - e.qty })[n]'hn' = { queOf L with tot := qtys L - e.qty } := by rw [List.getElem_set_self]
  have cnt : (1 : Int) ≤ L.length ∧ (L.length : Int) ≤ 4096 := by omega
  have hqg := que_gone L j e h2
  -- a neighbour's slot
  have nb : ∀ (k : Nat) (e' : Ent), L[k]? = some e' → k ≠ j → ∃ hk : e'.slot < S.length, e'.slot ≠ e.slot ∧ S[e'.slot]'hk = sltOf n L k e' := by
    intro k e' hk hkj
    obtain ⟨a, b⟩ := get_of (hr.at_ n k L e' h1 hk)
    exact ⟨a, fun h => hkj (hr.inj n k n j L L e' e h1 hk h1 h2 h).2, b⟩
  rcases Nat.eq_zero_or_pos j with hj0 | hj0
  · have hpv : pv L j = -1 := by rw [hj0]; rfl
    by_cases hjn : j + 1 = L.length
    · -- alone
      have hsl : sl L (j + 1) = -1 := sl_none (by omega)
      refine ⟨S.set e.slot Slt.none_, ⟨by simp, ?_⟩, fun w3 hc3 => (drop_one hc3 e.slot n _ _ hi' hn' g1 g2 rfl hpv hsl cnt (by omega)).mono ?_⟩
      · intro k
        rw [hpv, hsl, if_neg (show ¬ ((k : Int) = -1) by omega), if_neg (show ¬ ((k : Int) = -1) by omega), List.getElem?_set]
        by_cases hk : k = e.slot
        · rw [if_pos hk.symm, if_pos hk, if_pos hi]
        · rw [if_neg (fun x => hk x.symm), if_neg hk]
      · rintro x w' ⟨rfl, hc', hk⟩
        refine ⟨rfl, ?_, hk⟩
        rw [List.set_set, List.set_set] at hc'
        rw [hqg, if_pos hj0, if_pos hjn, hpv, show (1 : Nat) = j + 1 by omega, hsl]
        exact hc'
    · -- the first
      obtain ⟨b, hb⟩ : ∃ b, L[j + 1]? = some b := ⟨_, List.getElem?_eq_getElem (by omega)⟩
      have hsl : sl L (j + 1) = b.slot := sl_some hb
      obtain ⟨hbl, hbe, hbs⟩ := nb (j + 1) b hb (by omega)
      have hbl' : b.slot < (S.set e.slot ((sltOf n L j e).withQty 0)).length := by simpa using hbl
      have g3 : (S.set e.slot ((sltOf n L j e).withQty 0))[b.slot]'hbl' = S[b.slot]'hbl := by rw [List.getElem_set_ne (fun x => hbe x.symm)]
      refine ⟨(S.set b.slot ((S[b.slot]'hbl).setAh (-1))).set e.slot Slt.none_, ⟨by simp, ?_⟩, fun w3 hc3 => (drop_first hc3 e.slot n b.slot _ _ hi' hn' hbl' hbe g1 g2 rfl hpv hsl cnt (by omega)).mono ?_⟩
      · intro k
        rw [hpv, hsl, if_neg (show ¬ ((k : Int) = -1) by omega), List.getElem?_set, List.getElem?_set]
        by_cases hk : k = e.slot
        · rw [if_pos hk.symm, if_pos hk, if_pos (by simpa using hi)]
        · rw [if_neg (fun x => hk x.symm), if_neg hk]
          by_cases hkb : k = b.slot
          · subst hkb
            rw [if_pos rfl, if_pos rfl, if_pos hbl, List.getElem?_eq_getElem hbl]
            rfl
          · rw [if_neg (fun x => hkb x.symm), if_neg (by omega)]
      · rintro x w' ⟨rfl, hc', hk⟩
        refine ⟨rfl, ?_, hk⟩
        rw [g3, List.set_set] at hc'
        rw [hqg, if_pos hj0, if_neg hjn, show (1 : Nat) = j + 1 by omega, hsl]
        have e1 : ((S.set e.slot ((sltOf n L j e).withQty 0)).set b.slot ((S[b.slot]'hbl).setAh (-1))).set e.slot Slt.none_ = (S.set b.slot ((S[b.slot]'hbl).setAh (-1))).set e.slot Slt.none_ := by
          rw [List.set_comm _ _ (fun x => hbe x.symm), List.set_set]
        rw [e1] at hc'
        exact hc'
  · obtain ⟨a, ha⟩ : ∃ a, L[j - 1]? = some a := ⟨_, List.getElem?_eq_getElem (by omega)⟩
    have hpv : pv L j = a.slot := by rw [show j = j - 1 + 1 by omega, pv_succ, sl_some ha]
    obtain ⟨hal, hae, has⟩ := nb (j - 1) a ha (by omega)
    have hal' : a.slot < (S.set e.slot ((sltOf n L j e).withQty 0)).length := by simpa using hal
    have g3 : (S.set e.slot ((sltOf n L j e).withQty 0))[a.slot]'hal' = S[a.slot]'hal := by rw [List.getElem_set_ne (fun x => hae x.symm)]
    by_cases hjn : j + 1 = L.length
    · -- the last
      have hsl : sl L (j + 1) = -1 := sl_none (by omega)
      refine ⟨(S.set a.slot ((S[a.slot]'hal).setBk (-1))).set e.slot Slt.none_, ⟨by simp, ?_⟩, fun w3 hc3 => (drop_last hc3 e.slot n a.slot _ _ hi' hn' hal' hae g1 g2 rfl hpv hsl cnt (by omega)).mono ?_⟩
      · intro k
        rw [hpv, hsl, if_neg (show ¬ ((k : Int) = -1) by omega), List.getElem?_set, List.getElem?_set]
        by_cases hk : k = e.slot
        · rw [if_pos hk.symm, if_pos hk, if_pos (by simpa using hi)]
        · rw [if_neg (fun x => hk x.symm), if_neg hk]
          by_cases hkb : k = a.slot
          · subst hkb
            rw [if_pos rfl, if_pos rfl, if_pos hal, List.getElem?_eq_getElem hal]
            rfl
          · rw [if_neg (fun x => hkb x.symm), if_neg (by omega)]
      · rintro x w' ⟨rfl, hc', hk⟩
        refine ⟨rfl, ?_, hk⟩
        rw [g3, List.set_set] at hc'
        rw [hqg, if_neg (by omega), if_pos hjn, hpv]
        have e1 : ((S.set e.slot ((sltOf n L j e).withQty 0)).set a.slot ((S[a.slot]'hal).setBk (-1))).set e.slot Slt.none_ = (S.set a.slot ((S[a.slot]'hal).setBk (-1))).set e.slot Slt.none_ := by
          rw [List.set_comm _ _ (fun x => hae x.symm), List.set_set]
        rw [e1] at hc'
        exact hc'
    · -- in the middle
      obtain ⟨b, hb⟩ : ∃ b, L[j + 1]? = some b := ⟨_, List.getElem?_eq_getElem (by omega)⟩
      have hsl : sl L (j + 1) = b.slot := sl_some hb
      obtain ⟨hbl, hbe, hbs⟩ := nb (j + 1) b hb (by omega)
      have hab : a.slot ≠ b.slot := fun h => by have := (hr.inj n (j - 1) n (j + 1) L L a b h1 ha h1 hb h).2; omega
      have hbl' : b.slot < (S.set e.slot ((sltOf n L j e).withQty 0)).length := by simpa using hbl
      have g4 : (S.set e.slot ((sltOf n L j e).withQty 0))[b.slot]'hbl' = S[b.slot]'hbl := by rw [List.getElem_set_ne (fun x => hbe x.symm)]
      refine ⟨((S.set a.slot ((S[a.slot]'hal).setBk b.slot)).set b.slot ((S[b.slot]'hbl).setAh a.slot)).set e.slot Slt.none_, ⟨by simp, ?_⟩, fun w3 hc3 => (drop_mid hc3 e.slot n a.slot b.slot _ _ hi' hn' hal' hae hbl' hbe hab g1 g2 rfl hpv hsl cnt (by omega)).mono ?_⟩
      · intro k
        rw [hpv, hsl, List.getElem?_set, List.getElem?_set, List.getElem?_set]
        by_cases hk : k = e.slot
        · rw [if_pos hk.symm, if_pos hk, if_pos (by simpa using hi)]
        · rw [if_neg (fun x => hk x.symm), if_neg hk]
          by_cases hkb : k = b.slot
          · subst hkb
            rw [if_pos rfl, if_pos (by simpa using hbl), if_neg (by omega), if_pos rfl, List.getElem?_eq_getElem hbl]
            rfl
          · rw [if_neg (fun x => hkb x.symm)]
            by_cases hka : k = a.slot
            · subst hka
              rw [if_pos rfl, if_pos rfl, if_pos hal, List.getElem?_eq_getElem hal]
              rfl
            · rw [if_neg (fun x => hka x.symm), if_neg (by omega), if_neg (by omega)]
      · rintro x w' ⟨rfl, hc', hk⟩
        refine ⟨rfl, ?_, hk⟩
        rw [g3, g4, List.set_set] at hc'
        rw [hqg, if_neg (by omega), if_neg hjn]
        have e1 : (((S.set e.slot ((sltOf n L j e).withQty 0)).set a.slot ((S[a.slot]'hal).setBk b.slot)).set b.slot ((S[b.slot]'hbl).setAh a.slot)).set e.slot Slt.none_ = ((S.set a.slot ((S[a.slot]'hal).setBk b.slot)).set b.slot ((S[b.slot]'hbl).setAh a.slot)).set e.slot Slt.none_ := by
          rw [List.set_comm _ _ (fun x => hae x.symm), List.set_comm _ _ (fun x => hbe x.symm), List.set_set]
        rw [e1] at hc'
        exact hc'

theorem la_take (h : LA w pb sb qa room A) (i qty : Int) :
    Calls Try.prog 31 #[.pointer (some ⟨pb, 0, none⟩), .int .i64 i, .int .i64 qty] w fun e w' => e = .returned (.int .i64 (takeA A i qty).2) ∧ LA w' pb sb qa room (takeA A i qty).1 ∧ Keeps (LF pb sb qa) w w' := by
  have h0 := h
  obtain ⟨S, qc, Q, F, hc, hr, hl⟩ := h
  unfold takeA
  cases hf : findA A i with
  | none =>
    refine (take_no hc i qty (findPtr hr i hf)).mono ?_
    rintro e w' ⟨rfl, rfl⟩
    exact ⟨rfl, h0, Keeps.refl _ _⟩
  | some x =>
    obtain ⟨n, j, e⟩ := x
    obtain ⟨L, h1, h2, rfl, ⟨hi, hie⟩, ⟨hn, hqe⟩⟩ := getA_facts hr hf
    obtain ⟨qb, rfl⟩ := h0.row (by have := lt_of_get h1; omega)
    have hq := hr.qty n j L e h1 h2
    have hqt := qtys_le L fun j e he => hr.qty n j L e h1 he
    have hqm := qtys_mem L (fun j e he => hr.qty n j L e h1 he) j e h2
    have hsh := hr.short h1
    have hroom := hc.room
    simp only [getD_of h1]
    by_cases hbad : qty < 1 ∨ e.qty < qty
    · rw [if_pos hbad]
      refine (take_qty hc e.slot qty hi _ hie rfl hbad).mono ?_
      rintro e' w' ⟨rfl, rfl⟩
      exact ⟨rfl, h0, Keeps.refl _ _⟩
    · rw [if_neg hbad]
      by_cases hall : e.qty = qty
      · rw [if_pos hall]
        subst hall
        obtain ⟨S', hS', hd⟩ := drop_la hc hr h1 h2
        refine (take_all hc e.slot n _ _ hi hn hie hqe rfl rfl (by show 1 ≤ e.qty; omega) (by show e.qty ≤ 1000000; omega) hd ⟨hqm, (by show qtys L ≤ 4096000000; omega)⟩).mono ?_
        rintro e' w' ⟨rfl, hc', hk⟩
        refine ⟨rfl, ⟨_, _, _, _, hc', hr.gone h1 h2 hS'.1 hS'.2, by rw [hS'.1]; exact hl⟩, hk.more (LF_of _ _ _)⟩
      · rw [if_neg hall]
        refine (take_less hc e.slot n _ _ hi hn hie hqe rfl rfl qty (by omega) (by show qty < e.qty; omega) (by show e.qty ≤ 1000000; omega) ⟨hqm, (by show qtys L ≤ 4096000000; omega)⟩).mono ?_
        rintro e' w' ⟨rfl, hc', hk⟩
        refine ⟨rfl, ⟨_, _, _, _, hc', ?_, by simp; exact hl⟩, hk.more (LF_of _ _ _)⟩
        have := hr.turn h1 h2 (e.qty - qty) e.top (by omega)
        rw [show qtys L + (e.qty - qty) - e.qty = qtys L - qty by omega] at this
        exact this

theorem la_list (h : LA w pb sb qa room A) (n : Int) (h0 : 0 ≤ n) (hn : n < A.length) :
    Calls Try.prog 56 #[.pointer (some ⟨pb, 0, none⟩), .int .i64 n] w (RowBack w.heap.size 80 4 (A.getD n.toNat []).length ((A.getD n.toNat []).flatMap Ent.cells) w) := by
  have hh := h
  obtain ⟨S, qc, Q, F, hc, hr, hl⟩ := h
  have hlen := hr.len
  have hroom := hc.room
  obtain ⟨n, rfl⟩ := Int.eq_ofNat_of_zero_le h0
  obtain ⟨L, hL⟩ : ∃ L, A[n]? = some L := ⟨_, List.getElem?_eq_getElem (by omega)⟩
  obtain ⟨qb, rfl⟩ := hh.row (by omega)
  have hsh := hr.short hL
  have hnx : ∀ j, nxt (L.map Ent.slot) j = sl L j := by
    intro j; unfold nxt sl; rw [List.getElem?_map]; cases L[j]? <;> rfl
  have := list_at hc n _ (getq hL hr.qs) (L.map Ent.slot) (by simp; omega) (hnx 0).symm (by
    intro j k hk
    rw [List.getElem?_map, Option.map_eq_some_iff] at hk
    obtain ⟨e, he, rfl⟩ := hk
    exact ⟨_, hr.at_ n j L e hL he, (hnx (j + 1)).symm⟩)
  have e1 : (L.map Ent.slot).flatMap (entAt S) = L.flatMap Ent.cells := by
    rw [List.flatMap_map]
    apply flatMap_same
    intro e he
    obtain ⟨j, hj, rfl⟩ := List.getElem_of_mem he
    unfold entAt
    rw [hr.at_ n j L _ hL (List.getElem?_eq_getElem hj)]
    rfl
  rw [List.length_map, e1] at this
  show Calls Try.prog 56 #[.pointer (some ⟨pb, 0, none⟩), .int .i64 (n : Int)] w _
  rw [Int.toNat_natCast, getD_of hL]
  exact this
theorem la_list_no (h : LA w pb sb qa room A) (n : Int) (hn : n < 0 ∨ (A.length : Int) ≤ n) :
    Calls Try.prog 56 #[.pointer (some ⟨pb, 0, none⟩), .int .i64 n] w fun e w' => e = .returned (.slice none 0 0) ∧ w = w' := by
  obtain ⟨S, qc, Q, F, hc, hr, hl⟩ := h
  have hlen := hr.len
  exact list_no hc n (by omega)
end
end Go.Proofs.Ytmhljdkhekjfmaa
