/- Walks of level.Arena's small methods, over the arena as it lies in memory. -/
import Derived.Test.YtbpmoomklknkkaaMem
namespace Go.Proofs.Ytbpmoomklknkkaa
open Go.RowKit

/-- a slot, as it lies -/
structure Slt where
  used : Bool
  slot : Int
  id : Int
  qty : Int
  top : Bool
  q : Int
  ah : Int
  bk : Int
def Slt.cells (s : Slt) : List Value := [.bool s.used, .int .i64 s.slot, .int .i64 s.id, .int .i64 s.qty, .bool s.top, .int .i64 s.q, .int .i64 s.ah, .int .i64 s.bk]
theorem Slt.len (s : Slt) : s.cells.length = 8 := rfl
/-- a queue, as it lies -/
structure Que where
  fst : Int
  lst : Int
  tot : Int
  cnt : Int
def Que.cells (q : Que) : List Value := [.int .i64 q.fst, .int .i64 q.lst, .int .i64 q.tot, .int .i64 q.cnt]
theorem Que.len (q : Que) : q.cells.length = 4 := rfl

/-- an arena, as it lies: its own block, its slots', its queues' (none while there is no queue) -/
structure ArenaC (w : World) (pb sb : Nat) (S : List Slt) (qa : Option Addr) (qc : Nat) (Q : List Que) (F : Int) : Prop where
  hp : Blk w pb 56 #[.slice (some ⟨sb, 0, none⟩) S.length S.length, .slice qa Q.length qc, .int .i64 F]
  hs : Blk w sb 62 (S.flatMap Slt.cells).toArray
  hq : w.ownsRow 0 58 4 (.slice qa Q.length qc) Q.length (Q.flatMap Que.cells)
  room : S.length ≤ 4096
  many : Q.length ≤ 4611686018427387904

section
variable {w : World} {pb sb : Nat} {S : List Slt} {qa : Option Addr} {qc : Nat} {Q : List Que} {F : Int}
theorem ArenaC.c0 (h : ArenaC w pb sb S qa qc Q F) : w.cell? ⟨pb, 0, none⟩ = some (.slice (some ⟨sb, 0, none⟩) S.length S.length) := by rw [h.hp.cell]; rfl
theorem ArenaC.c1 (h : ArenaC w pb sb S qa qc Q F) : w.cell? ⟨pb, 1, none⟩ = some (.slice qa Q.length qc) := by rw [h.hp.cell]; rfl
theorem ArenaC.c2 (h : ArenaC w pb sb S qa qc Q F) : w.cell? ⟨pb, 2, none⟩ = some (.int .i64 F) := by rw [h.hp.cell]; rfl
theorem ArenaC.slt (h : ArenaC w pb sb S qa qc Q F) (i : Nat) (hi : i < S.length) (k : Nat) (hk : k < 8) : w.cell? ⟨sb, i * 8 + k, none⟩ = (S[i]'hi).cells[k]? := by
  rw [h.hs.cell, List.getElem?_toArray]
  exact fm_get Slt.cells 8 Slt.len S i k hi hk

set_option maxHeartbeats 400000 in
theorem is_any (h : ArenaC w pb sb S qa qc Q F) (n : Int) :
    Calls Try.prog 26 #[.pointer (some ⟨pb, 0, none⟩), .int .i64 n] w fun e w' => e = .returned (.bool (decide (0 ≤ n) && decide (n < Q.length))) ∧ w = w' := by
  have h1 := h.c1
  go_enter Try.func26, Try.ntmps26
  by_cases h0 : 0 ≤ n
  · have b0 : decide (0 ≤ n) = true := decide_eq_true h0
    have B0 := Lib.hid b0
    go_wp2
    go_ret
    rw [B0.out]
    exact ⟨rfl, rfl⟩
  · have b0 : decide (0 ≤ n) = false := decide_eq_false h0
    go_wp2
    go_ret
    exact ⟨rfl, rfl⟩

set_option maxHeartbeats 400000 in
theorem free_any (h : ArenaC w pb sb S qa qc Q F) :
    Calls Try.prog 15 #[.pointer (some ⟨pb, 0, none⟩)] w fun e w' => e = .returned (.int .i64 F) ∧ w = w' := by
  have h2 := h.c2
  go_enter Try.func15, Try.ntmps15
  go_wp2
  go_ret
  exact ⟨rfl, rfl⟩

/-- where the order of a slot lies; nowhere, if there is none -/
def slotPtr (sb : Nat) (S : List Slt) (n : Int) : Value := .pointer (if 0 ≤ n ∧ (S[n.toNat]?.map Slt.used).getD false = true then some ⟨sb, n.toNat * 8, none⟩ else none)
theorem slotPtr_no {sb : Nat} {S : List Slt} {n : Int} (h : n < 0 ∨ S[n.toNat]? = none) : slotPtr sb S n = .pointer none := by
  unfold slotPtr
  rw [if_neg]
  rintro ⟨h1, h2⟩
  rcases h with h | h
  · omega
  · rw [h] at h2; cases h2
theorem slotPtr_at {sb : Nat} {S : List Slt} {i : Nat} (hi : i < S.length) : slotPtr sb S (i : Int) = .pointer (if (S[i]'hi).used = true then some ⟨sb, i * 8, none⟩ else none) := by
  unfold slotPtr
  simp [hi]
set_option maxHeartbeats 400000 in
theorem find_any (h : ArenaC w pb sb S qa qc Q F) (n : Int) :
    Calls Try.prog 24 #[.pointer (some ⟨pb, 0, none⟩), .int .i64 n] w fun e w' => e = .returned (slotPtr sb S n) ∧ w = w' := by
  have h0 := h.c0
  have hr := h.room
  by_cases hn : n < 0
  · have hu := Lib.hid (slotPtr_no (sb := sb) (S := S) (n := n) (.inl hn))
    have b0 : decide (n < 0) = true := decide_eq_true hn
    go_enter Try.func24, Try.ntmps24
    go_wp2
    go_ret
    rw [hu.out]
    exact ⟨rfl, rfl⟩
  · obtain ⟨i, rfl⟩ := Int.eq_ofNat_of_zero_le (show 0 ≤ n by omega)
    have b0 : decide ((i : Int) < 0) = false := decide_eq_false hn
    by_cases hi : i < S.length
    · have hc := h.slt i hi 0 (by omega)
      have hcu : w.cell? ⟨sb, i * 8, none⟩ = some (.bool (S[i]'hi).used) := hc
      have hu := Lib.hid (slotPtr_at (sb := sb) hi)
      have b1 : decide (S.length ≤ i) = false := decide_eq_false (by omega)
      clear hc
      generalize (S[i]'hi).used = u at *
      cases u
      · go_enter Try.func24, Try.ntmps24
        go_wp2
        go_ret
        rw [hu.out]
        exact ⟨rfl, rfl⟩
      · go_enter Try.func24, Try.ntmps24
        go_wp2
        go_ret
        rw [hu.out]
        exact ⟨rfl, rfl⟩
    · have hu := Lib.hid (slotPtr_no (sb := sb) (S := S) (n := (i : Int)) (.inr (by simp; omega)))
      have b1 : decide (S.length ≤ i) = true := decide_eq_true (by omega)
      go_enter Try.func24, Try.ntmps24
      go_wp2
      go_ret
      rw [hu.out]
      exact ⟨rfl, rfl⟩

/-- where the queues' row lies, if there is a queue -/
theorem ArenaC.que (h : ArenaC w pb sb S qa qc Q F) (n : Nat) (hn : n < Q.length) : ∃ qb, qa = some ⟨qb, 0, none⟩ ∧ (∀ k, k < 4 → w.cell? ⟨qb, n * 4 + k, none⟩ = (Q[n]'hn).cells[k]?) ∧ (∀ k, w.frozen? ⟨qb, k, none⟩ = false) := by
  rcases h.hq.2 with ⟨hv, h0⟩ | ⟨g, cap, cur, hv, _, hh, _⟩
  · omega
  · injection hv with e1 e2 e3
    subst e1
    refine ⟨g, rfl, fun k hk => ?_, fun k => h.hq.frozenAt k⟩
    rw [h.hq.cellAt (n * 4 + k) (by omega)]
    exact fm_get Que.cells 4 Que.len Q n k hn hk

set_option maxHeartbeats 400000 in
theorem total_no (h : ArenaC w pb sb S qa qc Q F) (n : Int) (hn : n < 0 ∨ (Q.length : Int) ≤ n) :
    Calls Try.prog 20 #[.pointer (some ⟨pb, 0, none⟩), .int .i64 n] w fun e w' => e = .returned (.int .i64 0) ∧ w = w' := by
  have hb : Hid ((decide (0 ≤ n) && decide (n < (Q.length : Int))) = false) := Lib.hid (by simp; omega)
  go_enter Try.func20, Try.ntmps20
  go_wp2_with (go_at_call 26; refine (is_any h n).mono ?_; rintro e w1 ⟨rfl, rfl⟩; rw [hb.out])
  go_ret
  exact ⟨rfl, rfl⟩
set_option maxHeartbeats 400000 in
theorem total_at (h : ArenaC w pb sb S qa qc Q F) (n : Nat) (hn : n < Q.length) :
    Calls Try.prog 20 #[.pointer (some ⟨pb, 0, none⟩), .int .i64 n] w fun e w' => e = .returned (.int .i64 (Q[n]'hn).tot) ∧ w = w' := by
  have hb : Hid ((decide ((0 : Int) ≤ n) && decide ((n : Int) < (Q.length : Int))) = true) := Lib.hid (by simp; omega)
  have h1 := h.c1
  obtain ⟨qb, rfl, hc, _⟩ := h.que n hn
  have h2 : w.cell? ⟨qb, n * 4 + 2, none⟩ = some (.int .i64 (Q[n]'hn).tot) := hc 2 (by omega)
  clear hc
  have hm := h.many
  go_enter Try.func20, Try.ntmps20
  go_wp2_with (go_at_call 26; refine (is_any h n).mono ?_; rintro e w1 ⟨rfl, rfl⟩; rw [hb.out])
  go_ret
  exact ⟨rfl, rfl⟩
set_option maxHeartbeats 400000 in
theorem count_no (h : ArenaC w pb sb S qa qc Q F) (n : Int) (hn : n < 0 ∨ (Q.length : Int) ≤ n) :
    Calls Try.prog 14 #[.pointer (some ⟨pb, 0, none⟩), .int .i64 n] w fun e w' => e = .returned (.int .i64 0) ∧ w = w' := by
  have hb : Hid ((decide (0 ≤ n) && decide (n < (Q.length : Int))) = false) := Lib.hid (by simp; omega)
  go_enter Try.func14, Try.ntmps14
  go_wp2_with (go_at_call 26; refine (is_any h n).mono ?_; rintro e w1 ⟨rfl, rfl⟩; rw [hb.out])
  go_ret
  exact ⟨rfl, rfl⟩
set_option maxHeartbeats 400000 in
theorem count_at (h : ArenaC w pb sb S qa qc Q F) (n : Nat) (hn : n < Q.length) :
    Calls Try.prog 14 #[.pointer (some ⟨pb, 0, none⟩), .int .i64 n] w fun e w' => e = .returned (.int .i64 (Q[n]'hn).cnt) ∧ w = w' := by
  have hb : Hid ((decide ((0 : Int) ≤ n) && decide ((n : Int) < (Q.length : Int))) = true) := Lib.hid (by simp; omega)
  have h1 := h.c1
  obtain ⟨qb, rfl, hc, _⟩ := h.que n hn
  have h2 : w.cell? ⟨qb, n * 4 + 3, none⟩ = some (.int .i64 (Q[n]'hn).cnt) := hc 3 (by omega)
  clear hc
  have hm := h.many
  go_enter Try.func14, Try.ntmps14
  go_wp2_with (go_at_call 26; refine (is_any h n).mono ?_; rintro e w1 ⟨rfl, rfl⟩; rw [hb.out])
  go_ret
  exact ⟨rfl, rfl⟩
end

set_option maxHeartbeats 400000 in
theorem new_no (n : Int) (w : World) (hn : n < 1 ∨ 4096 < n) :
    Calls Try.prog 9 #[.int .i64 n] w fun e w' => e = .returned (.tuple #[.pointer none, .int .i64 1]) ∧ w = w' := by
  rcases hn with hn | hn
  · go_enter Try.func9, Try.ntmps9
    go_wp2
    go_ret2
    exact ⟨rfl, rfl⟩
  · have h1 : decide (n < 1) = false := decide_eq_false (by omega)
    go_enter Try.func9, Try.ntmps9
    go_wp2
    go_ret2
    exact ⟨rfl, rfl⟩

def Slt.none_ : Slt := ⟨false, 0, 0, 0, false, 0, 0, 0⟩
theorem info_slot : (Try.prog.info? 62).map (fun i => (i.zero, i.size, i.bytes)) = some (some (.agg Slt.none_.cells.toArray), 8, 64) := by kernel_rfl
theorem made_slots (n : Nat) : madeCells (Value.agg Slt.none_.cells.toArray).cells (n * 8) = ((List.replicate n Slt.none_).flatMap Slt.cells).toArray := by
  apply Array.toList_inj.1
  apply List.ext_getElem?
  intro j
  by_cases hj : j < n * 8
  · have h := fm_get Slt.cells 8 Slt.len (List.replicate n Slt.none_) (j / 8) (j % 8) (by simp; omega) (by omega)
    rw [show j / 8 * 8 + j % 8 = j by omega, List.getElem_replicate] at h
    show _ = ((List.replicate n Slt.none_).flatMap Slt.cells)[j]?
    rw [h]
    simp only [madeCells, Array.toList_map, Array.toList_range, List.getElem?_map, List.getElem?_range hj, Option.map_some]
    have hr : j % 8 < 8 := Nat.mod_lt _ (by omega)
    show some ((Slt.none_.cells.toArray)[j % 8]!) = _
    generalize j % 8 = r at hr
    have h8 : r = 0 ∨ r = 1 ∨ r = 2 ∨ r = 3 ∨ r = 4 ∨ r = 5 ∨ r = 6 ∨ r = 7 := by omega
    rcases h8 with rfl | rfl | rfl | rfl | rfl | rfl | rfl | rfl <;> rfl
  · have h1 : (madeCells (Value.agg Slt.none_.cells.toArray).cells (n * 8)).toList.length = n * 8 := by rw [Array.length_toList, size_madeCells]
    rw [List.getElem?_eq_none (by omega), List.getElem?_eq_none (by
      show ((List.replicate n Slt.none_).flatMap Slt.cells).length ≤ j
      rw [fm_length Slt.cells 8 Slt.len]; simp; omega)]
set_option maxHeartbeats 400000 in
theorem new_yes (n : Nat) (w : World) (hn : 1 ≤ n) (hn2 : n ≤ 4096) :
    Calls Try.prog 9 #[.int .i64 n] w fun e w' => e = .returned (.tuple #[.pointer (some ⟨w.heap.size + 1, 0, none⟩), .int .i64 0]) ∧ ArenaC w' (w.heap.size + 1) w.heap.size (List.replicate n Slt.none_) none 0 [] n ∧ Keeps (fun _ => False) w w' := by
  obtain ⟨i0, hi, hz0, hz1, hz2⟩ := info_parts info_slot
  have hmk := run_makeSlice (P := Try.prog) w 53 62 i0 _ Try.underlying53 hi hz0 .i64 .i64 n n (by omega) (by omega) (by rw [hz1]; omega) (by rw [hz2]; omega) (by omega)
  rw [hz1, Int.toNat_natCast, made_slots] at hmk
  clear hi hz0 hz1 hz2
  go_enter Try.func9, Try.ntmps9
  go_wp2
  go_ret2
  refine ⟨rfl, ⟨?_, ?_, ?_, ?_, ?_⟩, ?_⟩
  · have h1 : (w.alloc (.cells ((List.replicate n Slt.none_).flatMap Slt.cells).toArray 62)).heap.size = w.heap.size + 1 := by simp
    have h2 := Blk.new (w.alloc (.cells ((List.replicate n Slt.none_).flatMap Slt.cells).toArray 62)) 56 #[.slice (some ⟨w.heap.size, 0, none⟩) n n, .slice none 0 0, .int .i64 n]
    rw [h1] at h2
    simpa using h2
  · exact (Blk.new w _ _).alloc _
  · exact World.ownsRow_nil _ _ _ _
  · simp; omega
  · simp
  · exact ((Keeps.refl _ _).alloc _).alloc _
end Go.Proofs.Ytbpmoomklknkkaa
