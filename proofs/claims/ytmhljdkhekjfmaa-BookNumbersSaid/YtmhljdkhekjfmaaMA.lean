/- Merged: Mem Level LevW Drop Drop2 Push Push2 LevX LevG. -/
import Derived.Test.YtmhljdkhekjfmaaChecked
import Derived.WalkKit
import Derived.WalkSpells
import Derived.WalkLawsBesides
import Derived.Lib.Hide
import Derived.Deep.LoopGhost
import Derived.BigRegion
import Derived.BigQuiet
import Derived.Outline
/- Words for memory: rows of structs in one block; a block known whole; what a call leaves alone. No function of the program in sight. -/
namespace Go.Proofs.Ytmhljdkhekjfmaa
open Go.RowKit

/-! ### lists laid flat -/
section
variable {α β : Type} (c : α → List β) (m : Nat)
theorem fm_length (hc : ∀ x, (c x).length = m) (S : List α) : (S.flatMap c).length = S.length * m := by
  induction S with
  | nil => simp
  | cons x S ih => rw [List.flatMap_cons, List.length_append, hc, ih, List.length_cons, Nat.succ_mul]; omega
theorem fm_get (hc : ∀ x, (c x).length = m) : ∀ (S : List α) (i k : Nat) (hi : i < S.length), k < m → (S.flatMap c)[i * m + k]? = (c (S[i]'hi))[k]? := by
  intro S
  induction S with
  | nil => intro i k hi; exact absurd hi (by simp)
  | cons x S ih =>
    intro i k hi hk
    rw [List.flatMap_cons]
    cases i with
    | zero =>
      rw [Nat.zero_mul, Nat.zero_add, List.getElem?_append_left (by rw [hc]; exact hk)]
      rfl
    | succ i =>
      rw [Nat.succ_mul, List.getElem?_append_right (by rw [hc]; omega), hc, show i * m + m + k - m = i * m + k by omega]
      exact ih i k (by simpa using hi) hk
theorem fm_set (hc : ∀ x, (c x).length = m) (v : β) (y : α) : ∀ (S : List α) (i k : Nat) (hi : i < S.length), k < m → c y = (c (S[i]'hi)).set k v → (S.flatMap c).set (i * m + k) v = (S.set i y).flatMap c := by
  intro S
  induction S with
  | nil => intro i k hi; exact absurd hi (by simp)
  | cons x S ih =>
    intro i k hi hk hy
    cases i with
    | zero =>
      rw [Nat.zero_mul, Nat.zero_add, List.flatMap_cons, List.set_append_left _ _ (by rw [hc]; exact hk)]
      show _ = (y :: S).flatMap c
      rw [List.flatMap_cons, hy]
      rfl
    | succ i =>
      rw [Nat.succ_mul, List.flatMap_cons, List.set_append_right _ _ (by rw [hc]; omega), hc, show i * m + m + k - m = i * m + k by omega]
      show _ = (x :: S.set i y).flatMap c
      rw [List.flatMap_cons, ih i k (by simpa using hi) hk hy]
end

/-! ### a block known whole -/
def Blk (w : World) (g : Nat) (t : TypeId) (cs : Array Value) : Prop := w.heap[g]? = some (.cells cs t (0, 0))
section
variable {w w' : World} {g : Nat} {t : TypeId} {cs : Array Value}
theorem Blk.lt (h : Blk w g t cs) : g < w.heap.size := by
  rcases Nat.lt_or_ge g w.heap.size with hlt | hge
  · exact hlt
  · unfold Blk at h; rw [Array.getElem?_eq_none hge] at h; cases h
theorem Blk.cell (h : Blk w g t cs) (i : Nat) : w.cell? ⟨g, i, none⟩ = cs[i]? := cell_of_row w g i cs t (0, 0) h
theorem Blk.frozen (h : Blk w g t cs) (i : Nat) : w.frozen? ⟨g, i, none⟩ = false := by
  unfold Blk at h
  simp [World.frozen?, h]
theorem Blk.new (w : World) (t : TypeId) (cs : Array Value) : Blk (w.alloc (.cells cs t)) w.heap.size t cs := heap_alloc_new w _
theorem Blk.drew (h : Blk w g t cs) : Blk w.drew g t cs := h
theorem Blk.drewN (h : Blk w g t cs) (n : Nat) : Blk (w.drewN n) g t cs := h
theorem Blk.alloc (h : Blk w g t cs) (o : Obj) : Blk (w.alloc o) g t cs := (Below.heap_alloc w o g h.lt).trans h
theorem Blk.set_ (h : Blk w g t cs) (i : Nat) (u : Value) : Blk (w.setCell ⟨g, i, none⟩ u) g t (cs.setIfInBounds i u) := by
  unfold Blk at h ⊢
  simp [World.setCell, Array.getElem?_modify, h]
theorem Blk.far (h : Blk w g t cs) {p : Addr} (hp : g ≠ p.block) (u : Value) : Blk (w.setCell p u) g t cs := (Below.heap_setCell w p u g hp).trans h
end

/-! ### what a call leaves alone: every block that was there, but for those of F -/
structure Keeps (F : Nat → Prop) (w w' : World) : Prop where
  os : w'.os = w.os
  tape : w'.tape = w.tape
  output : w'.output = w.output
  size : w.heap.size ≤ w'.heap.size
  block : ∀ k, k < w.heap.size → ¬ F k → w'.heap[k]? = w.heap[k]?
section
variable {F G : Nat → Prop} {w w1 w2 : World}
theorem Keeps.refl (F : Nat → Prop) (w : World) : Keeps F w w := ⟨rfl, rfl, rfl, Nat.le_refl _, fun _ _ _ => rfl⟩
theorem Keeps.trans (h : Keeps F w w1) (k : Keeps F w1 w2) : Keeps F w w2 :=
  ⟨k.os.trans h.os, k.tape.trans h.tape, k.output.trans h.output, Nat.le_trans h.size k.size, fun i hi hf => (k.block i (Nat.lt_of_lt_of_le hi h.size) hf).trans (h.block i hi hf)⟩
theorem Keeps.more (h : Keeps F w w1) (hFG : ∀ k, F k → G k) : Keeps G w w1 := ⟨h.os, h.tape, h.output, h.size, fun k hk hg => h.block k hk fun hf => hg (hFG k hf)⟩
/-- the same, of two steps: what the second one turns was not there before the first, or the first may turn it -/
theorem Keeps.step (h : Keeps F w w1) (k : Keeps G w1 w2) (hG : ∀ i, i < w.heap.size → G i → F i) : Keeps F w w2 :=
  ⟨k.os.trans h.os, k.tape.trans h.tape, k.output.trans h.output, Nat.le_trans h.size k.size, fun i hi hf => (k.block i (Nat.lt_of_lt_of_le hi h.size) fun hg => hf (hG i hi hg)).trans (h.block i hi hf)⟩
theorem Keeps.drew (h : Keeps F w w1) : Keeps F w w1.drew := ⟨h.os, h.tape, h.output, h.size, h.block⟩
theorem Keeps.drewN (h : Keeps F w w1) (n : Nat) : Keeps F w (w1.drewN n) := ⟨h.os, h.tape, h.output, h.size, h.block⟩
theorem Keeps.alloc (h : Keeps F w w1) (o : Obj) : Keeps F w (w1.alloc o) :=
  ⟨h.os, h.tape, h.output, by have := h.size; simp; omega, fun k hk hf => (Below.heap_alloc w1 o k (Nat.lt_of_lt_of_le hk h.size)).trans (h.block k hk hf)⟩
theorem Keeps.setCell (h : Keeps F w w1) {p : Addr} (hp : p.block < w.heap.size → F p.block) (u : Value) : Keeps F w (w1.setCell p u) :=
  ⟨h.os, h.tape, h.output, by have := h.size; simp [World.setCell]; omega, fun k hk hf => (Below.heap_setCell w1 p u k fun e => hf (by rw [e]; exact hp (by rw [← e]; exact hk))).trans (h.block k hk hf)⟩
theorem Keeps.below {B : Nat} (h : Keeps F w w1) (hF : ∀ k, F k → B ≤ k) (hB : B ≤ w.heap.size) : Below B w w1 :=
  ⟨h.os, h.tape, h.output, h.size, fun k hk => h.block k (Nat.lt_of_lt_of_le hk hB) fun hf => by have := hF k hf; omega⟩
theorem Below.keeps (h : Below w.heap.size w w1) : Keeps F w w1 := ⟨h.os, h.tape, h.output, h.size, fun k hk _ => h.block k hk⟩
theorem Blk.keeps {g : Nat} {t : TypeId} {cs : Array Value} (h : Blk w g t cs) (hk : Keeps F w w1) (hg : ¬ F g) : Blk w1 g t cs := (hk.block g h.lt hg).trans h
end
end Go.Proofs.Ytmhljdkhekjfmaa

/- Walks of level.Arena's small methods, over the arena as it lies in memory. -/
namespace Go.Proofs.Ytmhljdkhekjfmaa
open Go.RowKit

/-- a slot, as it lies -/
structure Slt where
  used : Bool
  slot : Int
  id : Int
  qty : Int
  top : Bool
  q : Int
  ah : Int
  bk : Int
def Slt.cells (s : Slt) : List Value := [.bool s.used, .int .i64 s.slot, .int .i64 s.id, .int .i64 s.qty, .bool s.top, .int .i64 s.q, .int .i64 s.ah, .int .i64 s.bk]
theorem Slt.len (s : Slt) : s.cells.length = 8 := rfl
/-- a queue, as it lies -/
structure Que where
  fst : Int
  lst : Int
  tot : Int
  cnt : Int
def Que.cells (q : Que) : List Value := [.int .i64 q.fst, .int .i64 q.lst, .int .i64 q.tot, .int .i64 q.cnt]
theorem Que.len (q : Que) : q.cells.length = 4 := rfl

/-- an arena, as it lies: its own block, its slots', its queues' (none while there is no queue) -/
structure ArenaC (w : World) (pb sb : Nat) (S : List Slt) (qa : Option Addr) (qc : Nat) (Q : List Que) (F : Int) : Prop where
  hp : Blk w pb 104 #[.slice (some ⟨sb, 0, none⟩) S.length S.length, .slice qa Q.length qc, .int .i64 F]
  hs : Blk w sb 110 (S.flatMap Slt.cells).toArray
  hq : w.ownsRow 0 114 4 (.slice qa Q.length qc) Q.length (Q.flatMap Que.cells)
  room : S.length ≤ 4096
  many : Q.length ≤ 4611686018427387904

section
variable {w : World} {pb sb : Nat} {S : List Slt} {qa : Option Addr} {qc : Nat} {Q : List Que} {F : Int}
theorem ArenaC.c0 (h : ArenaC w pb sb S qa qc Q F) : w.cell? ⟨pb, 0, none⟩ = some (.slice (some ⟨sb, 0, none⟩) S.length S.length) := by rw [h.hp.cell]; rfl
theorem ArenaC.c1 (h : ArenaC w pb sb S qa qc Q F) : w.cell? ⟨pb, 1, none⟩ = some (.slice qa Q.length qc) := by rw [h.hp.cell]; rfl
theorem ArenaC.c2 (h : ArenaC w pb sb S qa qc Q F) : w.cell? ⟨pb, 2, none⟩ = some (.int .i64 F) := by rw [h.hp.cell]; rfl
theorem ArenaC.slt (h : ArenaC w pb sb S qa qc Q F) (i : Nat) (hi : i < S.length) (k : Nat) (hk : k < 8) : w.cell? ⟨sb, i * 8 + k, none⟩ = (S[i]'hi).cells[k]? := by
  rw [h.hs.cell, List.getElem?_toArray]
  exact fm_get Slt.cells 8 Slt.len S i k hi hk

set_option maxHeartbeats 400000 in
theorem is_any (h : ArenaC w pb sb S qa qc Q F) (n : Int) :
    Calls Try.prog 48 #[.pointer (some ⟨pb, 0, none⟩), .int .i64 n] w fun e w' => e = .returned (.bool (decide (0 ≤ n) && decide (n < Q.length))) ∧ w = w' := by
  have h1 := h.c1
  go_enter Try.func48, Try.ntmps48
  by_cases h0 : 0 ≤ n
  · have b0 : decide (0 ≤ n) = true := decide_eq_true h0
    have B0 := Lib.hid b0
    go_wp2
    go_ret
    rw [B0.out]
    exact ⟨rfl, rfl⟩
  · have b0 : decide (0 ≤ n) = false := decide_eq_false h0
    go_wp2
    go_ret
    exact ⟨rfl, rfl⟩

/-- where the order of a slot lies; nowhere, if there is none -/
def slotPtr (sb : Nat) (S : List Slt) (n : Int) : Value := .pointer (if 0 ≤ n ∧ (S[n.toNat]?.map Slt.used).getD false = true then some ⟨sb, n.toNat * 8, none⟩ else none)
theorem slotPtr_no {sb : Nat} {S : List Slt} {n : Int} (h : n < 0 ∨ S[n.toNat]? = none) : slotPtr sb S n = .pointer none := by
  unfold slotPtr
  rw [if_neg]
  rintro ⟨h1, h2⟩
  rcases h with h | h
  · omega
  · rw [h] at h2; cases h2
theorem slotPtr_at {sb : Nat} {S : List Slt} {i : Nat} (hi : i < S.length) : slotPtr sb S (i : Int) = .pointer (if (S[i]'hi).used = true then some ⟨sb, i * 8, none⟩ else none) := by
  unfold slotPtr
  simp [hi]
set_option maxHeartbeats 400000 in
theorem find_any (h : ArenaC w pb sb S qa qc Q F) (n : Int) :
    Calls Try.prog 53 #[.pointer (some ⟨pb, 0, none⟩), .int .i64 n] w fun e w' => e = .returned (slotPtr sb S n) ∧ w = w' := by
  have h0 := h.c0
  have hr := h.room
  by_cases hn : n < 0
  · have hu := Lib.hid (slotPtr_no (sb := sb) (S := S) (n := n) (.inl hn))
    have b0 : decide (n < 0) = true := decide_eq_true hn
    go_enter Try.func53, Try.ntmps53
    go_wp2
    go_ret
    rw [hu.out]
    exact ⟨rfl, rfl⟩
  · obtain ⟨i, rfl⟩ := Int.eq_ofNat_of_zero_le (show 0 ≤ n by omega)
    have b0 : decide ((i : Int) < 0) = false := decide_eq_false hn
    by_cases hi : i < S.length
    · have hc := h.slt i hi 0 (by omega)
      have hcu : w.cell? ⟨sb, i * 8, none⟩ = some (.bool (S[i]'hi).used) := hc
      have hu := Lib.hid (slotPtr_at (sb := sb) hi)
      have b1 : decide (S.length ≤ i) = false := decide_eq_false (by omega)
      clear hc
      generalize (S[i]'hi).used = u at *
      cases u
      · go_enter Try.func53, Try.ntmps53
        go_wp2
        go_ret
        rw [hu.out]
        exact ⟨rfl, rfl⟩
      · go_enter Try.func53, Try.ntmps53
        go_wp2
        go_ret
        rw [hu.out]
        exact ⟨rfl, rfl⟩
    · have hu := Lib.hid (slotPtr_no (sb := sb) (S := S) (n := (i : Int)) (.inr (by simp; omega)))
      have b1 : decide (S.length ≤ i) = true := decide_eq_true (by omega)
      go_enter Try.func53, Try.ntmps53
      go_wp2
      go_ret
      rw [hu.out]
      exact ⟨rfl, rfl⟩

/-- where the queues' row lies, if there is a queue -/
theorem ArenaC.que (h : ArenaC w pb sb S qa qc Q F) (n : Nat) (hn : n < Q.length) : ∃ qb, qa = some ⟨qb, 0, none⟩ ∧ (∀ k, k < 4 → w.cell? ⟨qb, n * 4 + k, none⟩ = (Q[n]'hn).cells[k]?) ∧ (∀ k, w.frozen? ⟨qb, k, none⟩ = false) := by
  rcases h.hq.2 with ⟨hv, h0⟩ | ⟨g, cap, cur, hv, _, hh, _⟩
  · omega
  · injection hv with e1 e2 e3
    subst e1
    refine ⟨g, rfl, fun k hk => ?_, fun k => h.hq.frozenAt k⟩
    rw [h.hq.cellAt (n * 4 + k) (by omega)]
    exact fm_get Que.cells 4 Que.len Q n k hn hk

set_option maxHeartbeats 400000 in
theorem total_no (h : ArenaC w pb sb S qa qc Q F) (n : Int) (hn : n < 0 ∨ (Q.length : Int) ≤ n) :
    Calls Try.prog 45 #[.pointer (some ⟨pb, 0, none⟩), .int .i64 n] w fun e w' => e = .returned (.int .i64 0) ∧ w = w' := by
  have hb : Hid ((decide (0 ≤ n) && decide (n < (Q.length : Int))) = false) := Lib.hid (by simp; omega)
  go_enter Try.func45, Try.ntmps45
  go_wp2_with (go_at_call 48; refine (is_any h n).mono ?_; rintro e w1 ⟨rfl, rfl⟩; rw [hb.out])
  go_ret
  exact ⟨rfl, rfl⟩
set_option maxHeartbeats 400000 in
theorem total_at (h : ArenaC w pb sb S qa qc Q F) (n : Nat) (hn : n < Q.length) :
    Calls Try.prog 45 #[.pointer (some ⟨pb, 0, none⟩), .int .i64 n] w fun e w' => e = .returned (.int .i64 (Q[n]'hn).tot) ∧ w = w' := by
  have hb : Hid ((decide ((0 : Int) ≤ n) && decide ((n : Int) < (Q.length : Int))) = true) := Lib.hid (by simp; omega)
  have h1 := h.c1
  obtain ⟨qb, rfl, hc, _⟩ := h.que n hn
  have h2 : w.cell? ⟨qb, n * 4 + 2, none⟩ = some (.int .i64 (Q[n]'hn).tot) := hc 2 (by omega)
  clear hc
  have hm := h.many
  go_enter Try.func45, Try.ntmps45
  go_wp2_with (go_at_call 48; refine (is_any h n).mono ?_; rintro e w1 ⟨rfl, rfl⟩; rw [hb.out])
  go_ret
  exact ⟨rfl, rfl⟩
set_option maxHeartbeats 400000 in
theorem count_no (h : ArenaC w pb sb S qa qc Q F) (n : Int) (hn : n < 0 ∨ (Q.length : Int) ≤ n) :
    Calls Try.prog 46 #[.pointer (some ⟨pb, 0, none⟩), .int .i64 n] w fun e w' => e = .returned (.int .i64 0) ∧ w = w' := by
  have hb : Hid ((decide (0 ≤ n) && decide (n < (Q.length : Int))) = false) := Lib.hid (by simp; omega)
  go_enter Try.func46, Try.ntmps46
  go_wp2_with (go_at_call 48; refine (is_any h n).mono ?_; rintro e w1 ⟨rfl, rfl⟩; rw [hb.out])
  go_ret
  exact ⟨rfl, rfl⟩
set_option maxHeartbeats 400000 in
theorem count_at (h : ArenaC w pb sb S qa qc Q F) (n : Nat) (hn : n < Q.length) :
    Calls Try.prog 46 #[.pointer (some ⟨pb, 0, none⟩), .int .i64 n] w fun e w' => e = .returned (.int .i64 (Q[n]'hn).cnt) ∧ w = w' := by
  have hb : Hid ((decide ((0 : Int) ≤ n) && decide ((n : Int) < (Q.length : Int))) = true) := Lib.hid (by simp; omega)
  have h1 := h.c1
  obtain ⟨qb, rfl, hc, _⟩ := h.que n hn
  have h2 : w.cell? ⟨qb, n * 4 + 3, none⟩ = some (.int .i64 (Q[n]'hn).cnt) := hc 3 (by omega)
  clear hc
  have hm := h.many
  go_enter Try.func46, Try.ntmps46
  go_wp2_with (go_at_call 48; refine (is_any h n).mono ?_; rintro e w1 ⟨rfl, rfl⟩; rw [hb.out])
  go_ret
  exact ⟨rfl, rfl⟩
end

set_option maxHeartbeats 400000 in
theorem new_no (n : Int) (w : World) (hn : n < 1 ∨ 4096 < n) :
    Calls Try.prog 24 #[.int .i64 n] w fun e w' => e = .returned (.tuple #[.pointer none, .int .i64 1]) ∧ w = w' := by
  rcases hn with hn | hn
  · go_enter Try.func24, Try.ntmps24
    go_wp2
    go_ret2
    exact ⟨rfl, rfl⟩
  · have h1 : decide (n < 1) = false := decide_eq_false (by omega)
    go_enter Try.func24, Try.ntmps24
    go_wp2
    go_ret2
    exact ⟨rfl, rfl⟩

def Slt.none_ : Slt := ⟨false, 0, 0, 0, false, 0, 0, 0⟩
theorem info_slot : (Try.prog.info? 110).map (fun i => (i.zero, i.size, i.bytes)) = some (some (.agg Slt.none_.cells.toArray), 8, 64) := by kernel_rfl
theorem made_slots (n : Nat) : madeCells (Value.agg Slt.none_.cells.toArray).cells (n * 8) = ((List.replicate n Slt.none_).flatMap Slt.cells).toArray := by
  apply Array.toList_inj.1
  apply List.ext_getElem?
  intro j
  by_cases hj : j < n * 8
  · have h := fm_get Slt.cells 8 Slt.len (List.replicate n Slt.none_) (j / 8) (j % 8) (by simp; omega) (by omega)
    rw [show j / 8 * 8 + j % 8 = j by omega, List.getElem_replicate] at h
    show _ = ((List.replicate n Slt.none_).flatMap Slt.cells)[j]?
    rw [h]
    simp only [madeCells, Array.toList_map, Array.toList_range, List.getElem?_map, List.getElem?_range hj, Option.map_some]
    have hr : j % 8 < 8 := Nat.mod_lt _ (by omega)
    show some ((Slt.none_.cells.toArray)[j % 8]!) = _
    generalize j % 8 = r at hr
    have h8 : r = 0 ∨ r = 1 ∨ r = 2 ∨ r = 3 ∨ r = 4 ∨ r = 5 ∨ r = 6 ∨ r = 7 := by omega
    rcases h8 with rfl | rfl | rfl | rfl | rfl | rfl | rfl | rfl <;> rfl
  · have h1 : (madeCells (Value.agg Slt.none_.cells.toArray).cells (n * 8)).toList.length = n * 8 := by rw [Array.length_toList, size_madeCells]
    rw [List.getElem?_eq_none (by omega), List.getElem?_eq_none (by
      show ((List.replicate n Slt.none_).flatMap Slt.cells).length ≤ j
      rw [fm_length Slt.cells 8 Slt.len]; simp; omega)]
set_option maxRecDepth 10000 in
set_option maxHeartbeats 4000000 in
theorem new_yes (n : Nat) (w : World) (hn : 1 ≤ n) (hn2 : n ≤ 4096) :
    Calls Try.prog 24 #[.int .i64 n] w fun e w' => e = .returned (.tuple #[.pointer (some ⟨w.heap.size + 1, 0, none⟩), .int .i64 0]) ∧ ArenaC w' (w.heap.size + 1) w.heap.size (List.replicate n Slt.none_) none 0 [] n ∧ Keeps (fun _ => False) w w' := by
  obtain ⟨i0, hi, hz0, hz1, hz2⟩ := info_parts info_slot
  have hmk := run_makeSlice (P := Try.prog) w 101 110 i0 _ Try.underlying101 hi hz0 .i64 .i64 n n (by omega) (by omega) (by rw [hz1]; omega) (by rw [hz2]; omega) (by omega)
  rw [hz1, Int.toNat_natCast, made_slots] at hmk
  clear hi hz0 hz1 hz2
  go_enter Try.func24, Try.ntmps24
  go_wp2
  go_ret2
  refine ⟨rfl, ⟨?_, ?_, ?_, ?_, ?_⟩, ?_⟩
  · have h1 : (w.alloc (.cells ((List.replicate n Slt.none_).flatMap Slt.cells).toArray 110)).heap.size = w.heap.size + 1 := by simp
    have h2 := Blk.new (w.alloc (.cells ((List.replicate n Slt.none_).flatMap Slt.cells).toArray 110)) 104 #[.slice (some ⟨w.heap.size, 0, none⟩) n n, .slice none 0 0, .int .i64 n]
    rw [h1] at h2
    simpa using h2
  · exact (Blk.new w _ _).alloc _
  · exact World.ownsRow_nil _ _ _ _
  · simp; omega
  · simp
  · exact ((Keeps.refl _ _).alloc _).alloc _
end Go.Proofs.Ytmhljdkhekjfmaa

/- Stores into an arena. -/
namespace Go.Proofs.Ytmhljdkhekjfmaa
open Go.RowKit

theorem Blk.ne_ {w : World} {g g' : Nat} {t t' : TypeId} {cs cs' : Array Value} (h : Blk w g t cs) (h' : Blk w g' t' cs') (hne : t ≠ t') : g ≠ g' := by
  rintro rfl
  unfold Blk at h h'
  rw [h] at h'
  injection h' with h'
  injection h' with _ ht
  exact hne ht
theorem own_ne {w : World} {g : Nat} {t e : TypeId} {cs : Array Value} {base size n : Nat} {v : Value} {xs : List Value} (h : w.ownsRow base e size v n xs) (hg : Blk w g t cs) (hne : e ≠ t) : v.ownBlock ≠ some g := by
  rcases h.2 with ⟨rfl, _⟩ | ⟨g', cap, cur, rfl, _, hh, _⟩
  · simp [Value.ownBlock]
  · intro he
    have : g' = g := by simpa [Value.ownBlock] using he
    subst this
    exact Blk.ne_ (t := e) hh hg hne rfl
theorem own_far {w : World} {e : TypeId} {base size n : Nat} {v : Value} {xs : List Value} (h : w.ownsRow base e size v n xs) {p : Addr} (hp : v.ownBlock ≠ some p.block) (u : Value) : (w.setCell p u).ownsRow base e size v n xs := by
  refine ⟨h.1, ?_⟩
  rcases h.2 with h2 | ⟨g, cap, cur, hv, hb, hh, r⟩
  · exact .inl h2
  · refine .inr ⟨g, cap, cur, hv, hb, ?_, r⟩
    rw [Below.heap_setCell _ _ _ _ (fun e => hp (by rw [hv, e]; rfl))]
    exact hh

section
variable {w : World} {pb sb : Nat} {S : List Slt} {qa : Option Addr} {qc : Nat} {Q : List Que} {F : Int}
theorem ArenaC.ps (h : ArenaC w pb sb S qa qc Q F) : pb ≠ sb := Blk.ne_ h.hp h.hs (by decide)
theorem ArenaC.qs (h : ArenaC w pb sb S qa qc Q F) : (Value.slice qa Q.length qc).ownBlock ≠ some sb := own_ne h.hq h.hs (by decide)
theorem ArenaC.qp (h : ArenaC w pb sb S qa qc Q F) : (Value.slice qa Q.length qc).ownBlock ≠ some pb := own_ne h.hq h.hp (by decide)

theorem ArenaC.drew (h : ArenaC w pb sb S qa qc Q F) : ArenaC w.drew pb sb S qa qc Q F := ⟨h.hp, h.hs, h.hq, h.room, h.many⟩
theorem ArenaC.drewN (h : ArenaC w pb sb S qa qc Q F) (n : Nat) : ArenaC (w.drewN n) pb sb S qa qc Q F := ⟨h.hp, h.hs, h.hq, h.room, h.many⟩
theorem ArenaC.alloc (h : ArenaC w pb sb S qa qc Q F) (o : Obj) : ArenaC (w.alloc o) pb sb S qa qc Q F := ⟨h.hp.alloc o, h.hs.alloc o, h.hq.alloc o, h.room, h.many⟩

theorem ArenaC.setS (h : ArenaC w pb sb S qa qc Q F) {i k : Nat} (hi : i < S.length) (hk : k < 8) {v : Value} {y : Slt} (hy : y.cells = (S[i]'hi).cells.set k v) :
    ArenaC (w.setCell ⟨sb, i * 8 + k, none⟩ v) pb sb (S.set i y) qa qc Q F := by
  refine ⟨?_, ?_, own_far h.hq h.qs v, by simpa using h.room, h.many⟩
  · have := h.hp.far (p := ⟨sb, i * 8 + k, none⟩) h.ps v
    simpa using this
  · have := h.hs.set_ (i * 8 + k) v
    rw [List.setIfInBounds_toArray, fm_set Slt.cells 8 Slt.len v y S i k hi hk hy] at this
    exact this
theorem ArenaC.setF (h : ArenaC w pb sb S qa qc Q F) (F' : Int) : ArenaC (w.setCell ⟨pb, 2, none⟩ (.int .i64 F')) pb sb S qa qc Q F' :=
  ⟨h.hp.set_ 2 _, h.hs.far (p := ⟨pb, 2, none⟩) h.ps.symm _, own_far h.hq h.qp _, h.room, h.many⟩
theorem ArenaC.setQ {qb : Nat} (h : ArenaC w pb sb S (some ⟨qb, 0, none⟩) qc Q F) {n k : Nat} (hn : n < Q.length) (hk : k < 4) {v : Value} {y : Que} (hy : y.cells = (Q[n]'hn).cells.set k v) :
    ArenaC (w.setCell ⟨qb, n * 4 + k, none⟩ v) pb sb S (some ⟨qb, 0, none⟩) qc (Q.set n y) F := by
  have h1 : qb ≠ pb := fun e => h.qp (by rw [← e]; rfl)
  have h2 : qb ≠ sb := fun e => h.qs (by rw [← e]; rfl)
  refine ⟨?_, h.hs.far (p := ⟨qb, n * 4 + k, none⟩) h2.symm v, ?_, h.room, by simpa using h.many⟩
  · have := h.hp.far (p := ⟨qb, n * 4 + k, none⟩) h1.symm v
    simpa using this
  · have := (h.hq.stored (n * 4 + k) v).1
    rw [fm_set Que.cells 4 Que.len v y Q n k hn hk hy] at this
    simpa using this

/-- all that a walk reads of a slot, of a queue, of the arena's own block -/
theorem ArenaC.sf (h : ArenaC w pb sb S qa qc Q F) {i : Nat} (hi : i < S.length) {s : Slt} (hs : S[i]'hi = s) :
    w.cell? ⟨sb, i * 8, none⟩ = some (.bool s.used) ∧ w.cell? ⟨sb, i * 8 + 1, none⟩ = some (.int .i64 s.slot) ∧ w.cell? ⟨sb, i * 8 + 2, none⟩ = some (.int .i64 s.id) ∧ w.cell? ⟨sb, i * 8 + 3, none⟩ = some (.int .i64 s.qty) ∧
    w.cell? ⟨sb, i * 8 + 4, none⟩ = some (.bool s.top) ∧ w.cell? ⟨sb, i * 8 + 5, none⟩ = some (.int .i64 s.q) ∧ w.cell? ⟨sb, i * 8 + 6, none⟩ = some (.int .i64 s.ah) ∧ w.cell? ⟨sb, i * 8 + 7, none⟩ = some (.int .i64 s.bk) := by
  subst hs
  exact ⟨h.slt i hi 0 (by omega), h.slt i hi 1 (by omega), h.slt i hi 2 (by omega), h.slt i hi 3 (by omega), h.slt i hi 4 (by omega), h.slt i hi 5 (by omega), h.slt i hi 6 (by omega), h.slt i hi 7 (by omega)⟩
theorem ArenaC.qf {qb : Nat} (h : ArenaC w pb sb S (some ⟨qb, 0, none⟩) qc Q F) {n : Nat} (hn : n < Q.length) {q : Que} (hq : Q[n]'hn = q) :
    w.cell? ⟨qb, n * 4, none⟩ = some (.int .i64 q.fst) ∧ w.cell? ⟨qb, n * 4 + 1, none⟩ = some (.int .i64 q.lst) ∧ w.cell? ⟨qb, n * 4 + 2, none⟩ = some (.int .i64 q.tot) ∧ w.cell? ⟨qb, n * 4 + 3, none⟩ = some (.int .i64 q.cnt) := by
  obtain ⟨qb', hqe, hqc, _⟩ := h.que n hn
  obtain rfl : qb = qb' := by injection hqe with e; injection e
  subst hq
  exact ⟨hqc 0 (by omega), hqc 1 (by omega), hqc 2 (by omega), hqc 3 (by omega)⟩
theorem ArenaC.qfz {qb : Nat} (h : ArenaC w pb sb S (some ⟨qb, 0, none⟩) qc Q F) (k : Nat) : w.frozen? ⟨qb, k, none⟩ = false := h.hq.frozenAt k
theorem ArenaC.six {qb : Nat} (h : ArenaC w pb sb S (some ⟨qb, 0, none⟩) qc Q F) : pb ≠ sb ∧ sb ≠ pb ∧ qb ≠ sb ∧ sb ≠ qb ∧ qb ≠ pb ∧ pb ≠ qb := by
  have h1 : qb ≠ sb := fun e => h.qs (by rw [← e]; rfl)
  have h2 : qb ≠ pb := fun e => h.qp (by rw [← e]; rfl)
  exact ⟨h.ps, h.ps.symm, h1, h1.symm, h2, h2.symm⟩

theorem ArenaC.nextS {s y : Slt} {i k : Nat} {v : Value} (h : ArenaC w pb sb (S.set i s) qa qc Q F) (hi : i < S.length) (hk : k < 8) (hy : y.cells = s.cells.set k v) :
    ArenaC (w.setCell ⟨sb, i * 8 + k, none⟩ v) pb sb (S.set i y) qa qc Q F := by
  have := h.setS (i := i) (k := k) (v := v) (y := y) (by simpa using hi) hk (by rw [List.getElem_set_self]; exact hy)
  rwa [List.set_set] at this
theorem ArenaC.nextQ {qb : Nat} {q y : Que} {n k : Nat} {v : Value} (h : ArenaC w pb sb S (some ⟨qb, 0, none⟩) qc (Q.set n q) F) (hn : n < Q.length) (hk : k < 4) (hy : y.cells = q.cells.set k v) :
    ArenaC (w.setCell ⟨qb, n * 4 + k, none⟩ v) pb sb S (some ⟨qb, 0, none⟩) qc (Q.set n y) F := by
  have := h.setQ (n := n) (k := k) (v := v) (y := y) (by simpa using hn) hk (by rw [List.getElem_set_self]; exact hy)
  rwa [List.set_set] at this
/-- all eight cells of a slot -/
theorem ArenaC.next8 {s y : Slt} {i : Nat} (h : ArenaC w pb sb (S.set i s) qa qc Q F) (hi : i < S.length) :
    ArenaC ((((((((w.setCell ⟨sb, i * 8, none⟩ (.bool y.used)).setCell ⟨sb, i * 8 + 1, none⟩ (.int .i64 y.slot)).setCell ⟨sb, i * 8 + 2, none⟩ (.int .i64 y.id)).setCell ⟨sb, i * 8 + 3, none⟩ (.int .i64 y.qty)).setCell ⟨sb, i * 8 + 4, none⟩ (.bool y.top)).setCell ⟨sb, i * 8 + 5, none⟩ (.int .i64 y.q)).setCell ⟨sb, i * 8 + 6, none⟩ (.int .i64 y.ah)).setCell ⟨sb, i * 8 + 7, none⟩ (.int .i64 y.bk)) pb sb (S.set i y) qa qc Q F := by
  have h1 := h.nextS (k := 0) (y := { s with used := y.used }) (v := .bool y.used) hi (by omega) rfl
  have h2 := h1.nextS (k := 1) (y := { s with used := y.used, slot := y.slot }) (v := .int .i64 y.slot) hi (by omega) rfl
  have h3 := h2.nextS (k := 2) (y := { s with used := y.used, slot := y.slot, id := y.id }) (v := .int .i64 y.id) hi (by omega) rfl
  have h4 := h3.nextS (k := 3) (y := { s with used := y.used, slot := y.slot, id := y.id, qty := y.qty }) (v := .int .i64 y.qty) hi (by omega) rfl
  have h5 := h4.nextS (k := 4) (y := { s with used := y.used, slot := y.slot, id := y.id, qty := y.qty, top := y.top }) (v := .bool y.top) hi (by omega) rfl
  have h6 := h5.nextS (k := 5) (y := { s with used := y.used, slot := y.slot, id := y.id, qty := y.qty, top := y.top, q := y.q }) (v := .int .i64 y.q) hi (by omega) rfl
  have h7 := h6.nextS (k := 6) (y := { y with bk := s.bk }) (v := .int .i64 y.ah) hi (by omega) rfl
  exact h7.nextS (k := 7) (y := y) (v := .int .i64 y.bk) hi (by omega) rfl
theorem ArenaC.self {i : Nat} {s : Slt} (h : ArenaC w pb sb S qa qc Q F) (hi : i < S.length) (hs : S[i]'hi = s) : ArenaC w pb sb (S.set i s) qa qc Q F := by
  rw [← hs, List.set_getElem_self]
  exact h
theorem ArenaC.selfQ {n : Nat} {q : Que} (h : ArenaC w pb sb S qa qc Q F) (hn : n < Q.length) (hq : Q[n]'hn = q) : ArenaC w pb sb S qa qc (Q.set n q) F := by
  rw [← hq, List.set_getElem_self]
  exact h

def Slt.withTop (s : Slt) (t : Bool) : Slt := { s with top := t }
set_option maxHeartbeats 400000 in
theorem top_no (h : ArenaC w pb sb S qa qc Q F) (n : Int) (t : Bool) (hn : slotPtr sb S n = .pointer none) :
    Calls Try.prog 47 #[.pointer (some ⟨pb, 0, none⟩), .int .i64 n, .bool t] w fun e w' => e = .returned (.int .i64 26) ∧ w = w' := by
  have hb := Lib.hid hn
  clear hn
  go_enter Try.func47, Try.ntmps47
  go_wp2_with (go_at_call 53; refine (find_any h n).mono ?_; rintro e w1 ⟨rfl, rfl⟩; rw [hb.out])
  go_ret
  exact ⟨rfl, rfl⟩
set_option maxHeartbeats 400000 in
theorem top_yes (h : ArenaC w pb sb S qa qc Q F) (i : Nat) (t : Bool) (hi : i < S.length) (hu : (S[i]'hi).used = true) :
    Calls Try.prog 47 #[.pointer (some ⟨pb, 0, none⟩), .int .i64 i, .bool t] w fun e w' => e = .returned (.int .i64 0) ∧ ArenaC w' pb sb (S.set i ((S[i]'hi).withTop t)) qa qc Q F ∧ Keeps (· = sb) w w' := by
  have hb : Hid (slotPtr sb S i = .pointer (some ⟨sb, i * 8, none⟩)) := Lib.hid (by rw [slotPtr_at hi, hu]; rfl)
  have hc : w.cell? ⟨sb, i * 8 + 4, none⟩ = some (.bool (S[i]'hi).top) := h.slt i hi 4 (by omega)
  have hf : w.frozen? ⟨sb, i * 8 + 4, none⟩ = false := h.hs.frozen _
  clear hu
  go_enter Try.func47, Try.ntmps47
  go_wp2_with (go_at_call 53; refine (find_any h i).mono ?_; rintro e w1 ⟨rfl, rfl⟩; rw [hb.out])
  go_ret
  refine ⟨rfl, h.setS (k := 4) hi (by omega) rfl, (Keeps.refl (fun g => g = sb) w).setCell (fun _ => rfl) _⟩

end
end Go.Proofs.Ytmhljdkhekjfmaa

/- The walk of level.Arena.drop. -/
namespace Go.Proofs.Ytmhljdkhekjfmaa
open Go.RowKit

def Slt.setBk (s : Slt) (b : Int) : Slt := { s with bk := b }
def Slt.setAh (s : Slt) (a : Int) : Slt := { s with ah := a }

section
variable {w : World} {pb sb qb : Nat} {S : List Slt} {qc : Nat} {Q : List Que} {F : Int}

set_option maxRecDepth 100000 in
set_option maxHeartbeats 1000000 in
theorem drop_one (h : ArenaC w pb sb S (some ⟨qb, 0, none⟩) qc Q F) (i n : Nat) (s : Slt) (q : Que) (hi : i < S.length) (hn : n < Q.length) (hs : S[i]'hi = s) (hq : Q[n]'hn = q) (hsn : s.q = n)
    (ha : s.ah = -1) (hb : s.bk = -1) (hcnt : 1 ≤ q.cnt ∧ q.cnt ≤ 4096) (hF : 0 ≤ F ∧ F ≤ 4095) :
    Calls Try.prog 54 #[.pointer (some ⟨pb, 0, none⟩), .pointer (some ⟨sb, i * 8, none⟩)] w fun e w' => e = .returned (.tuple #[]) ∧ ArenaC w' pb sb (S.set i Slt.none_) (some ⟨qb, 0, none⟩) qc (Q.set n { q with fst := -1, lst := -1, cnt := q.cnt - 1 }) (F + 1) ∧ Keeps (fun g => g = pb ∨ g = sb ∨ g = qb) w w' := by
  obtain ⟨n1, n2, n3, n4, n5, n6⟩ := h.six
  have hm := h.many
  have hr := h.room
  have hn' : (n : Int) < (Q.length : Int) := by omega
  have c1 := h.c1
  obtain ⟨_, _, _, _, _, s5, _, _⟩ := h.sf hi hs
  rw [hsn] at s5
  have HS := Lib.hid hs
  have HQ := Lib.hid hq
  have HA := Lib.hid ha
  have HB := Lib.hid hb
  have H := Lib.hid h
  clear hs hq hsn ha hb h
  go_enter Try.func54, Try.ntmps54
  go_wp2
  go_quiet (fail)
  have H2 := Lib.hid (H.out.drewN nq)
  have K2 := Lib.hid ((Keeps.refl (fun g => g = pb ∨ g = sb ∨ g = qb) w).drewN nq)
  clear c1 s5
  generalize w.drewN nq = w2 at *
  obtain ⟨s0, s1, s2, s3, s4, s5, s6, s7⟩ := H2.out.sf hi HS.out
  obtain ⟨q0, q1, q2, q3⟩ := H2.out.qf hn HQ.out
  rw [HA.out] at s6
  rw [HB.out] at s7
  have c0 := H2.out.c0
  have c1 := H2.out.c1
  have c2 := H2.out.c2
  have fq := fun k => H2.out.qfz k
  have fs := fun k => H2.out.hs.frozen k
  have fp := fun k => H2.out.hp.frozen k
  go_wp2_with fail
  clear s0 s1 s2 s3 s4 s5 s6 s7 q0 q1 q2 q3 c0 c1 c2 fq fs fp
  go_end0
  refine ⟨rfl, ?_, ?_⟩
  · have h0 := (H2.out.self hi HS.out).selfQ hn HQ.out
    have h1 := h0.nextQ (k := 0) (y := { q with fst := -1 }) (v := .int .i64 (-1)) hn (by omega) rfl
    have h2 := h1.nextQ (k := 1) (y := { q with fst := -1, lst := -1 }) (v := .int .i64 (-1)) hn (by omega) rfl
    have h3 := h2.nextQ (k := 3) (y := { q with fst := -1, lst := -1, cnt := q.cnt - 1 }) (v := .int .i64 (q.cnt - 1)) hn (by omega) rfl
    exact (h3.setF (F + 1)).next8 (y := Slt.none_) hi
  · refine K2.out.step (G := fun g => g = pb ∨ g = sb ∨ g = qb) ?_ fun _ _ x => x
    iterate 12 (with_reducible refine Keeps.setCell ?_ (fun _ => by simp) _)
    exact Keeps.refl _ _

set_option maxRecDepth 100000 in
set_option maxHeartbeats 1000000 in
/-- the first of several goes -/
theorem drop_first (h : ArenaC w pb sb S (some ⟨qb, 0, none⟩) qc Q F) (i n b : Nat) (s : Slt) (q : Que) (hi : i < S.length) (hn : n < Q.length) (hbl : b < S.length) (hbi : b ≠ i) (hs : S[i]'hi = s) (hq : Q[n]'hn = q) (hsn : s.q = n)
    (ha : s.ah = -1) (hb : s.bk = b) (hcnt : 1 ≤ q.cnt ∧ q.cnt ≤ 4096) (hF : 0 ≤ F ∧ F ≤ 4095) :
    Calls Try.prog 54 #[.pointer (some ⟨pb, 0, none⟩), .pointer (some ⟨sb, i * 8, none⟩)] w fun e w' => e = .returned (.tuple #[]) ∧ ArenaC w' pb sb ((S.set b ((S[b]'hbl).setAh (-1))).set i Slt.none_) (some ⟨qb, 0, none⟩) qc (Q.set n { q with fst := b, cnt := q.cnt - 1 }) (F + 1) ∧ Keeps (fun g => g = pb ∨ g = sb ∨ g = qb) w w' := by
  obtain ⟨n1, n2, n3, n4, n5, n6⟩ := h.six
  have hm := h.many
  have hr := h.room
  have hn' : (n : Int) < (Q.length : Int) := by omega
  have hbl' : (b : Int) < (S.length : Int) := by omega
  have hb1 : ((b : Int) == -1) = false := by rw [beq_eq_false_iff_ne]; omega
  have c1 := h.c1
  obtain ⟨_, _, _, _, _, s5, _, _⟩ := h.sf hi hs
  rw [hsn] at s5
  obtain ⟨sB, HSB⟩ : ∃ x, Hid (S[b]'hbl = x) := ⟨_, rfl⟩
  have HS := Lib.hid hs
  have HQ := Lib.hid hq
  have HA := Lib.hid ha
  have HB := Lib.hid hb
  have H := Lib.hid h
  clear hs hq hsn ha hb h
  go_enter Try.func54, Try.ntmps54
  go_wp2
  go_quiet (fail)
  have H2 := Lib.hid (H.out.drewN nq)
  have K2 := Lib.hid ((Keeps.refl (fun g => g = pb ∨ g = sb ∨ g = qb) w).drewN nq)
  clear c1 s5
  generalize w.drewN nq = w2 at *
  obtain ⟨_, _, _, _, _, _, s6, s7⟩ := H2.out.sf hi HS.out
  obtain ⟨_, _, _, _, _, _, b6, _⟩ := H2.out.sf hbl HSB.out
  obtain ⟨q0, _, _, _⟩ := H2.out.qf hn HQ.out
  rw [HA.out] at s6
  rw [HB.out] at s7
  have c0 := H2.out.c0
  have fq := fun k => H2.out.qfz k
  have fs := fun k => H2.out.hs.frozen k
  go_wp2_with fail
  go_region
  have h3 : ArenaC ((w2.setCell ⟨qb, n * 4, none⟩ (.int .i64 (b : Int))).setCell ⟨sb, b * 8 + 6, none⟩ (.int .i64 (-1))) pb sb (S.set b (sB.setAh (-1))) (some ⟨qb, 0, none⟩) qc (Q.set n { q with fst := b }) F :=
    (((H2.out.self hbl HSB.out).selfQ hn HQ.out).nextQ (k := 0) (y := { q with fst := b }) (v := .int .i64 (b : Int)) hn (by omega) rfl).nextS (k := 6) (y := sB.setAh (-1)) (v := .int .i64 (-1)) hbl (by omega) rfl
  have H3 := Lib.hid h3.drew
  have K3 : Hid (Keeps (fun g => g = pb ∨ g = sb ∨ g = qb) w ((w2.setCell ⟨qb, n * 4, none⟩ (.int .i64 (b : Int))).setCell ⟨sb, b * 8 + 6, none⟩ (.int .i64 (-1))).drew) :=
    Lib.hid ((K2.out.setCell (p := ⟨qb, n * 4, none⟩) (fun _ => by simp) _).setCell (p := ⟨sb, b * 8 + 6, none⟩) (fun _ => by simp) _).drew
  clear h3 s6 s7 b6 q0 c0 fq fs
  generalize ((w2.setCell ⟨qb, n * 4, none⟩ (.int .i64 (b : Int))).setCell ⟨sb, b * 8 + 6, none⟩ (.int .i64 (-1))).drew = w3 at *
  have hi3 : i < (S.set b (sB.setAh (-1))).length := by simpa using hi
  have hn3 : n < (Q.set n { q with fst := (b : Int) }).length := by simpa using hn
  have HSi : Hid ((S.set b (sB.setAh (-1)))[i]'hi3 = s) := Lib.hid (by rw [List.getElem_set_ne hbi]; exact HS.out)
  have HQi : Hid ((Q.set n { q with fst := (b : Int) })[n]'hn3 = { q with fst := (b : Int) }) := Lib.hid (by rw [List.getElem_set_self])
  obtain ⟨s0, s1, s2, s3, s4, s5, s6, s7⟩ := H3.out.sf hi3 HSi.out
  obtain ⟨_, _, _, q3⟩ := H3.out.qf hn3 HQi.out
  have c2 := H3.out.c2
  have fq := fun k => H3.out.qfz k
  have fs := fun k => H3.out.hs.frozen k
  have fp := fun k => H3.out.hp.frozen k
  go_wp2_with fail
  clear s0 s1 s2 s3 s4 s5 s6 s7 q3 c2 fq fs fp
  go_end0
  refine ⟨rfl, ?_, ?_⟩
  · have h0 := (H3.out.self hi3 HSi.out)
    have h1 := h0.nextQ (k := 3) (y := { q with fst := (b : Int), cnt := q.cnt - 1 }) (v := .int .i64 (q.cnt - 1)) hn (by omega) rfl
    have h2 := (h1.setF (F + 1)).next8 (y := Slt.none_) hi3
    rw [← HSB.out] at h2
    exact h2
  · refine K3.out.step (G := fun g => g = pb ∨ g = sb ∨ g = qb) ?_ fun _ _ x => x
    iterate 10 (with_reducible refine Keeps.setCell ?_ (fun _ => by simp) _)
    exact Keeps.refl _ _
end
end Go.Proofs.Ytmhljdkhekjfmaa

/- The walk of level.Arena.drop: the last of several; one in the middle. -/
namespace Go.Proofs.Ytmhljdkhekjfmaa
open Go.RowKit

section
variable {w : World} {pb sb qb : Nat} {S : List Slt} {qc : Nat} {Q : List Que} {F : Int}

set_option maxRecDepth 100000 in
set_option maxHeartbeats 1000000 in
/-- the last of several goes -/
theorem drop_last (h : ArenaC w pb sb S (some ⟨qb, 0, none⟩) qc Q F) (i n a : Nat) (s : Slt) (q : Que) (hi : i < S.length) (hn : n < Q.length) (hal : a < S.length) (hai : a ≠ i) (hs : S[i]'hi = s) (hq : Q[n]'hn = q) (hsn : s.q = n)
    (ha : s.ah = a) (hb : s.bk = -1) (hcnt : 1 ≤ q.cnt ∧ q.cnt ≤ 4096) (hF : 0 ≤ F ∧ F ≤ 4095) :
    Calls Try.prog 54 #[.pointer (some ⟨pb, 0, none⟩), .pointer (some ⟨sb, i * 8, none⟩)] w fun e w' => e = .returned (.tuple #[]) ∧ ArenaC w' pb sb ((S.set a ((S[a]'hal).setBk (-1))).set i Slt.none_) (some ⟨qb, 0, none⟩) qc (Q.set n { q with lst := a, cnt := q.cnt - 1 }) (F + 1) ∧ Keeps (fun g => g = pb ∨ g = sb ∨ g = qb) w w' := by
  obtain ⟨n1, n2, n3, n4, n5, n6⟩ := h.six
  have hm := h.many
  have hr := h.room
  have hn' : (n : Int) < (Q.length : Int) := by omega
  have hal' : (a : Int) < (S.length : Int) := by omega
  have ha1 : ((a : Int) == -1) = false := by rw [beq_eq_false_iff_ne]; omega
  have c1 := h.c1
  obtain ⟨_, _, _, _, _, s5, _, _⟩ := h.sf hi hs
  rw [hsn] at s5
  obtain ⟨sA, HSA⟩ : ∃ x, Hid (S[a]'hal = x) := ⟨_, rfl⟩
  have HS := Lib.hid hs
  have HQ := Lib.hid hq
  have HA := Lib.hid ha
  have HB := Lib.hid hb
  have H := Lib.hid h
  clear hs hq hsn ha hb h
  go_enter Try.func54, Try.ntmps54
  go_wp2
  go_quiet (fail)
  have H2 := Lib.hid (H.out.drewN nq)
  have K2 := Lib.hid ((Keeps.refl (fun g => g = pb ∨ g = sb ∨ g = qb) w).drewN nq)
  clear c1 s5
  generalize w.drewN nq = w2 at *
  obtain ⟨_, _, _, _, _, _, s6, s7⟩ := H2.out.sf hi HS.out
  obtain ⟨_, _, _, _, _, _, _, a7⟩ := H2.out.sf hal HSA.out
  rw [HA.out] at s6
  rw [HB.out] at s7
  have c0 := H2.out.c0
  have fq := fun k => H2.out.qfz k
  have fs := fun k => H2.out.hs.frozen k
  go_wp2_with fail
  go_region
  have h3 : ArenaC (w2.setCell ⟨sb, a * 8 + 7, none⟩ (.int .i64 (-1))) pb sb (S.set a (sA.setBk (-1))) (some ⟨qb, 0, none⟩) qc Q F :=
    (H2.out.self hal HSA.out).nextS (k := 7) (y := sA.setBk (-1)) (v := .int .i64 (-1)) hal (by omega) rfl
  have H3 := Lib.hid h3.drew
  have K3 : Hid (Keeps (fun g => g = pb ∨ g = sb ∨ g = qb) w (w2.setCell ⟨sb, a * 8 + 7, none⟩ (.int .i64 (-1))).drew) :=
    Lib.hid (K2.out.setCell (p := ⟨sb, a * 8 + 7, none⟩) (fun _ => by simp) _).drew
  clear h3 s6 s7 a7 c0 fq fs
  generalize (w2.setCell ⟨sb, a * 8 + 7, none⟩ (.int .i64 (-1))).drew = w3 at *
  have hi3 : i < (S.set a (sA.setBk (-1))).length := by simpa using hi
  have HSi : Hid ((S.set a (sA.setBk (-1)))[i]'hi3 = s) := Lib.hid (by rw [List.getElem_set_ne hai]; exact HS.out)
  obtain ⟨s0, s1, s2, s3, s4, s5, s6, s7⟩ := H3.out.sf hi3 HSi.out
  rw [HA.out] at s6
  rw [HB.out] at s7
  obtain ⟨_, q1, _, q3⟩ := H3.out.qf hn HQ.out
  have c2 := H3.out.c2
  have fq := fun k => H3.out.qfz k
  have fs := fun k => H3.out.hs.frozen k
  have fp := fun k => H3.out.hp.frozen k
  go_wp2_with fail
  clear s0 s1 s2 s3 s4 s5 s6 s7 q1 q3 c2 fq fs fp
  go_end0
  refine ⟨rfl, ?_, ?_⟩
  · have h0 := (H3.out.self hi3 HSi.out).selfQ hn HQ.out
    have h01 := h0.nextQ (k := 1) (y := { q with lst := (a : Int) }) (v := .int .i64 (a : Int)) hn (by omega) rfl
    have h1 := h01.nextQ (k := 3) (y := { q with lst := (a : Int), cnt := q.cnt - 1 }) (v := .int .i64 (q.cnt - 1)) hn (by omega) rfl
    have h2 := (h1.setF (F + 1)).next8 (y := Slt.none_) hi3
    rw [← HSA.out] at h2
    exact h2
  · refine K3.out.step (G := fun g => g = pb ∨ g = sb ∨ g = qb) ?_ fun _ _ x => x
    iterate 11 (with_reducible refine Keeps.setCell ?_ (fun _ => by simp) _)
    exact Keeps.refl _ _

set_option maxRecDepth 100000 in
set_option maxHeartbeats 2000000 in
/-- one in the middle goes -/
theorem drop_mid (h : ArenaC w pb sb S (some ⟨qb, 0, none⟩) qc Q F) (i n a b : Nat) (s : Slt) (q : Que) (hi : i < S.length) (hn : n < Q.length) (hal : a < S.length) (hai : a ≠ i) (hbl : b < S.length) (hbi : b ≠ i) (hab : a ≠ b) (hs : S[i]'hi = s) (hq : Q[n]'hn = q) (hsn : s.q = n)
    (ha : s.ah = a) (hb : s.bk = b) (hcnt : 1 ≤ q.cnt ∧ q.cnt ≤ 4096) (hF : 0 ≤ F ∧ F ≤ 4095) :
    Calls Try.prog 54 #[.pointer (some ⟨pb, 0, none⟩), .pointer (some ⟨sb, i * 8, none⟩)] w fun e w' => e = .returned (.tuple #[]) ∧ ArenaC w' pb sb (((S.set a ((S[a]'hal).setBk b)).set b ((S[b]'hbl).setAh a)).set i Slt.none_) (some ⟨qb, 0, none⟩) qc (Q.set n { q with cnt := q.cnt - 1 }) (F + 1) ∧ Keeps (fun g => g = pb ∨ g = sb ∨ g = qb) w w' := by
  obtain ⟨n1, n2, n3, n4, n5, n6⟩ := h.six
  have hm := h.many
  have hr := h.room
  have hn' : (n : Int) < (Q.length : Int) := by omega
  have hal' : (a : Int) < (S.length : Int) := by omega
  have hbl' : (b : Int) < (S.length : Int) := by omega
  have ha1 : ((a : Int) == -1) = false := by rw [beq_eq_false_iff_ne]; omega
  have hb1 : ((b : Int) == -1) = false := by rw [beq_eq_false_iff_ne]; omega
  have c1 := h.c1
  obtain ⟨_, _, _, _, _, s5, _, _⟩ := h.sf hi hs
  rw [hsn] at s5
  obtain ⟨sA, HSA⟩ : ∃ x, Hid (S[a]'hal = x) := ⟨_, rfl⟩
  obtain ⟨sB, HSB⟩ : ∃ x, Hid (S[b]'hbl = x) := ⟨_, rfl⟩
  have HS := Lib.hid hs
  have HQ := Lib.hid hq
  have HA := Lib.hid ha
  have HB := Lib.hid hb
  have H := Lib.hid h
  have NE := Lib.hid hab
  clear hs hq hsn ha hb h hab
  go_enter Try.func54, Try.ntmps54
  go_wp2
  go_quiet (fail)
  have H2 := Lib.hid (H.out.drewN nq)
  have K2 := Lib.hid ((Keeps.refl (fun g => g = pb ∨ g = sb ∨ g = qb) w).drewN nq)
  clear c1 s5
  generalize w.drewN nq = w2 at *
  obtain ⟨_, _, _, _, _, _, s6, s7⟩ := H2.out.sf hi HS.out
  obtain ⟨_, _, _, _, _, _, _, a7⟩ := H2.out.sf hal HSA.out
  rw [HA.out] at s6
  rw [HB.out] at s7
  have c0 := H2.out.c0
  have fs := fun k => H2.out.hs.frozen k
  go_wp2_with fail
  go_region
  have h3 : ArenaC (w2.setCell ⟨sb, a * 8 + 7, none⟩ (.int .i64 (b : Int))) pb sb (S.set a (sA.setBk b)) (some ⟨qb, 0, none⟩) qc Q F :=
    (H2.out.self hal HSA.out).nextS (k := 7) (y := sA.setBk b) (v := .int .i64 (b : Int)) hal (by omega) rfl
  have H3 := Lib.hid h3.drew
  have K3 : Hid (Keeps (fun g => g = pb ∨ g = sb ∨ g = qb) w (w2.setCell ⟨sb, a * 8 + 7, none⟩ (.int .i64 (b : Int))).drew) :=
    Lib.hid (K2.out.setCell (p := ⟨sb, a * 8 + 7, none⟩) (fun _ => by simp) _).drew
  clear h3 s6 s7 a7 c0 fs
  generalize (w2.setCell ⟨sb, a * 8 + 7, none⟩ (.int .i64 (b : Int))).drew = w3 at *
  have hz3 : (S.set a (sA.setBk b)).length = S.length := by simp
  have hi3 : i < (S.set a (sA.setBk b)).length := by omega
  have hb3 : b < (S.set a (sA.setBk b)).length := by omega
  have HSi : Hid ((S.set a (sA.setBk b))[i]'hi3 = s) := Lib.hid (by rw [List.getElem_set_ne hai]; exact HS.out)
  have HSb : Hid ((S.set a (sA.setBk b))[b]'hb3 = sB) := Lib.hid (by rw [List.getElem_set_ne NE.out]; exact HSB.out)
  have HZ3 := Lib.hid hz3
  obtain ⟨_, _, _, _, _, _, s6, s7⟩ := H3.out.sf hi3 HSi.out
  obtain ⟨_, _, _, _, _, _, b6, _⟩ := H3.out.sf hb3 HSb.out
  rw [HA.out] at s6
  rw [HB.out] at s7
  have c0 := H3.out.c0
  rw [hz3] at c0
  have fs := fun k => H3.out.hs.frozen k
  clear hz3
  generalize hS3 : S.set a (sA.setBk b) = S3 at *
  have HS3 := Lib.hid hS3
  clear hS3
  go_wp2_with fail
  go_region
  have h4 : ArenaC (w3.setCell ⟨sb, b * 8 + 6, none⟩ (.int .i64 (a : Int))) pb sb (S3.set b (sB.setAh a)) (some ⟨qb, 0, none⟩) qc Q F :=
    (H3.out.self hb3 HSb.out).nextS (k := 6) (y := sB.setAh a) (v := .int .i64 (a : Int)) hb3 (by omega) rfl
  have H4 := Lib.hid h4.drew
  have K4 : Hid (Keeps (fun g => g = pb ∨ g = sb ∨ g = qb) w (w3.setCell ⟨sb, b * 8 + 6, none⟩ (.int .i64 (a : Int))).drew) :=
    Lib.hid (K3.out.setCell (p := ⟨sb, b * 8 + 6, none⟩) (fun _ => by simp) _).drew
  clear h4 s6 s7 b6 c0 fs
  generalize (w3.setCell ⟨sb, b * 8 + 6, none⟩ (.int .i64 (a : Int))).drew = w4 at *
  have hi4 : i < (S3.set b (sB.setAh a)).length := by simpa using hi3
  have HSi4 : Hid ((S3.set b (sB.setAh a))[i]'hi4 = s) := Lib.hid (by rw [List.getElem_set_ne hbi]; exact HSi.out)
  obtain ⟨s0, s1, s2, s3, s4, s5, s6, s7⟩ := H4.out.sf hi4 HSi4.out
  obtain ⟨_, _, _, q3⟩ := H4.out.qf hn HQ.out
  have c2 := H4.out.c2
  have fq := fun k => H4.out.qfz k
  have fs := fun k => H4.out.hs.frozen k
  have fp := fun k => H4.out.hp.frozen k
  go_wp2_with fail
  clear s0 s1 s2 s3 s4 s5 s6 s7 q3 c2 fq fs fp
  go_end0
  refine ⟨rfl, ?_, ?_⟩
  · have h0 := (H4.out.self hi4 HSi4.out).selfQ hn HQ.out
    have h1 := h0.nextQ (k := 3) (y := { q with cnt := q.cnt - 1 }) (v := .int .i64 (q.cnt - 1)) hn (by omega) rfl
    have h2 := (h1.setF (F + 1)).next8 (y := Slt.none_) hi4
    rw [← HS3.out, ← HSB.out, ← HSA.out] at h2
    exact h2
  · refine K4.out.step (G := fun g => g = pb ∨ g = sb ∨ g = qb) ?_ fun _ _ x => x
    iterate 10 (with_reducible refine Keeps.setCell ?_ (fun _ => by simp) _)
    exact Keeps.refl _ _
end
end Go.Proofs.Ytmhljdkhekjfmaa

/- The walk of level.Arena.Push. -/
namespace Go.Proofs.Ytmhljdkhekjfmaa
open Go.RowKit

set_option maxHeartbeats 400000 in
theorem unused_any (s : Slt) (w : World) :
    Calls Try.prog 50 #[.agg s.cells.toArray] w fun e w' => e = .returned (.bool (!s.used)) ∧ Below w.heap.size w w' := by
  obtain ⟨u, a1, a2, a3, a4, a5, a6, a7⟩ := s
  show Calls Try.prog 50 #[.agg #[.bool u, .int .i64 a1, .int .i64 a2, .int .i64 a3, .bool a4, .int .i64 a5, .int .i64 a6, .int .i64 a7]] w fun e w' => e = .returned (.bool (!u)) ∧ Below w.heap.size w w'
  go_enter Try.func50, Try.ntmps50
  go_wp2
  go_ret
  exact ⟨rfl, (Below.refl _ _).alloc (Nat.le_refl _) _⟩

theorem slt_cells {w : World} {sb : Nat} {S : List Slt} (h : Blk w sb 110 (S.flatMap Slt.cells).toArray) {i : Nat} (hi : i < S.length) {s : Slt} (hs : S[i]'hi = s) :
    w.cell? ⟨sb, i * 8, none⟩ = some (.bool s.used) ∧ w.cell? ⟨sb, i * 8 + 1, none⟩ = some (.int .i64 s.slot) ∧ w.cell? ⟨sb, i * 8 + 2, none⟩ = some (.int .i64 s.id) ∧ w.cell? ⟨sb, i * 8 + 3, none⟩ = some (.int .i64 s.qty) ∧
    w.cell? ⟨sb, i * 8 + 4, none⟩ = some (.bool s.top) ∧ w.cell? ⟨sb, i * 8 + 5, none⟩ = some (.int .i64 s.q) ∧ w.cell? ⟨sb, i * 8 + 6, none⟩ = some (.int .i64 s.ah) ∧ w.cell? ⟨sb, i * 8 + 7, none⟩ = some (.int .i64 s.bk) := by
  subst hs
  have g : ∀ k, k < 8 → w.cell? ⟨sb, i * 8 + k, none⟩ = (S[i]'hi).cells[k]? := fun k hk => by
    rw [h.cell, List.getElem?_toArray]
    exact fm_get Slt.cells 8 Slt.len S i k hi hk
  exact ⟨g 0 (by omega), g 1 (by omega), g 2 (by omega), g 3 (by omega), g 4 (by omega), g 5 (by omega), g 6 (by omega), g 7 (by omega)⟩

set_option maxHeartbeats 400000 in
theorem index_any {w : World} {sb : Nat} {S : List Slt} (h : Blk w sb 110 (S.flatMap Slt.cells).toArray) (hr : S.length ≤ 4096) (r : Nat) (hfree : (∀ j (hj : j < S.length), j < r → (S[j]'hj).used = true)) (hrl : r < S.length) (hru : (S[r]'hrl).used = false) :
    Calls Try.prog 49 #[.slice (some ⟨sb, 0, none⟩) S.length S.length, .func (Fn.func 50) #[] #[]] w fun e w' => e = .returned (.int .i64 r) ∧ Below w.heap.size w w' := by
  have HF := Lib.hid hfree
  have HR := Lib.hid hru
  have H := Lib.hid h
  clear hfree hru h
  go_enter Try.func49, Try.ntmps49
  go_wp2
  go_loopw [8] (fun i w' => ∃ k : Nat, i = .int .i64 k ∧ k ≤ r ∧ Below w.heap.size w w') (fun i _ => S.length - (intOf i).toNat)
  case atStart => exact ⟨0, rfl, by omega, Below.refl _ _⟩
  case round =>
    obtain ⟨k, rfl, hk, hbw⟩ := hrel
    have HB := Lib.hid hbw
    have hkl : k < S.length := by omega
    have hB := (H.out.lt : sb < w.heap.size)
    have hblk : Blk wr sb 110 (S.flatMap Slt.cells).toArray := (hbw.block sb hB).trans H.out
    obtain ⟨s, HS⟩ : ∃ x, Hid (S[k]'hkl = x) := ⟨_, rfl⟩
    obtain ⟨s0, s1, s2, s3, s4, s5, s6, s7⟩ := slt_cells hblk hkl HS.out
    clear hbw hblk
    by_cases hkr : k = r
    · have hu : s.used = false := by subst hkr; rw [← HS.out]; exact HR.out
      have HU := Lib.hid hu
      have HK := Lib.hid hkr
      clear hu hkr
      go_wp2_with (go_at_call 50; refine (unused_any s _).mono ?_; rintro e w1 ⟨rfl, h1⟩; rw [HU.out])
      go_ret
      exact ⟨by rw [← HK.out]; rfl, HB.out.trans (h1.mono HB.out.size)⟩
    · have hu : s.used = true := by rw [← HS.out]; exact HF.out k hkl (by omega)
      have HU := Lib.hid hu
      clear hu
      go_wp2_with (go_at_call 50; refine (unused_any s _).mono ?_; rintro e w1 ⟨rfl, h1⟩; rw [HU.out])
      go_roundw
      case rel => exact ⟨k + 1, by go_num, by omega, HB.out.trans (h1.mono HB.out.size)⟩
      case measure => simp [intOf]; omega

section
variable {w : World} {pb sb qb : Nat} {S : List Slt} {qc : Nat} {Q : List Que} {F : Int}

theorem ArenaC.same {qa : Option Addr} {w1 : World} (h : ArenaC w pb sb S qa qc Q F) (hk : ∀ k, k < w.heap.size → w1.heap[k]? = w.heap[k]?) : ArenaC w1 pb sb S qa qc Q F := by
  refine ⟨(hk _ h.hp.lt).trans h.hp, (hk _ h.hs.lt).trans h.hs, ⟨h.hq.1, ?_⟩, h.room, h.many⟩
  rcases h.hq.2 with h2 | ⟨g, cap, cur, hv, hb, hh, r⟩
  · exact .inl h2
  · have hlt : g < w.heap.size := by
      rcases Nat.lt_or_ge g w.heap.size with hlt | hge
      · exact hlt
      · rw [Array.getElem?_eq_none hge] at hh; cases hh
    exact .inr ⟨g, cap, cur, hv, hb, (hk g hlt).trans hh, r⟩

/-- the order that a push lays -/
def Slt.mk_ (r : Nat) (id qty : Int) (top : Bool) (n : Nat) (ah : Int) : Slt := ⟨true, r, id, qty, top, n, ah, -1⟩

set_option maxRecDepth 100000 in
set_option maxHeartbeats 1000000 in
theorem push_first (h : ArenaC w pb sb S (some ⟨qb, 0, none⟩) qc Q F) (n r : Nat) (q : Que) (hn : n < Q.length) (hq : Q[n]'hn = q) (id qty : Int) (top : Bool) (hq1 : 1 ≤ qty) (hq2 : qty ≤ 1000000) (hF : 1 ≤ F ∧ F ≤ 4096)
    (hfree : (∀ j (hj : j < S.length), j < r → (S[j]'hj).used = true)) (hrl : r < S.length) (hru : (S[r]'hrl).used = false) (hl : q.lst = -1) (ht : 0 ≤ q.tot ∧ q.tot ≤ 4096000000) (hc : 0 ≤ q.cnt ∧ q.cnt ≤ 4096) :
    Calls Try.prog 29 #[.pointer (some ⟨pb, 0, none⟩), .int .i64 n, .int .i64 id, .int .i64 qty, .bool top] w fun e w' => e = .returned (.tuple #[.int .i64 r, .int .i64 0]) ∧ ArenaC w' pb sb (S.set r (Slt.mk_ r id qty top n (-1))) (some ⟨qb, 0, none⟩) qc (Q.set n ⟨r, r, q.tot + qty, q.cnt + 1⟩) (F - 1) ∧ Keeps (fun g => g = pb ∨ g = sb ∨ g = qb) w w' := by
  have hb : Hid ((decide ((0 : Int) ≤ n) && decide ((n : Int) < (Q.length : Int))) = true) := Lib.hid (by simp; omega)
  have hn' : (n : Int) < (Q.length : Int) := by omega
  have hr' : (r : Int) < (S.length : Int) := by omega
  have hr := h.room
  have hm := h.many
  have c0 := h.c0
  have c1 := h.c1
  have c2 := h.c2
  have hF' : (F == 0) = false := by rw [beq_eq_false_iff_ne]; omega
  have H := Lib.hid h
  have HQ := Lib.hid hq
  have HL := Lib.hid hl
  have HI := Lib.hid (index_any h.hs hr r hfree hrl hru)
  obtain ⟨n1, n2, n3, n4, n5, n6⟩ := h.six
  clear hfree hru hq hl h
  go_enter Try.func29, Try.ntmps29
  go_wp2_with (go_at_call 48; refine (is_any H.out n).mono ?_; rintro e w1 ⟨rfl, rfl⟩; rw [hb.out])
  refine HI.out.mono ?_
  rintro e w2 ⟨rfl, hw2⟩
  have H2 := Lib.hid (H.out.same hw2.block)
  have K2 := Lib.hid (Below.keeps (F := fun g => g = pb ∨ g = sb ∨ g = qb) hw2)
  clear c0 c1 c2 hw2 HI
  have c0 := H2.out.c0
  have c1 := H2.out.c1
  have fs := fun k => H2.out.hs.frozen k
  obtain ⟨s0, s1, s2, s3, s4, s5, s6, s7⟩ := H2.out.sf hrl rfl
  obtain ⟨q0, q1, q2, q3⟩ := H2.out.qf hn HQ.out
  rw [HL.out] at q1
  generalize S[r]'hrl = old at *
  go_wp2_with fail
  go_region
  have h3 : ArenaC ((((((((w2.setCell ⟨sb, r * 8, none⟩ (.bool true)).setCell ⟨sb, r * 8 + 1, none⟩ (.int .i64 (r : Int))).setCell ⟨sb, r * 8 + 2, none⟩ (.int .i64 id)).setCell ⟨sb, r * 8 + 3, none⟩ (.int .i64 qty)).setCell ⟨sb, r * 8 + 4, none⟩ (.bool top)).setCell ⟨sb, r * 8 + 5, none⟩ (.int .i64 (n : Int))).setCell ⟨sb, r * 8 + 6, none⟩ (.int .i64 (-1))).setCell ⟨sb, r * 8 + 7, none⟩ (.int .i64 (-1))) pb sb (S.set r (Slt.mk_ r id qty top n (-1))) (some ⟨qb, 0, none⟩) qc (Q.set n q) F :=
    ((H2.out.self hrl rfl).selfQ hn HQ.out).next8 (y := Slt.mk_ r id qty top n (-1)) hrl
  have H3 := Lib.hid h3.drew
  have K3 : Hid (Keeps (fun g => g = pb ∨ g = sb ∨ g = qb) w ((((((((w2.setCell ⟨sb, r * 8, none⟩ (.bool true)).setCell ⟨sb, r * 8 + 1, none⟩ (.int .i64 (r : Int))).setCell ⟨sb, r * 8 + 2, none⟩ (.int .i64 id)).setCell ⟨sb, r * 8 + 3, none⟩ (.int .i64 qty)).setCell ⟨sb, r * 8 + 4, none⟩ (.bool top)).setCell ⟨sb, r * 8 + 5, none⟩ (.int .i64 (n : Int))).setCell ⟨sb, r * 8 + 6, none⟩ (.int .i64 (-1))).setCell ⟨sb, r * 8 + 7, none⟩ (.int .i64 (-1))).drew) := by
    refine Lib.hid (Keeps.drew ?_)
    refine K2.out.step (G := fun g => g = pb ∨ g = sb ∨ g = qb) ?_ fun _ _ x => x
    iterate 8 (with_reducible refine Keeps.setCell ?_ (fun _ => by simp) _)
    exact Keeps.refl _ _
  clear h3 s0 s1 s2 s3 s4 s5 s6 s7 q0 q1 q2 q3 c0 c1 fs
  generalize ((((((((w2.setCell ⟨sb, r * 8, none⟩ (.bool true)).setCell ⟨sb, r * 8 + 1, none⟩ (.int .i64 (r : Int))).setCell ⟨sb, r * 8 + 2, none⟩ (.int .i64 id)).setCell ⟨sb, r * 8 + 3, none⟩ (.int .i64 qty)).setCell ⟨sb, r * 8 + 4, none⟩ (.bool top)).setCell ⟨sb, r * 8 + 5, none⟩ (.int .i64 (n : Int))).setCell ⟨sb, r * 8 + 6, none⟩ (.int .i64 (-1))).setCell ⟨sb, r * 8 + 7, none⟩ (.int .i64 (-1))).drew = w3 at *
  have hn3 : n < (Q.set n q).length := by simpa using hn
  have HQ3 : Hid ((Q.set n q)[n]'hn3 = q) := Lib.hid (by rw [List.getElem_set_self])
  obtain ⟨q0, q1, q2, q3⟩ := H3.out.qf hn3 HQ3.out
  rw [HL.out] at q1
  have c2 := H3.out.c2
  have fq := fun k => H3.out.qfz k
  have fp := fun k => H3.out.hp.frozen k
  go_wp2_with fail
  clear q0 q1 q2 q3 c2 fq fp
  go_ret2
  refine ⟨rfl, ?_, ?_⟩
  · have h1 := H3.out.nextQ (k := 0) (y := { q with fst := (r : Int) }) (v := .int .i64 (r : Int)) hn (by omega) rfl
    have h2 := h1.nextQ (k := 1) (y := { q with fst := (r : Int), lst := (r : Int) }) (v := .int .i64 (r : Int)) hn (by omega) rfl
    have h3 := h2.nextQ (k := 2) (y := { q with fst := (r : Int), lst := (r : Int), tot := q.tot + qty }) (v := .int .i64 (q.tot + qty)) hn (by omega) rfl
    have h4 := h3.nextQ (k := 3) (y := ⟨r, r, q.tot + qty, q.cnt + 1⟩) (v := .int .i64 (q.cnt + 1)) hn (by omega) rfl
    exact h4.setF (F - 1)
  · refine K3.out.step (G := fun g => g = pb ∨ g = sb ∨ g = qb) ?_ fun _ _ x => x
    iterate 5 (with_reducible refine Keeps.setCell ?_ (fun _ => by simp) _)
    exact Keeps.refl _ _
end
end Go.Proofs.Ytmhljdkhekjfmaa

/- The walk of level.Arena.Push: behind another order. -/
namespace Go.Proofs.Ytmhljdkhekjfmaa
open Go.RowKit

section
variable {w : World} {pb sb qb : Nat} {S : List Slt} {qc : Nat} {Q : List Que} {F : Int}
set_option maxRecDepth 100000 in
set_option maxHeartbeats 1000000 in
theorem push_next (h : ArenaC w pb sb S (some ⟨qb, 0, none⟩) qc Q F) (n r l : Nat) (q : Que) (hll : l < S.length) (hlr : l ≠ r) (hn : n < Q.length) (hq : Q[n]'hn = q) (id qty : Int) (top : Bool) (hq1 : 1 ≤ qty) (hq2 : qty ≤ 1000000) (hF : 1 ≤ F ∧ F ≤ 4096)
    (hfree : (∀ j (hj : j < S.length), j < r → (S[j]'hj).used = true)) (hrl : r < S.length) (hru : (S[r]'hrl).used = false) (hl : q.lst = l) (ht : 0 ≤ q.tot ∧ q.tot ≤ 4096000000) (hc : 0 ≤ q.cnt ∧ q.cnt ≤ 4096) :
    Calls Try.prog 29 #[.pointer (some ⟨pb, 0, none⟩), .int .i64 n, .int .i64 id, .int .i64 qty, .bool top] w fun e w' => e = .returned (.tuple #[.int .i64 r, .int .i64 0]) ∧ ArenaC w' pb sb ((S.set r (Slt.mk_ r id qty top n l)).set l ((S[l]'hll).setBk r)) (some ⟨qb, 0, none⟩) qc (Q.set n ⟨q.fst, r, q.tot + qty, q.cnt + 1⟩) (F - 1) ∧ Keeps (fun g => g = pb ∨ g = sb ∨ g = qb) w w' := by
  have hb : Hid ((decide ((0 : Int) ≤ n) && decide ((n : Int) < (Q.length : Int))) = true) := Lib.hid (by simp; omega)
  have hn' : (n : Int) < (Q.length : Int) := by omega
  have hll' : (l : Int) < (S.length : Int) := by omega
  have hl1 : ((l : Int) == -1) = false := by rw [beq_eq_false_iff_ne]; omega
  obtain ⟨sL, HSL⟩ : ∃ x, Hid (S[l]'hll = x) := ⟨_, rfl⟩
  have NE := Lib.hid hlr
  have hr' : (r : Int) < (S.length : Int) := by omega
  have hr := h.room
  have hm := h.many
  have c0 := h.c0
  have c1 := h.c1
  have c2 := h.c2
  have hF' : (F == 0) = false := by rw [beq_eq_false_iff_ne]; omega
  have H := Lib.hid h
  have HQ := Lib.hid hq
  have HL := Lib.hid hl
  have HI := Lib.hid (index_any h.hs hr r hfree hrl hru)
  obtain ⟨n1, n2, n3, n4, n5, n6⟩ := h.six
  clear hfree hru hq hl h hlr
  go_enter Try.func29, Try.ntmps29
  go_wp2_with (go_at_call 48; refine (is_any H.out n).mono ?_; rintro e w1 ⟨rfl, rfl⟩; rw [hb.out])
  refine HI.out.mono ?_
  rintro e w2 ⟨rfl, hw2⟩
  have H2 := Lib.hid (H.out.same hw2.block)
  have K2 := Lib.hid (Below.keeps (F := fun g => g = pb ∨ g = sb ∨ g = qb) hw2)
  clear c0 c1 c2 hw2 HI
  have c0 := H2.out.c0
  have c1 := H2.out.c1
  have fs := fun k => H2.out.hs.frozen k
  obtain ⟨s0, s1, s2, s3, s4, s5, s6, s7⟩ := H2.out.sf hrl rfl
  obtain ⟨q0, q1, q2, q3⟩ := H2.out.qf hn HQ.out
  rw [HL.out] at q1
  generalize S[r]'hrl = old at *
  go_wp2_with fail
  go_region
  have h3 : ArenaC ((((((((w2.setCell ⟨sb, r * 8, none⟩ (.bool true)).setCell ⟨sb, r * 8 + 1, none⟩ (.int .i64 (r : Int))).setCell ⟨sb, r * 8 + 2, none⟩ (.int .i64 id)).setCell ⟨sb, r * 8 + 3, none⟩ (.int .i64 qty)).setCell ⟨sb, r * 8 + 4, none⟩ (.bool top)).setCell ⟨sb, r * 8 + 5, none⟩ (.int .i64 (n : Int))).setCell ⟨sb, r * 8 + 6, none⟩ (.int .i64 (l : Int))).setCell ⟨sb, r * 8 + 7, none⟩ (.int .i64 (-1))) pb sb (S.set r (Slt.mk_ r id qty top n l)) (some ⟨qb, 0, none⟩) qc (Q.set n q) F :=
    ((H2.out.self hrl rfl).selfQ hn HQ.out).next8 (y := Slt.mk_ r id qty top n l) hrl
  have H3 := Lib.hid h3.drew
  have K3 : Hid (Keeps (fun g => g = pb ∨ g = sb ∨ g = qb) w ((((((((w2.setCell ⟨sb, r * 8, none⟩ (.bool true)).setCell ⟨sb, r * 8 + 1, none⟩ (.int .i64 (r : Int))).setCell ⟨sb, r * 8 + 2, none⟩ (.int .i64 id)).setCell ⟨sb, r * 8 + 3, none⟩ (.int .i64 qty)).setCell ⟨sb, r * 8 + 4, none⟩ (.bool top)).setCell ⟨sb, r * 8 + 5, none⟩ (.int .i64 (n : Int))).setCell ⟨sb, r * 8 + 6, none⟩ (.int .i64 (l : Int))).setCell ⟨sb, r * 8 + 7, none⟩ (.int .i64 (-1))).drew) := by
    refine Lib.hid (Keeps.drew ?_)
    refine K2.out.step (G := fun g => g = pb ∨ g = sb ∨ g = qb) ?_ fun _ _ x => x
    iterate 8 (with_reducible refine Keeps.setCell ?_ (fun _ => by simp) _)
    exact Keeps.refl _ _
  clear h3 s0 s1 s2 s3 s4 s5 s6 s7 q0 q1 q2 q3 c0 c1 fs
  generalize ((((((((w2.setCell ⟨sb, r * 8, none⟩ (.bool true)).setCell ⟨sb, r * 8 + 1, none⟩ (.int .i64 (r : Int))).setCell ⟨sb, r * 8 + 2, none⟩ (.int .i64 id)).setCell ⟨sb, r * 8 + 3, none⟩ (.int .i64 qty)).setCell ⟨sb, r * 8 + 4, none⟩ (.bool top)).setCell ⟨sb, r * 8 + 5, none⟩ (.int .i64 (n : Int))).setCell ⟨sb, r * 8 + 6, none⟩ (.int .i64 (l : Int))).setCell ⟨sb, r * 8 + 7, none⟩ (.int .i64 (-1))).drew = w3 at *
  have hz3 : (S.set r (Slt.mk_ r id qty top n l)).length = S.length := by simp
  have hl3 : l < (S.set r (Slt.mk_ r id qty top n l)).length := by omega
  have HSl : Hid ((S.set r (Slt.mk_ r id qty top n l))[l]'hl3 = sL) := Lib.hid (by rw [List.getElem_set_ne NE.out.symm]; exact HSL.out)
  have hn3 : n < (Q.set n q).length := by simpa using hn
  have HQ3 : Hid ((Q.set n q)[n]'hn3 = q) := Lib.hid (by rw [List.getElem_set_self])
  obtain ⟨q0, q1, q2, q3⟩ := H3.out.qf hn3 HQ3.out
  rw [HL.out] at q1
  obtain ⟨_, _, _, _, _, _, _, l7⟩ := H3.out.sf hl3 HSl.out
  have c0 := H3.out.c0
  rw [hz3] at c0
  have fs := fun k => H3.out.hs.frozen k
  clear hz3
  generalize hS3 : S.set r (Slt.mk_ r id qty top n l) = S3 at *
  have HS3 := Lib.hid hS3
  clear hS3
  go_wp2_with fail
  go_region
  have h4 : ArenaC (w3.setCell ⟨sb, l * 8 + 7, none⟩ (.int .i64 (r : Int))) pb sb (S3.set l (sL.setBk r)) (some ⟨qb, 0, none⟩) qc (Q.set n q) F :=
    (H3.out.self hl3 HSl.out).nextS (k := 7) (y := sL.setBk r) (v := .int .i64 (r : Int)) hl3 (by omega) rfl
  have H4 := Lib.hid h4.drew
  have K4 : Hid (Keeps (fun g => g = pb ∨ g = sb ∨ g = qb) w (w3.setCell ⟨sb, l * 8 + 7, none⟩ (.int .i64 (r : Int))).drew) :=
    Lib.hid (K3.out.setCell (p := ⟨sb, l * 8 + 7, none⟩) (fun _ => by simp) _).drew
  clear h4 q0 q1 q2 q3 l7 c0 fs
  generalize (w3.setCell ⟨sb, l * 8 + 7, none⟩ (.int .i64 (r : Int))).drew = w4 at *
  obtain ⟨q0, q1, q2, q3⟩ := H4.out.qf hn3 HQ3.out
  rw [HL.out] at q1
  have c2 := H4.out.c2
  have fq := fun k => H4.out.qfz k
  have fp := fun k => H4.out.hp.frozen k
  go_wp2_with fail
  clear q0 q1 q2 q3 c2 fq fp
  go_ret2
  refine ⟨rfl, ?_, ?_⟩
  · have h2 := H4.out.nextQ (k := 1) (y := { q with lst := (r : Int) }) (v := .int .i64 (r : Int)) hn (by omega) rfl
    have h3 := h2.nextQ (k := 2) (y := { q with lst := (r : Int), tot := q.tot + qty }) (v := .int .i64 (q.tot + qty)) hn (by omega) rfl
    have h4 := h3.nextQ (k := 3) (y := ⟨q.fst, r, q.tot + qty, q.cnt + 1⟩) (v := .int .i64 (q.cnt + 1)) hn (by omega) rfl
    have h5 := h4.setF (F - 1)
    rw [← HS3.out, ← HSL.out] at h5
    exact h5
  · refine K4.out.step (G := fun g => g = pb ∨ g = sb ∨ g = qb) ?_ fun _ _ x => x
    iterate 4 (with_reducible refine Keeps.setCell ?_ (fun _ => by simp) _)
    exact Keeps.refl _ _
end
end Go.Proofs.Ytmhljdkhekjfmaa

/- The walks of level.Arena.Push refused, Get. -/
namespace Go.Proofs.Ytmhljdkhekjfmaa
open Go.RowKit

section
variable {w : World} {pb sb : Nat} {S : List Slt} {qa : Option Addr} {qc : Nat} {Q : List Que} {F : Int}
set_option maxHeartbeats 400000 in
theorem push_none (h : ArenaC w pb sb S qa qc Q F) (n id qty : Int) (top : Bool) (hn : n < 0 ∨ (Q.length : Int) ≤ n) :
    Calls Try.prog 29 #[.pointer (some ⟨pb, 0, none⟩), .int .i64 n, .int .i64 id, .int .i64 qty, .bool top] w fun e w' => e = .returned (.tuple #[.int .i64 0, .int .i64 26]) ∧ w = w' := by
  have hb : Hid ((decide (0 ≤ n) && decide (n < (Q.length : Int))) = false) := Lib.hid (by simp; omega)
  have H := Lib.hid h
  clear h hn
  go_enter Try.func29, Try.ntmps29
  go_wp2_with (go_at_call 48; refine (is_any H.out n).mono ?_; rintro e w1 ⟨rfl, rfl⟩; rw [hb.out])
  go_ret2
  exact ⟨rfl, rfl⟩
set_option maxHeartbeats 400000 in
theorem push_qty (h : ArenaC w pb sb S qa qc Q F) (n id qty : Int) (top : Bool) (hn : 0 ≤ n ∧ n < (Q.length : Int)) (hq : qty < 1 ∨ 1000000 < qty) :
    Calls Try.prog 29 #[.pointer (some ⟨pb, 0, none⟩), .int .i64 n, .int .i64 id, .int .i64 qty, .bool top] w fun e w' => e = .returned (.tuple #[.int .i64 0, .int .i64 24]) ∧ w = w' := by
  have hb : Hid ((decide (0 ≤ n) && decide (n < (Q.length : Int))) = true) := Lib.hid (by simp; omega)
  have H := Lib.hid h
  clear h hn
  rcases hq with hq | hq
  · go_enter Try.func29, Try.ntmps29
    go_wp2_with (go_at_call 48; refine (is_any H.out n).mono ?_; rintro e w1 ⟨rfl, rfl⟩; rw [hb.out])
    go_ret2
    exact ⟨rfl, rfl⟩
  · have h1 : ¬ qty < 1 := by omega
    go_enter Try.func29, Try.ntmps29
    go_wp2_with (go_at_call 48; refine (is_any H.out n).mono ?_; rintro e w1 ⟨rfl, rfl⟩; rw [hb.out])
    go_ret2
    exact ⟨rfl, rfl⟩
set_option maxHeartbeats 400000 in
theorem push_full (h : ArenaC w pb sb S qa qc Q F) (n id qty : Int) (top : Bool) (hn : 0 ≤ n ∧ n < (Q.length : Int)) (hq : 1 ≤ qty) (hq2 : qty ≤ 1000000) (hF : F = 0) :
    Calls Try.prog 29 #[.pointer (some ⟨pb, 0, none⟩), .int .i64 n, .int .i64 id, .int .i64 qty, .bool top] w fun e w' => e = .returned (.tuple #[.int .i64 0, .int .i64 13]) ∧ w = w' := by
  have hb : Hid ((decide (0 ≤ n) && decide (n < (Q.length : Int))) = true) := Lib.hid (by simp; omega)
  subst hF
  have c2 := h.c2
  have H := Lib.hid h
  clear h hn
  go_enter Try.func29, Try.ntmps29
  go_wp2_with (go_at_call 48; refine (is_any H.out n).mono ?_; rintro e w1 ⟨rfl, rfl⟩; rw [hb.out])
  go_ret2
  exact ⟨rfl, rfl⟩
end
end Go.Proofs.Ytmhljdkhekjfmaa

/- The walk of level.Arena.Get. -/
namespace Go.Proofs.Ytmhljdkhekjfmaa
open Go.RowKit

section
variable {w : World} {pb sb : Nat} {S : List Slt} {qa : Option Addr} {qc : Nat} {Q : List Que} {F : Int}
set_option maxHeartbeats 400000 in
theorem get_no (h : ArenaC w pb sb S qa qc Q F) (n : Int) (hn : slotPtr sb S n = .pointer none) :
    Calls Try.prog 32 #[.pointer (some ⟨pb, 0, none⟩), .int .i64 n] w fun e w' => e = .returned (.tuple #[.agg #[.int .i64 0, .int .i64 0, .int .i64 0, .bool false], .bool false]) ∧ Below w.heap.size w w' := by
  have H := Lib.hid h
  have HN := Lib.hid hn
  clear h hn
  go_enter Try.func32, Try.ntmps32
  go_wp2_with (go_at_call 53; refine (find_any (H.out.alloc _) n).mono ?_; rintro e w1 ⟨rfl, rfl⟩; rw [HN.out])
  exact bodyPost_ret (v := .tuple #[.agg #[.int .i64 0, .int .i64 0, .int .i64 0, .bool false], .bool false]) (by simp [results, Try.results32, go_sem]) rfl ⟨rfl, (Below.refl _ _).alloc (Nat.le_refl _) _⟩
set_option maxHeartbeats 400000 in
theorem get_yes (h : ArenaC w pb sb S qa qc Q F) (i : Nat) (hi : i < S.length) (s : Slt) (hs : S[i]'hi = s) (hu : s.used = true) :
    Calls Try.prog 32 #[.pointer (some ⟨pb, 0, none⟩), .int .i64 i] w fun e w' => e = .returned (.tuple #[.agg #[.int .i64 s.slot, .int .i64 s.id, .int .i64 s.qty, .bool s.top], .bool true]) ∧ Below w.heap.size w w' := by
  have H := Lib.hid h
  have HN : Hid (slotPtr sb S i = .pointer (some ⟨sb, i * 8, none⟩)) := Lib.hid (by rw [slotPtr_at hi, hs, hu]; rfl)
  have hlt := h.hs.lt
  obtain ⟨_, s1, s2, s3, s4, _, _, _⟩ := h.sf hi hs
  clear h hs hu
  go_enter Try.func32, Try.ntmps32
  go_wp2_with (go_at_call 53; refine (find_any (H.out.alloc _) i).mono ?_; rintro e w1 ⟨rfl, rfl⟩; rw [HN.out])
  exact bodyPost_ret (v := .tuple #[.agg #[.int .i64 s.slot, .int .i64 s.id, .int .i64 s.qty, .bool s.top], .bool true]) (by simp [results, Try.results32, go_sem]) rfl ⟨rfl, (Below.refl _ _).alloc (Nat.le_refl _) _⟩
end
end Go.Proofs.Ytmhljdkhekjfmaa
