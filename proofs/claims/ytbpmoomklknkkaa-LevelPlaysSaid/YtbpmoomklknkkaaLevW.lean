/- Stores into an arena. -/
import Derived.Test.YtbpmoomklknkkaaLevel
namespace Go.Proofs.Ytbpmoomklknkkaa
open Go.RowKit

theorem Blk.ne_ {w : World} {g g' : Nat} {t t' : TypeId} {cs cs' : Array Value} (h : Blk w g t cs) (h' : Blk w g' t' cs') (hne : t ≠ t') : g ≠ g' := by
  rintro rfl
  unfold Blk at h h'
  rw [h] at h'
  injection h' with h'
  injection h' with _ ht
  exact hne ht
theorem own_ne {w : World} {g : Nat} {t e : TypeId} {cs : Array Value} {base size n : Nat} {v : Value} {xs : List Value} (h : w.ownsRow base e size v n xs) (hg : Blk w g t cs) (hne : e ≠ t) : v.ownBlock ≠ some g := by
  rcases h.2 with ⟨rfl, _⟩ | ⟨g', cap, cur, rfl, _, hh, _⟩
  · simp [Value.ownBlock]
  · intro he
    have : g' = g := by simpa [Value.ownBlock] using he
    subst this
    exact Blk.ne_ (t := e) hh hg hne rfl
theorem own_far {w : World} {e : TypeId} {base size n : Nat} {v : Value} {xs : List Value} (h : w.ownsRow base e size v n xs) {p : Addr} (hp : v.ownBlock ≠ some p.block) (u : Value) : (w.setCell p u).ownsRow base e size v n xs := by
  refine ⟨h.1, ?_⟩
  rcases h.2 with h2 | ⟨g, cap, cur, hv, hb, hh, r⟩
  · exact .inl h2
  · refine .inr ⟨g, cap, cur, hv, hb, ?_, r⟩
    rw [Below.heap_setCell _ _ _ _ (fun e => hp (by rw [hv, e]; rfl))]
    exact hh

section
variable {w : World} {pb sb : Nat} {S : List Slt} {qa : Option Addr} {qc : Nat} {Q : List Que} {F : Int}
theorem ArenaC.ps (h : ArenaC w pb sb S qa qc Q F) : pb ≠ sb := Blk.ne_ h.hp h.hs (by decide)
theorem ArenaC.qs (h : ArenaC w pb sb S qa qc Q F) : (Value.slice qa Q.length qc).ownBlock ≠ some sb := own_ne h.hq h.hs (by decide)
theorem ArenaC.qp (h : ArenaC w pb sb S qa qc Q F) : (Value.slice qa Q.length qc).ownBlock ≠ some pb := own_ne h.hq h.hp (by decide)

theorem ArenaC.drew (h : ArenaC w pb sb S qa qc Q F) : ArenaC w.drew pb sb S qa qc Q F := ⟨h.hp, h.hs, h.hq, h.room, h.many⟩
theorem ArenaC.drewN (h : ArenaC w pb sb S qa qc Q F) (n : Nat) : ArenaC (w.drewN n) pb sb S qa qc Q F := ⟨h.hp, h.hs, h.hq, h.room, h.many⟩
theorem ArenaC.alloc (h : ArenaC w pb sb S qa qc Q F) (o : Obj) : ArenaC (w.alloc o) pb sb S qa qc Q F := ⟨h.hp.alloc o, h.hs.alloc o, h.hq.alloc o, h.room, h.many⟩

theorem ArenaC.setS (h : ArenaC w pb sb S qa qc Q F) {i k : Nat} (hi : i < S.length) (hk : k < 8) {v : Value} {y : Slt} (hy : y.cells = (S[i]'hi).cells.set k v) :
    ArenaC (w.setCell ⟨sb, i * 8 + k, none⟩ v) pb sb (S.set i y) qa qc Q F := by
  refine ⟨?_, ?_, own_far h.hq h.qs v, by simpa using h.room, h.many⟩
  · have := h.hp.far (p := ⟨sb, i * 8 + k, none⟩) h.ps v
    simpa using this
  · have := h.hs.set_ (i * 8 + k) v
    rw [List.setIfInBounds_toArray, fm_set Slt.cells 8 Slt.len v y S i k hi hk hy] at this
    exact this
theorem ArenaC.setF (h : ArenaC w pb sb S qa qc Q F) (F' : Int) : ArenaC (w.setCell ⟨pb, 2, none⟩ (.int .i64 F')) pb sb S qa qc Q F' :=
  ⟨h.hp.set_ 2 _, h.hs.far (p := ⟨pb, 2, none⟩) h.ps.symm _, own_far h.hq h.qp _, h.room, h.many⟩
theorem ArenaC.setQ {qb : Nat} (h : ArenaC w pb sb S (some ⟨qb, 0, none⟩) qc Q F) {n k : Nat} (hn : n < Q.length) (hk : k < 4) {v : Value} {y : Que} (hy : y.cells = (Q[n]'hn).cells.set k v) :
    ArenaC (w.setCell ⟨qb, n * 4 + k, none⟩ v) pb sb S (some ⟨qb, 0, none⟩) qc (Q.set n y) F := by
  have h1 : qb ≠ pb := fun e => h.qp (by rw [← e]; rfl)
  have h2 : qb ≠ sb := fun e => h.qs (by rw [← e]; rfl)
  refine ⟨?_, h.hs.far (p := ⟨qb, n * 4 + k, none⟩) h2.symm v, ?_, h.room, by simpa using h.many⟩
  · have := h.hp.far (p := ⟨qb, n * 4 + k, none⟩) h1.symm v
    simpa using this
  · have := (h.hq.stored (n * 4 + k) v).1
    rw [fm_set Que.cells 4 Que.len v y Q n k hn hk hy] at this
    simpa using this

/-- all that a walk reads of a slot, of a queue, of the arena's own block -/
theorem ArenaC.sf (h : ArenaC w pb sb S qa qc Q F) {i : Nat} (hi : i < S.length) {s : Slt} (hs : S[i]'hi = s) :
    w.cell? ⟨sb, i * 8, none⟩ = some (.bool s.used) ∧ w.cell? ⟨sb, i * 8 + 1, none⟩ = some (.int .i64 s.slot) ∧ w.cell? ⟨sb, i * 8 + 2, none⟩ = some (.int .i64 s.id) ∧ w.cell? ⟨sb, i * 8 + 3, none⟩ = some (.int .i64 s.qty) ∧
    w.cell? ⟨sb, i * 8 + 4, none⟩ = some (.bool s.top) ∧ w.cell? ⟨sb, i * 8 + 5, none⟩ = some (.int .i64 s.q) ∧ w.cell? ⟨sb, i * 8 + 6, none⟩ = some (.int .i64 s.ah) ∧ w.cell? ⟨sb, i * 8 + 7, none⟩ = some (.int .i64 s.bk) := by
  subst hs
  exact ⟨h.slt i hi 0 (by omega), h.slt i hi 1 (by omega), h.slt i hi 2 (by omega), h.slt i hi 3 (by omega), h.slt i hi 4 (by omega), h.slt i hi 5 (by omega), h.slt i hi 6 (by omega), h.slt i hi 7 (by omega)⟩
theorem ArenaC.qf {qb : Nat} (h : ArenaC w pb sb S (some ⟨qb, 0, none⟩) qc Q F) {n : Nat} (hn : n < Q.length) {q : Que} (hq : Q[n]'hn = q) :
    w.cell? ⟨qb, n * 4, none⟩ = some (.int .i64 q.fst) ∧ w.cell? ⟨qb, n * 4 + 1, none⟩ = some (.int .i64 q.lst) ∧ w.cell? ⟨qb, n * 4 + 2, none⟩ = some (.int .i64 q.tot) ∧ w.cell? ⟨qb, n * 4 + 3, none⟩ = some (.int .i64 q.cnt) := by
  obtain ⟨qb', hqe, hqc, _⟩ := h.que n hn
  obtain rfl : qb = qb' := by injection hqe with e; injection e
  subst hq
  exact ⟨hqc 0 (by omega), hqc 1 (by omega), hqc 2 (by omega), hqc 3 (by omega)⟩
theorem ArenaC.qfz {qb : Nat} (h : ArenaC w pb sb S (some ⟨qb, 0, none⟩) qc Q F) (k : Nat) : w.frozen? ⟨qb, k, none⟩ = false := h.hq.frozenAt k
theorem ArenaC.six {qb : Nat} (h : ArenaC w pb sb S (some ⟨qb, 0, none⟩) qc Q F) : pb ≠ sb ∧ sb ≠ pb ∧ qb ≠ sb ∧ sb ≠ qb ∧ qb ≠ pb ∧ pb ≠ qb := by
  have h1 : qb ≠ sb := fun e => h.qs (by rw [← e]; rfl)
  have h2 : qb ≠ pb := fun e => h.qp (by rw [← e]; rfl)
  exact ⟨h.ps, h.ps.symm, h1, h1.symm, h2, h2.symm⟩

theorem ArenaC.nextS {s y : Slt} {i k : Nat} {v : Value} (h : ArenaC w pb sb (S.set i s) qa qc Q F) (hi : i < S.length) (hk : k < 8) (hy : y.cells = s.cells.set k v) :
    ArenaC (w.setCell ⟨sb, i * 8 + k, none⟩ v) pb sb (S.set i y) qa qc Q F := by
  have := h.setS (i := i) (k := k) (v := v) (y := y) (by simpa using hi) hk (by rw [List.getElem_set_self]; exact hy)
  rwa [List.set_set] at this
theorem ArenaC.nextQ {qb : Nat} {q y : Que} {n k : Nat} {v : Value} (h : ArenaC w pb sb S (some ⟨qb, 0, none⟩) qc (Q.set n q) F) (hn : n < Q.length) (hk : k < 4) (hy : y.cells = q.cells.set k v) :
    ArenaC (w.setCell ⟨qb, n * 4 + k, none⟩ v) pb sb S (some ⟨qb, 0, none⟩) qc (Q.set n y) F := by
  have := h.setQ (n := n) (k := k) (v := v) (y := y) (by simpa using hn) hk (by rw [List.getElem_set_self]; exact hy)
  rwa [List.set_set] at this
/-- all eight cells of a slot -/
theorem ArenaC.next8 {s y : Slt} {i : Nat} (h : ArenaC w pb sb (S.set i s) qa qc Q F) (hi : i < S.length) :
    ArenaC ((((((((w.setCell ⟨sb, i * 8, none⟩ (.bool y.used)).setCell ⟨sb, i * 8 + 1, none⟩ (.int .i64 y.slot)).setCell ⟨sb, i * 8 + 2, none⟩ (.int .i64 y.id)).setCell ⟨sb, i * 8 + 3, none⟩ (.int .i64 y.qty)).setCell ⟨sb, i * 8 + 4, none⟩ (.bool y.top)).setCell ⟨sb, i * 8 + 5, none⟩ (.int .i64 y.q)).setCell ⟨sb, i * 8 + 6, none⟩ (.int .i64 y.ah)).setCell ⟨sb, i * 8 + 7, none⟩ (.int .i64 y.bk)) pb sb (S.set i y) qa qc Q F := by
  have h1 := h.nextS (k := 0) (y := { s with used := y.used }) (v := .bool y.used) hi (by omega) rfl
  have h2 := h1.nextS (k := 1) (y := { s with used := y.used, slot := y.slot }) (v := .int .i64 y.slot) hi (by omega) rfl
  have h3 := h2.nextS (k := 2) (y := { s with used := y.used, slot := y.slot, id := y.id }) (v := .int .i64 y.id) hi (by omega) rfl
  have h4 := h3.nextS (k := 3) (y := { s with used := y.used, slot := y.slot, id := y.id, qty := y.qty }) (v := .int .i64 y.qty) hi (by omega) rfl
  have h5 := h4.nextS (k := 4) (y := { s with used := y.used, slot := y.slot, id := y.id, qty := y.qty, top := y.top }) (v := .bool y.top) hi (by omega) rfl
  have h6 := h5.nextS (k := 5) (y := { s with used := y.used, slot := y.slot, id := y.id, qty := y.qty, top := y.top, q := y.q }) (v := .int .i64 y.q) hi (by omega) rfl
  have h7 := h6.nextS (k := 6) (y := { y with bk := s.bk }) (v := .int .i64 y.ah) hi (by omega) rfl
  exact h7.nextS (k := 7) (y := y) (v := .int .i64 y.bk) hi (by omega) rfl
theorem ArenaC.self {i : Nat} {s : Slt} (h : ArenaC w pb sb S qa qc Q F) (hi : i < S.length) (hs : S[i]'hi = s) : ArenaC w pb sb (S.set i s) qa qc Q F := by
  rw [← hs, List.set_getElem_self]
  exact h
theorem ArenaC.selfQ {n : Nat} {q : Que} (h : ArenaC w pb sb S qa qc Q F) (hn : n < Q.length) (hq : Q[n]'hn = q) : ArenaC w pb sb S qa qc (Q.set n q) F := by
  rw [← hq, List.set_getElem_self]
  exact h

def Slt.withTop (s : Slt) (t : Bool) : Slt := { s with top := t }
set_option maxHeartbeats 400000 in
theorem top_no (h : ArenaC w pb sb S qa qc Q F) (n : Int) (t : Bool) (hn : slotPtr sb S n = .pointer none) :
    Calls Try.prog 18 #[.pointer (some ⟨pb, 0, none⟩), .int .i64 n, .bool t] w fun e w' => e = .returned (.int .i64 26) ∧ w = w' := by
  have hb := Lib.hid hn
  clear hn
  go_enter Try.func18, Try.ntmps18
  go_wp2_with (go_at_call 24; refine (find_any h n).mono ?_; rintro e w1 ⟨rfl, rfl⟩; rw [hb.out])
  go_ret
  exact ⟨rfl, rfl⟩
set_option maxHeartbeats 400000 in
theorem top_yes (h : ArenaC w pb sb S qa qc Q F) (i : Nat) (t : Bool) (hi : i < S.length) (hu : (S[i]'hi).used = true) :
    Calls Try.prog 18 #[.pointer (some ⟨pb, 0, none⟩), .int .i64 i, .bool t] w fun e w' => e = .returned (.int .i64 0) ∧ ArenaC w' pb sb (S.set i ((S[i]'hi).withTop t)) qa qc Q F ∧ Keeps (· = sb) w w' := by
  have hb : Hid (slotPtr sb S i = .pointer (some ⟨sb, i * 8, none⟩)) := Lib.hid (by rw [slotPtr_at hi, hu]; rfl)
  have hc : w.cell? ⟨sb, i * 8 + 4, none⟩ = some (.bool (S[i]'hi).top) := h.slt i hi 4 (by omega)
  have hf : w.frozen? ⟨sb, i * 8 + 4, none⟩ = false := h.hs.frozen _
  clear hu
  go_enter Try.func18, Try.ntmps18
  go_wp2_with (go_at_call 24; refine (find_any h i).mono ?_; rintro e w1 ⟨rfl, rfl⟩; rw [hb.out])
  go_ret
  refine ⟨rfl, h.setS (k := 4) hi (by omega) rfl, (Keeps.refl (fun g => g = sb) w).setCell (fun _ => rfl) _⟩

end
end Go.Proofs.Ytbpmoomklknkkaa
