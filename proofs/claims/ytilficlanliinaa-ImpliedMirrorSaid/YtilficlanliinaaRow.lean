/- Rows of structs that a call owns, or reads: for whatever struct whose fields are one cell each. No function of the program in sight. -/
import Derived.Test.YtilficlanliinaaOwn
import Derived.Maps.AppendAt
import Derived.Laws.AppendOwnNone
namespace Go.Proofs.Ytilficlanliinaa
open Go.RowKit

/-- how a struct lies: its cells, its type and its slice's -/
structure Lay (α : Type) where
  cells : α → List Value
  m : Nat
  len : ∀ x, (cells x).length = m
  one : ∀ x, ∀ u ∈ cells x, u.oneCell' = true
  pos : 0 < m
  t : TypeId
  ts : TypeId
  z : Value
  bytes : Nat
  und : Try.prog.underlying ts = some (.slice t)
  info : (Try.prog.info? t).map (fun i => (i.zero, i.size, i.bytes)) = some (some z, m, bytes)
  zs : z.cells.size = m
  small : bytes ≤ 1000
/-- cells that lie one behind the other -/
def CellsAt (w : World) (b o : Nat) (cs : List Value) : Prop := ∀ k u, cs[k]? = some u → w.cell? ⟨b, o + k, none⟩ = some u
theorem CellsAt.below {w w' : World} {b o : Nat} {cs : List Value} (h : CellsAt w b o cs) (hb : Below w.heap.size w w') (hl : b < w.heap.size) : CellsAt w' b o cs :=
  fun k u hu => (hb.cell (p := ⟨b, o + k, none⟩) hl).trans (h k u hu)
theorem CellsAt.keeps {w w' : World} {F : Nat → Prop} {b o : Nat} {cs : List Value} (h : CellsAt w b o cs) (hk : Keeps F w w') (hl : b < w.heap.size) (hf : ¬ F b) : CellsAt w' b o cs := by
  intro k u hu
  have h1 := h k u hu
  unfold World.cell? at h1 ⊢
  rw [show (⟨b, o + k, none⟩ : Addr).block = b from rfl] at h1 ⊢
  rw [hk.block b hl hf]; exact h1
theorem Blk.cellsAt {w : World} {g : Nat} {t : TypeId} {cs : List Value} (h : Blk w g t cs.toArray) : CellsAt w g 0 cs := by
  intro k u hu
  rw [h.cell, Nat.zero_add, List.getElem?_toArray]; exact hu

section
variable {α : Type} (Y : Lay α)
/-- a slice that reads as a list -/
def Lay.Rd (w : World) (a : Option Addr) (L : List α) : Prop := ∀ j e, L[j]? = some e → ∃ b off, a = some ⟨b, off, none⟩ ∧ b < w.heap.size ∧ CellsAt w b (off + j * Y.m) (Y.cells e)
/-- a row of the call's own that holds a list -/
def Lay.Row (w : World) (B : Nat) (v : Value) (L : List α) : Prop := w.ownsRow B Y.t Y.m v L.length (L.flatMap Y.cells)
variable {Y} {w w' : World} {B : Nat} {v : Value} {L : List α}
theorem Lay.Rd.below {a : Option Addr} (h : Y.Rd w a L) (hb : Below w.heap.size w w') : Y.Rd w' a L := by
  intro j e hj
  obtain ⟨b, off, h1, h2, h3⟩ := h j e hj
  exact ⟨b, off, h1, Nat.lt_of_lt_of_le h2 hb.size, h3.below hb h2⟩
theorem Lay.Rd.nil {a : Option Addr} : Y.Rd w a [] := fun j e h => by simp at h
theorem Lay.Rd.take {a : Option Addr} (h : Y.Rd w a L) (n : Nat) : Y.Rd w a (L.take n) := by
  intro j e hj
  rw [List.getElem?_take] at hj
  split at hj
  · exact h j e hj
  · cases hj
theorem Lay.Row.form (h : Y.Row w B v L) : ∃ a c, v = .slice a L.length c := own_form h
theorem Lay.Row.nil (w : World) (B : Nat) : Y.Row w B (.slice none 0 0) [] := ⟨by simp, .inl ⟨rfl, rfl⟩⟩
theorem Lay.Row.empty (w : World) : Y.Row (w.alloc (.cells #[] Y.t)) w.heap.size (.slice (some ⟨w.heap.size, 0, none⟩) 0 0) [] :=
  ⟨by simp, .inr ⟨w.heap.size, 0, #[], rfl, Nat.le_refl _, Blk.new w Y.t #[], Nat.le_refl _, Nat.zero_le _, by simp, by simp⟩⟩
theorem Lay.Row.below (h : Y.Row w B v L) (hb : Below w.heap.size w w') : Y.Row w' B v L := own_below h hb
theorem Lay.Row.at_ (h : Y.Row w B v L) (j : Nat) (e : α) (hj : L[j]? = some e) : ∃ g cap, v = .slice (some ⟨g, 0, none⟩) L.length cap ∧ g < w.heap.size ∧ CellsAt w g (j * Y.m) (Y.cells e) := by
  have hl := own_lt h
  rcases h.2 with ⟨hv, h0⟩ | ⟨g, cap, cur, hv, hb, hh, r⟩
  · have := lt_of_get hj; omega
  · subst hv
    have hg := hl g rfl
    refine ⟨g, cap, rfl, hg, ?_⟩
    have hjl := lt_of_get hj
    obtain ⟨_, hje⟩ := get_of hj
    intro k u hu
    have hk : k < Y.m := by have := lt_of_get hu; rw [Y.len] at this; exact this
    have hlt : j * Y.m + k < L.length * Y.m := by
      have := Nat.mul_le_mul_right Y.m (show j + 1 ≤ L.length by omega)
      rw [Nat.add_mul, Nat.one_mul] at this
      omega
    rw [h.cellAt (j * Y.m + k) hlt, fm_get Y.cells Y.m Y.len L j k hjl hk, hje]; exact hu
theorem Lay.Row.rd (h : Y.Row w B v L) : ∃ a c, v = .slice a L.length c ∧ (a = none → c = 0) ∧ Y.Rd w a L := by
  obtain ⟨a, c, hv⟩ := h.form
  have hac : a = none → c = 0 := by
    rintro rfl
    rcases h.2 with ⟨h2, _⟩ | ⟨g, cap, cur, h2, _⟩
    · rw [hv] at h2; injection h2
    · rw [hv] at h2; injection h2 with h2; cases h2
  refine ⟨a, c, hv, hac, fun j e hj => ?_⟩
  obtain ⟨g, cap, h1, h2, h3⟩ := h.at_ j e hj
  rw [hv] at h1
  injection h1 with h1
  exact ⟨g, 0, h1, h2, by rw [Nat.zero_add]; exact h3⟩
theorem Lay.ones (Y : Lay α) (L : List α) : ∀ u ∈ L.flatMap Y.cells, u.oneCell' = true := by
  intro u hu
  rw [List.mem_flatMap] at hu
  obtain ⟨e, _, hu⟩ := hu
  exact Y.one e u hu
theorem Lay.Rd.cells {b off : Nat} (h : Y.Rd w (some ⟨b, off, none⟩) L) : ∀ j u, (L.flatMap Y.cells)[j]? = some u → w.cell? ((⟨b, off, none⟩ : Addr).add j) = some u := by
  intro j u hu
  have hj := lt_of_get hu
  rw [fm_length Y.cells Y.m Y.len] at hj
  have hi : j / Y.m < L.length := (Nat.div_lt_iff_lt_mul Y.pos).2 hj
  have hr : j % Y.m < Y.m := Nat.mod_lt _ Y.pos
  have h1 := fm_get Y.cells Y.m Y.len L (j / Y.m) (j % Y.m) hi hr
  have hdm : j / Y.m * Y.m + j % Y.m = j := Nat.div_add_mod' j Y.m
  rw [hdm, hu] at h1
  obtain ⟨b', off', he, _, h2⟩ := h (j / Y.m) _ (List.getElem?_eq_getElem hi)
  have e1 : b = b' ∧ off = off' := by injection he with he; injection he with x y; exact ⟨x, y⟩
  obtain ⟨rfl, rfl⟩ := e1
  rw [add_at, show off + j = off + j / Y.m * Y.m + j % Y.m by rw [Nat.add_assoc, hdm]]
  exact h2 _ _ h1.symm
theorem CellsAt.rd {g : Nat} {e : α} (hg : g < w.heap.size) (h : CellsAt w g 0 (Y.cells e)) : Y.Rd w (some ⟨g, 0, none⟩) [e] := by
  intro j x hj
  have hj0 : j = 0 := by have := lt_of_get hj; simp at this; exact this
  subst hj0
  have : x = e := by simp at hj; exact hj.symm
  subst this
  exact ⟨g, 0, rfl, hg, by rw [Nat.zero_mul]; exact h⟩
/-- what append makes: the run -/
theorem Lay.run_append (Y : Lay α) {w : World} {B : Nat} {v : Value} {L : List α} (ty : TypeId) (hown : Y.Row w B v L) (ad : Addr) (c : Nat) (M : List α) (had : ∃ b off, ad = ⟨b, off, none⟩) (hr : Y.Rd w (some ad) M) (hle : L.length + M.length ≤ 1000000) (hbase : B ≤ w.heap.size) :
    ∃ v' w', (Builtin.append_ #[Y.ts, Y.ts] ty #[v, .slice (some ad) M.length c]).run Try.prog w = .ok v' w' ∧ Y.Row w' B v' (L ++ M) ∧ w.grownBy w' v.ownBlock ∧ (v'.ownBlock = v.ownBlock ∨ v'.ownBlock = some w.heap.size) := by
  obtain ⟨b, off, rfl⟩ := had
  obtain ⟨i0, hi, hz0, hz1, hz2⟩ := info_parts Y.info
  have hsm : (L.length + M.length) * Y.bytes ≤ 140737488355328 := by
    have := Nat.mul_le_mul hle Y.small
    omega
  obtain ⟨v', w', h1, h2, h3, _, h5⟩ := run_append_own_at (P := Try.prog) w B Y.ts ty Y.t i0 Y.z Y.m Y.bytes Y.und hi hz0 hz1 hz2 Y.zs Y.pos v L.length _ hown ⟨b, off, none⟩ M.length c (M.flatMap Y.cells) (by rw [fm_length Y.cells Y.m Y.len]) hr.cells (Y.ones M) (by unfold maxLen; omega) hsm hbase
  refine ⟨v', w', h1, ?_, h3, h5⟩
  unfold Lay.Row
  rw [List.length_append, List.flatMap_append]
  exact h2
/-- append of one, in a straight region -/
theorem Lay.push (Y : Lay α) {w : World} {ops : Array Oper} {rest : List Oper} {o : Oper} {a : Act} {Q : Exit → Act → World → Prop} (hgd : o.guard = none) (s x : Operand)
    (ho : o.op = .call { callee := .builtin .append, args := #[s, x], argTypes := #[Y.ts, Y.ts] })
    (B : Nat) (v : Value) (L : List α) (hs : a.eval s = v) (hown : Y.Row w B v L) (g : Nat) (e : α) (hx : a.eval x = .slice (some ⟨g, 0, none⟩) 1 1) (hg : g < w.heap.size) (hc : CellsAt w g 0 (Y.cells e))
    (hle : L.length + 1 ≤ 1000000) (hbase : B ≤ w.heap.size)
    (h : ∀ v' w', Y.Row w' B v' (L ++ [e]) → w.grownBy w' v.ownBlock → (v'.ownBlock = v.ownBlock ∨ v'.ownBlock = some w.heap.size) → wpList Try.prog ops Q rest (a.put o.dst v') w') : wpList Try.prog ops Q (o :: rest) a w := by
  refine wpList_plain hgd fun K hK => ?_
  obtain ⟨v', w', hr, h2, h3, h5⟩ := Y.run_append o.type hown ⟨g, 0, none⟩ 1 [e] ⟨g, 0, rfl⟩ (CellsAt.rd hg hc) hle hbase
  rw [show ([e] : List α).length = 1 from rfl] at hr
  unfold Oper.wp execOp
  simp only [ho, resolve, invoke, builtin, Sem.run_bind, Sem.run_pure, Result.andThen_ok, List.map_toArray, List.map_cons, List.map_nil, hs, hx, hr]
  exact hK _ _ (h v' w' h2 h3 h5)
/-- the same, as a step of a region that draws its order -/
theorem Lay.step (Y : Lay α) {w : World} {ops : Array Oper} {o : Oper} {a : Act} {K : Act → World → Prop} {Q : Exit → Act → World → Prop} {E : Prop} (hgd : o.guard = none) (s x : Operand)
    (ho : o.op = .call { callee := .builtin .append, args := #[s, x], argTypes := #[Y.ts, Y.ts] })
    (B : Nat) (v : Value) (L : List α) (hs : a.eval s = v) (hown : Y.Row w B v L) (g : Nat) (e : α) (hx : a.eval x = .slice (some ⟨g, 0, none⟩) 1 1) (hg : g < w.heap.size) (hc : CellsAt w g 0 (Y.cells e))
    (hle : L.length + 1 ≤ 1000000) (hbase : B ≤ w.heap.size)
    (h : ∀ v' w', Y.Row w' B v' (L ++ [e]) → w.grownBy w' v.ownBlock → (v'.ownBlock = v.ownBlock ∨ v'.ownBlock = some w.heap.size) → K (a.put o.dst v') w') :
    if Region.wanted o (yielded ops a.tmps) = true then Oper.wp Try.prog o a w K Q else E := by
  have hw : Region.wanted o (yielded ops a.tmps) = true := by simp [Region.wanted, hgd]
  rw [if_pos hw]
  obtain ⟨v', w', hr, h2, h3, h5⟩ := Y.run_append o.type hown ⟨g, 0, none⟩ 1 [e] ⟨g, 0, rfl⟩ (CellsAt.rd hg hc) hle hbase
  rw [show ([e] : List α).length = 1 from rfl] at hr
  unfold Oper.wp execOp
  simp only [ho, resolve, invoke, builtin, Sem.run_bind, Sem.run_pure, Result.andThen_ok, List.map_toArray, List.map_cons, List.map_nil, hs, hx, hr]
  exact h v' w' h2 h3 h5
/-- append of many that are read, none of them too -/
theorem Lay.pushes (Y : Lay α) {w : World} {ops : Array Oper} {rest : List Oper} {o : Oper} {a : Act} {Q : Exit → Act → World → Prop} (hgd : o.guard = none) (s x : Operand)
    (ho : o.op = .call { callee := .builtin .append, args := #[s, x], argTypes := #[Y.ts, Y.ts] })
    (B : Nat) (v : Value) (L : List α) (hs : a.eval s = v) (hown : Y.Row w B v L) (A : Option Addr) (c : Nat) (M : List α) (hx : a.eval x = .slice A M.length c) (hac : A = none → c = 0) (hrd : Y.Rd w A M)
    (hA : ∀ ad, A = some ad → ∃ b off, ad = ⟨b, off, none⟩) (hle : L.length + M.length ≤ 1000000) (hbase : B ≤ w.heap.size)
    (h : ∀ v' w', Y.Row w' B v' (L ++ M) → w.grownBy w' v.ownBlock → (v'.ownBlock = v.ownBlock ∨ v'.ownBlock = some w.heap.size) → wpList Try.prog ops Q rest (a.put o.dst v') w') : wpList Try.prog ops Q (o :: rest) a w := by
  obtain ⟨i0, hi, hz0, hz1, hz2⟩ := info_parts Y.info
  rcases A with _ | ad
  · have hM : M = [] := by
      cases M with
      | nil => rfl
      | cons e M => obtain ⟨b, off, h1, _⟩ := hrd 0 e rfl; cases h1
    subst hM
    have hc := hac rfl
    subst hc
    refine wpList_append_own_none hgd s x Y.ts ho B Y.t i0 Y.m Y.und hi v L.length _ hs hown hx ?_
    exact h v w (by rw [List.append_nil]; exact hown) (World.grownBy.refl w _) (.inl rfl)
  · refine wpList_plain hgd fun K hK => ?_
    obtain ⟨v', w', hr, h2, h3, h5⟩ := Y.run_append o.type hown ad c M (hA ad rfl) hrd hle hbase
    unfold Oper.wp execOp
    simp only [ho, resolve, invoke, builtin, Sem.run_bind, Sem.run_pure, Result.andThen_ok, List.map_toArray, List.map_cons, List.map_nil, hs, hx, hr]
    exact hK _ _ (h v' w' h2 h3 h5)
end
end Go.Proofs.Ytilficlanliinaa
