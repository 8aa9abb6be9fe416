/- Merged: Own Row BMap Bk BRead Last Two BRead2 BRead3 BRead4 BRead5. -/
import Derived.Test.YtmhljdkhekjfmaaMB
import Derived.Maps.AppendAt
import Derived.Laws.AppendOwnNone
import Derived.MapKept
import Derived.Deep.QuietTactic
import Derived.Deep.DeepCutAuto
import Derived.Test.YtmhljdkhekjfmaaChecked
import Derived.OrdersHeld
import Derived.StillTail
import Derived.RegionTactic
import Derived.Deep.RegionHeld3
/- Rows of the call's own; rows of numbers. -/
namespace Go.Proofs.Ytmhljdkhekjfmaa
open Go.RowKit

theorem Below.allocN (w : World) (o : Obj) : Below w.heap.size w (w.alloc o) := (Below.refl _ _).alloc (Nat.le_refl _) o
theorem Below.drewN_of (w : World) (n : Nat) : Below w.heap.size w (w.drewN n) := ⟨rfl, rfl, rfl, Nat.le_refl _, fun _ _ => rfl⟩
theorem Blk.below {w w' : World} {g : Nat} {t : TypeId} {cs : Array Value} (h : Blk w g t cs) (hb : Below w.heap.size w w') : Blk w' g t cs := h.keeps (Below.keeps (F := fun _ => False) hb) (fun x => x)
theorem own_lt {w : World} {B : Nat} {t : TypeId} {size n : Nat} {v : Value} {xs : List Value} (h : w.ownsRow B t size v n xs) : ∀ g, v.ownBlock = some g → g < w.heap.size := by
  intro g hg
  rcases h.2 with ⟨rfl, h0⟩ | ⟨g', cap, cur, rfl, hb, hh, _⟩
  · cases hg
  · have : g' = g := by simpa [Value.ownBlock] using hg
    subst this
    rcases Nat.lt_or_ge g' w.heap.size with hlt | hge
    · exact hlt
    · rw [Array.getElem?_eq_none hge] at hh; cases hh
theorem own_keep {w w' : World} {B : Nat} {t : TypeId} {size n : Nat} {v : Value} {xs : List Value} {F : Nat → Prop} (h : w.ownsRow B t size v n xs) (hk : Keeps F w w') (hf : ∀ g, v.ownBlock = some g → ¬ F g) : w'.ownsRow B t size v n xs := by
  have hl := own_lt h
  refine ⟨h.1, ?_⟩
  rcases h.2 with h2 | ⟨g, cap, cur, hv, hb, hh, r⟩
  · exact .inl h2
  · have hg : v.ownBlock = some g := by rw [hv]; rfl
    exact .inr ⟨g, cap, cur, hv, hb, (hk.block g (hl g hg) (hf g hg)).trans hh, r⟩
theorem own_below {w w' : World} {B : Nat} {t : TypeId} {size n : Nat} {v : Value} {xs : List Value} (h : w.ownsRow B t size v n xs) (hb : Below w.heap.size w w') : w'.ownsRow B t size v n xs :=
  own_keep h (Below.keeps (F := fun _ => False) hb) fun _ _ x => x
theorem grown_keeps {w w' : World} {r : Option Nat} (h : w.grownBy w' r) : Keeps (fun g => r = some g) w w' :=
  ⟨h.os, h.tape, h.output, h.size, fun k hk hf => h.block k hk fun e => hf e.symm⟩
/-- the type of a block of cells -/
def Tyd (w : World) (g : Nat) (t : TypeId) : Prop := ∃ cs, w.heap[g]? = some (.cells cs t (0, 0))
theorem Tyd.ne {w : World} {g g' : Nat} {t t' : TypeId} (h : Tyd w g t) (h' : Tyd w g' t') (hne : t ≠ t') : g ≠ g' := by
  rintro rfl
  obtain ⟨cs, h⟩ := h
  obtain ⟨cs', h'⟩ := h'
  rw [h] at h'
  injection h' with h'
  injection h' with _ h'
  exact hne h'
theorem own_tyd {w : World} {B : Nat} {t : TypeId} {size n : Nat} {v : Value} {xs : List Value} (h : w.ownsRow B t size v n xs) : ∀ g, v.ownBlock = some g → Tyd w g t := by
  intro g hg
  rcases h.2 with ⟨rfl, h0⟩ | ⟨g', cap, cur, rfl, hb, hh, _⟩
  · cases hg
  · have : g' = g := by simpa [Value.ownBlock] using hg
    subst this
    exact ⟨_, hh⟩
theorem Blk.tyd {w : World} {g : Nat} {t : TypeId} {cs : Array Value} (h : Blk w g t cs) : Tyd w g t := ⟨_, h⟩
theorem qa_of {qa : Option Addr} {n c g : Nat} {w : World} {B : Nat} {t : TypeId} {size m : Nat} {xs : List Value} (h : w.ownsRow B t size (.slice qa n c) m xs) (hg : (Value.slice qa n c).ownBlock = some g) : qa = some ⟨g, 0, none⟩ := by
  rcases h.2 with ⟨hv, _⟩ | ⟨g', cap', _, hv, _⟩
  · rw [hv] at hg; cases hg
  · rw [hv] at hg
    have e : g' = g := by simpa [Value.ownBlock] using hg
    injection hv with e1
    rw [e1, e]
theorem add_at (b off m : Nat) : (⟨b, off, none⟩ : Addr).add m = ⟨b, off + m, none⟩ := by
  unfold Addr.add
  split
  · rename_i h; rw [h, Nat.add_zero]
  · rfl

/-- a row of numbers of the call's own -/
def RowI (w : World) (B : Nat) (t : TypeId) (v : Value) (L : List Int) : Prop := w.ownsRow B t 1 v L.length (L.map (Value.int .i64))
theorem grow_blk {w w5 : World} {o : Obj} {B : Nat} {t : TypeId} {size n : Nat} {v : Value} {xs : List Value} (hown : w.ownsRow B t size v n xs) (hg : (w.alloc o).grownBy w5 v.ownBlock) {g : Nat} {t' : TypeId} {cs : Array Value} (hb : Blk w g t' cs) (hne : t' ≠ t) : Blk w5 g t' cs :=
  (hb.alloc o).keeps (grown_keeps hg) fun h => hb.tyd.ne (own_tyd hown g h) hne rfl
theorem grow_own {w w5 : World} {o : Obj} {B : Nat} {t : TypeId} {size n : Nat} {v : Value} {xs : List Value} (hown : w.ownsRow B t size v n xs) (hg : (w.alloc o).grownBy w5 v.ownBlock) {B' : Nat} {t' : TypeId} {size' n' : Nat} {v' : Value} {xs' : List Value} (h : w.ownsRow B' t' size' v' n' xs') (hne : t' ≠ t) : w5.ownsRow B' t' size' v' n' xs' :=
  own_keep (own_below h (Below.allocN w o)) (grown_keeps hg) fun g h1 h2 => (own_tyd h g h1).ne (own_tyd hown g h2) hne rfl
theorem grow_below {W w w5 : World} {o : Obj} {t : TypeId} {size n : Nat} {v : Value} {xs : List Value} (hown : w.ownsRow W.heap.size t size v n xs) (hg : (w.alloc o).grownBy w5 v.ownBlock) (hb : Below W.heap.size W w) : Below W.heap.size W w5 :=
  grown_below hg (hb.alloc hb.size o) (own_base hown)
theorem store_own {w : World} {B : Nat} {t : TypeId} {size n : Nat} {v : Value} {xs : List Value} (h : w.ownsRow B t size v n xs) {g : Nat} {t' : TypeId} {cs : Array Value} (hb : Blk w g t' cs) (hne : t ≠ t') (i : Nat) (u : Value) : (w.setCell ⟨g, i, none⟩ u).ownsRow B t size v n xs :=
  own_keep h ((Keeps.refl (fun k => k = g) w).setCell (p := ⟨g, i, none⟩) (fun _ => rfl) u) fun k hk e => (own_tyd h k hk).ne hb.tyd hne e

theorem info_int : (Try.prog.info? 3).map (fun i => (i.zero, i.size, i.bytes)) = some (some (.int .i64 0), 1, 8) := by kernel_rfl
/-- append of one number onto a row of the call's own -/
theorem push_int {w : World} {ops : Array Oper} {rest : List Oper} {o : Oper} {a : Act} {Q : Exit → Act → World → Prop} (hgd : o.guard = none) (s x : Operand)
    (ho : o.op = .call { callee := .builtin .append, args := #[s, x], argTypes := #[62, 62] })
    (B : Nat) (a0 : Option Addr) (c0 n : Nat) (L : List Int) (hn : L.length = n) (hs : a.eval s = .slice a0 n c0) (hown : RowI w B 3 (.slice a0 n c0) L)
    (g : Nat) (y : Int) (hx : a.eval x = .slice (some ⟨g, 0, none⟩) 1 1) (hc : w.cell? ⟨g, 0, none⟩ = some (.int .i64 y)) (hle : n ≤ 1000000) (hB : B ≤ w.heap.size)
    (h : ∀ g' cap w', RowI w' B 3 (.slice (some ⟨g', 0, none⟩) (n + 1) cap) (L ++ [y]) → w.grownBy w' (Value.slice a0 n c0).ownBlock → (a0 = some ⟨g', 0, none⟩ ∨ g' = w.heap.size) → wpList Try.prog ops Q rest (a.put o.dst (.slice (some ⟨g', 0, none⟩) (n + 1) cap)) w') : wpList Try.prog ops Q (o :: rest) a w := by
  subst hn
  obtain ⟨i0, hi, hz0, hz1, hz2⟩ := info_parts info_int
  refine wpList_append_own_at w hgd s x 62 ho B 3 i0 _ 1 8 Try.underlying62 hi hz0 hz1 hz2 rfl (by omega) (.slice a0 L.length c0) L.length (L.map (Value.int .i64)) hs hown ⟨g, 0, none⟩ 1 1 [.int .i64 y] hx rfl ?_ ?_ (by unfold maxLen; omega) (by omega) hB ?_
  · intro j u hj
    have hj0 : j = 0 := by have := lt_of_get hj; simp at this; exact this
    subst hj0
    simp at hj
    subst hj
    rw [add_at]; exact hc
  · intro u hu
    simp at hu
    subst hu
    rfl
  · intro v' w' h1 h2 h3 h4
    obtain ⟨g', cap, hv⟩ : ∃ g' cap, v' = .slice (some ⟨g', 0, none⟩) (L.length + 1) cap := by
      rcases h1.2 with ⟨_, h0⟩ | ⟨g', cap, _, hv, _⟩
      · omega
      · exact ⟨g', cap, hv⟩
    subst hv
    refine h g' cap w' ?_ h2 ?_
    · unfold RowI
      rw [List.length_append, List.map_append]
      exact h1
    · rcases h4 with h4 | h4
      · exact .inl (qa_of hown h4.symm)
      · have h6 : some g' = some w.heap.size := h4
        injection h6 with h6
        exact .inr h6
end Go.Proofs.Ytmhljdkhekjfmaa

/- Rows of structs that a call owns, or reads: for whatever struct whose fields are one cell each. No function of the program in sight. -/
namespace Go.Proofs.Ytmhljdkhekjfmaa
open Go.RowKit

/-- how a struct lies: its cells, its type and its slice's -/
structure Lay (α : Type) where
  cells : α → List Value
  m : Nat
  len : ∀ x, (cells x).length = m
  one : ∀ x, ∀ u ∈ cells x, u.oneCell' = true
  pos : 0 < m
  t : TypeId
  ts : TypeId
  z : Value
  bytes : Nat
  und : Try.prog.underlying ts = some (.slice t)
  info : (Try.prog.info? t).map (fun i => (i.zero, i.size, i.bytes)) = some (some z, m, bytes)
  zs : z.cells.size = m
  small : bytes ≤ 1000
/-- cells that lie one behind the other -/
def CellsAt (w : World) (b o : Nat) (cs : List Value) : Prop := ∀ k u, cs[k]? = some u → w.cell? ⟨b, o + k, none⟩ = some u
theorem CellsAt.below {w w' : World} {b o : Nat} {cs : List Value} (h : CellsAt w b o cs) (hb : Below w.heap.size w w') (hl : b < w.heap.size) : CellsAt w' b o cs :=
  fun k u hu => (hb.cell (p := ⟨b, o + k, none⟩) hl).trans (h k u hu)
theorem CellsAt.keeps {w w' : World} {F : Nat → Prop} {b o : Nat} {cs : List Value} (h : CellsAt w b o cs) (hk : Keeps F w w') (hl : b < w.heap.size) (hf : ¬ F b) : CellsAt w' b o cs := by
  intro k u hu
  have h1 := h k u hu
  unfold World.cell? at h1 ⊢
  rw [show (⟨b, o + k, none⟩ : Addr).block = b from rfl] at h1 ⊢
  rw [hk.block b hl hf]; exact h1
theorem Blk.cellsAt {w : World} {g : Nat} {t : TypeId} {cs : List Value} (h : Blk w g t cs.toArray) : CellsAt w g 0 cs := by
  intro k u hu
  rw [h.cell, Nat.zero_add, List.getElem?_toArray]; exact hu

section
variable {α : Type} (Y : Lay α)
/-- a slice that reads as a list -/
def Lay.Rd (w : World) (a : Option Addr) (L : List α) : Prop := ∀ j e, L[j]? = some e → ∃ b off, a = some ⟨b, off, none⟩ ∧ b < w.heap.size ∧ CellsAt w b (off + j * Y.m) (Y.cells e)
/-- a row of the call's own that holds a list -/
def Lay.Row (w : World) (B : Nat) (v : Value) (L : List α) : Prop := w.ownsRow B Y.t Y.m v L.length (L.flatMap Y.cells)
variable {Y} {w w' : World} {B : Nat} {v : Value} {L : List α}
theorem Lay.Rd.below {a : Option Addr} (h : Y.Rd w a L) (hb : Below w.heap.size w w') : Y.Rd w' a L := by
  intro j e hj
  obtain ⟨b, off, h1, h2, h3⟩ := h j e hj
  exact ⟨b, off, h1, Nat.lt_of_lt_of_le h2 hb.size, h3.below hb h2⟩
theorem Lay.Rd.nil {a : Option Addr} : Y.Rd w a [] := fun j e h => by simp at h
theorem Lay.Rd.take {a : Option Addr} (h : Y.Rd w a L) (n : Nat) : Y.Rd w a (L.take n) := by
  intro j e hj
  rw [List.getElem?_take] at hj
  split at hj
  · exact h j e hj
  · cases hj
theorem Lay.Row.form (h : Y.Row w B v L) : ∃ a c, v = .slice a L.length c := own_form h
theorem Lay.Row.nil (w : World) (B : Nat) : Y.Row w B (.slice none 0 0) [] := ⟨by simp, .inl ⟨rfl, rfl⟩⟩
theorem Lay.Row.empty (w : World) : Y.Row (w.alloc (.cells #[] Y.t)) w.heap.size (.slice (some ⟨w.heap.size, 0, none⟩) 0 0) [] :=
  ⟨by simp, .inr ⟨w.heap.size, 0, #[], rfl, Nat.le_refl _, Blk.new w Y.t #[], Nat.le_refl _, Nat.zero_le _, by simp, by simp⟩⟩
theorem Lay.Row.below (h : Y.Row w B v L) (hb : Below w.heap.size w w') : Y.Row w' B v L := own_below h hb
theorem Lay.Row.at_ (h : Y.Row w B v L) (j : Nat) (e : α) (hj : L[j]? = some e) : ∃ g cap, v = .slice (some ⟨g, 0, none⟩) L.length cap ∧ g < w.heap.size ∧ CellsAt w g (j * Y.m) (Y.cells e) := by
  have hl := own_lt h
  rcases h.2 with ⟨hv, h0⟩ | ⟨g, cap, cur, hv, hb, hh, r⟩
  · have := lt_of_get hj; omega
  · subst hv
    have hg := hl g rfl
    refine ⟨g, cap, rfl, hg, ?_⟩
    have hjl := lt_of_get hj
    obtain ⟨_, hje⟩ := get_of hj
    intro k u hu
    have hk : k < Y.m := by have := lt_of_get hu; rw [Y.len] at this; exact this
    have hlt : j * Y.m + k < L.length * Y.m := by
      have := Nat.mul_le_mul_right Y.m (show j + 1 ≤ L.length by omega)
      rw [Nat.add_mul, Nat.one_mul] at this
      omega
    rw [h.cellAt (j * Y.m + k) hlt, fm_get Y.cells Y.m Y.len L j k hjl hk, hje]; exact hu
theorem Lay.Row.rd (h : Y.Row w B v L) : ∃ a c, v = .slice a L.length c ∧ (a = none → c = 0) ∧ Y.Rd w a L := by
  obtain ⟨a, c, hv⟩ := h.form
  have hac : a = none → c = 0 := by
    rintro rfl
    rcases h.2 with ⟨h2, _⟩ | ⟨g, cap, cur, h2, _⟩
    · rw [hv] at h2; injection h2
    · rw [hv] at h2; injection h2 with h2; cases h2
  refine ⟨a, c, hv, hac, fun j e hj => ?_⟩
  obtain ⟨g, cap, h1, h2, h3⟩ := h.at_ j e hj
  rw [hv] at h1
  injection h1 with h1
  exact ⟨g, 0, h1, h2, by rw [Nat.zero_add]; exact h3⟩
theorem Lay.ones (Y : Lay α) (L : List α) : ∀ u ∈ L.flatMap Y.cells, u.oneCell' = true := by
  intro u hu
  rw [List.mem_flatMap] at hu
  obtain ⟨e, _, hu⟩ := hu
  exact Y.one e u hu
theorem Lay.Rd.cells {b off : Nat} (h : Y.Rd w (some ⟨b, off, none⟩) L) : ∀ j u, (L.flatMap Y.cells)[j]? = some u → w.cell? ((⟨b, off, none⟩ : Addr).add j) = some u := by
  intro j u hu
  have hj := lt_of_get hu
  rw [fm_length Y.cells Y.m Y.len] at hj
  have hi : j / Y.m < L.length := (Nat.div_lt_iff_lt_mul Y.pos).2 hj
  have hr : j % Y.m < Y.m := Nat.mod_lt _ Y.pos
  have h1 := fm_get Y.cells Y.m Y.len L (j / Y.m) (j % Y.m) hi hr
  have hdm : j / Y.m * Y.m + j % Y.m = j := Nat.div_add_mod' j Y.m
  rw [hdm, hu] at h1
  obtain ⟨b', off', he, _, h2⟩ := h (j / Y.m) _ (List.getElem?_eq_getElem hi)
  have e1 : b = b' ∧ off = off' := by injection he with he; injection he with x y; exact ⟨x, y⟩
  obtain ⟨rfl, rfl⟩ := e1
  rw [add_at, show off + j = off + j / Y.m * Y.m + j % Y.m by rw [Nat.add_assoc, hdm]]
  exact h2 _ _ h1.symm
theorem CellsAt.rd {g : Nat} {e : α} (hg : g < w.heap.size) (h : CellsAt w g 0 (Y.cells e)) : Y.Rd w (some ⟨g, 0, none⟩) [e] := by
  intro j x hj
  have hj0 : j = 0 := by have := lt_of_get hj; simp at this; exact this
  subst hj0
  have : x = e := by simp at hj; exact hj.symm
  subst this
  exact ⟨g, 0, rfl, hg, by rw [Nat.zero_mul]; exact h⟩
/-- what append makes: the run -/
theorem Lay.run_append (Y : Lay α) {w : World} {B : Nat} {v : Value} {L : List α} (ty : TypeId) (hown : Y.Row w B v L) (ad : Addr) (c : Nat) (M : List α) (had : ∃ b off, ad = ⟨b, off, none⟩) (hr : Y.Rd w (some ad) M) (hle : L.length + M.length ≤ 1000000) (hbase : B ≤ w.heap.size) :
    ∃ v' w', (Builtin.append_ #[Y.ts, Y.ts] ty #[v, .slice (some ad) M.length c]).run Try.prog w = .ok v' w' ∧ Y.Row w' B v' (L ++ M) ∧ w.grownBy w' v.ownBlock ∧ (v'.ownBlock = v.ownBlock ∨ v'.ownBlock = some w.heap.size) := by
  obtain ⟨b, off, rfl⟩ := had
  obtain ⟨i0, hi, hz0, hz1, hz2⟩ := info_parts Y.info
  have hsm : (L.length + M.length) * Y.bytes ≤ 140737488355328 := by
    have := Nat.mul_le_mul hle Y.small
    omega
  obtain ⟨v', w', h1, h2, h3, _, h5⟩ := run_append_own_at (P := Try.prog) w B Y.ts ty Y.t i0 Y.z Y.m Y.bytes Y.und hi hz0 hz1 hz2 Y.zs Y.pos v L.length _ hown ⟨b, off, none⟩ M.length c (M.flatMap Y.cells) (by rw [fm_length Y.cells Y.m Y.len]) hr.cells (Y.ones M) (by unfold maxLen; omega) hsm hbase
  refine ⟨v', w', h1, ?_, h3, h5⟩
  unfold Lay.Row
  rw [List.length_append, List.flatMap_append]
  exact h2
/-- append of one, in a straight region -/
theorem Lay.push (Y : Lay α) {w : World} {ops : Array Oper} {rest : List Oper} {o : Oper} {a : Act} {Q : Exit → Act → World → Prop} (hgd : o.guard = none) (s x : Operand)
    (ho : o.op = .call { callee := .builtin .append, args := #[s, x], argTypes := #[Y.ts, Y.ts] })
    (B : Nat) (v : Value) (L : List α) (hs : a.eval s = v) (hown : Y.Row w B v L) (g : Nat) (e : α) (hx : a.eval x = .slice (some ⟨g, 0, none⟩) 1 1) (hg : g < w.heap.size) (hc : CellsAt w g 0 (Y.cells e))
    (hle : L.length + 1 ≤ 1000000) (hbase : B ≤ w.heap.size)
    (h : ∀ v' w', Y.Row w' B v' (L ++ [e]) → w.grownBy w' v.ownBlock → (v'.ownBlock = v.ownBlock ∨ v'.ownBlock = some w.heap.size) → wpList Try.prog ops Q rest (a.put o.dst v') w') : wpList Try.prog ops Q (o :: rest) a w := by
  refine wpList_plain hgd fun K hK => ?_
  obtain ⟨v', w', hr, h2, h3, h5⟩ := Y.run_append o.type hown ⟨g, 0, none⟩ 1 [e] ⟨g, 0, rfl⟩ (CellsAt.rd hg hc) hle hbase
  rw [show ([e] : List α).length = 1 from rfl] at hr
  unfold Oper.wp execOp
  simp only [ho, resolve, invoke, builtin, Sem.run_bind, Sem.run_pure, Result.andThen_ok, List.map_toArray, List.map_cons, List.map_nil, hs, hx, hr]
  exact hK _ _ (h v' w' h2 h3 h5)
/-- the same, as a step of a region that draws its order -/
theorem Lay.step (Y : Lay α) {w : World} {ops : Array Oper} {o : Oper} {a : Act} {K : Act → World → Prop} {Q : Exit → Act → World → Prop} {E : Prop} (hgd : o.guard = none) (s x : Operand)
    (ho : o.op = .call { callee := .builtin .append, args := #[s, x], argTypes := #[Y.ts, Y.ts] })
    (B : Nat) (v : Value) (L : List α) (hs : a.eval s = v) (hown : Y.Row w B v L) (g : Nat) (e : α) (hx : a.eval x = .slice (some ⟨g, 0, none⟩) 1 1) (hg : g < w.heap.size) (hc : CellsAt w g 0 (Y.cells e))
    (hle : L.length + 1 ≤ 1000000) (hbase : B ≤ w.heap.size)
    (h : ∀ v' w', Y.Row w' B v' (L ++ [e]) → w.grownBy w' v.ownBlock → (v'.ownBlock = v.ownBlock ∨ v'.ownBlock = some w.heap.size) → K (a.put o.dst v') w') :
    if Region.wanted o (yielded ops a.tmps) = true then Oper.wp Try.prog o a w K Q else E := by
  have hw : Region.wanted o (yielded ops a.tmps) = true := by simp [Region.wanted, hgd]
  rw [if_pos hw]
  obtain ⟨v', w', hr, h2, h3, h5⟩ := Y.run_append o.type hown ⟨g, 0, none⟩ 1 [e] ⟨g, 0, rfl⟩ (CellsAt.rd hg hc) hle hbase
  rw [show ([e] : List α).length = 1 from rfl] at hr
  unfold Oper.wp execOp
  simp only [ho, resolve, invoke, builtin, Sem.run_bind, Sem.run_pure, Result.andThen_ok, List.map_toArray, List.map_cons, List.map_nil, hs, hx, hr]
  exact h v' w' h2 h3 h5
/-- append of many that are read, none of them too -/
theorem Lay.pushes (Y : Lay α) {w : World} {ops : Array Oper} {rest : List Oper} {o : Oper} {a : Act} {Q : Exit → Act → World → Prop} (hgd : o.guard = none) (s x : Operand)
    (ho : o.op = .call { callee := .builtin .append, args := #[s, x], argTypes := #[Y.ts, Y.ts] })
    (B : Nat) (v : Value) (L : List α) (hs : a.eval s = v) (hown : Y.Row w B v L) (A : Option Addr) (c : Nat) (M : List α) (hx : a.eval x = .slice A M.length c) (hac : A = none → c = 0) (hrd : Y.Rd w A M)
    (hA : ∀ ad, A = some ad → ∃ b off, ad = ⟨b, off, none⟩) (hle : L.length + M.length ≤ 1000000) (hbase : B ≤ w.heap.size)
    (h : ∀ v' w', Y.Row w' B v' (L ++ M) → w.grownBy w' v.ownBlock → (v'.ownBlock = v.ownBlock ∨ v'.ownBlock = some w.heap.size) → wpList Try.prog ops Q rest (a.put o.dst v') w') : wpList Try.prog ops Q (o :: rest) a w := by
  obtain ⟨i0, hi, hz0, hz1, hz2⟩ := info_parts Y.info
  rcases A with _ | ad
  · have hM : M = [] := by
      cases M with
      | nil => rfl
      | cons e M => obtain ⟨b, off, h1, _⟩ := hrd 0 e rfl; cases h1
    subst hM
    have hc := hac rfl
    subst hc
    refine wpList_append_own_none hgd s x Y.ts ho B Y.t i0 Y.m Y.und hi v L.length _ hs hown hx ?_
    exact h v w (by rw [List.append_nil]; exact hown) (World.grownBy.refl w _) (.inl rfl)
  · refine wpList_plain hgd fun K hK => ?_
    obtain ⟨v', w', hr, h2, h3, h5⟩ := Y.run_append o.type hown ad c M (hA ad rfl) hrd hle hbase
    unfold Oper.wp execOp
    simp only [ho, resolve, invoke, builtin, Sem.run_bind, Sem.run_pure, Result.andThen_ok, List.map_toArray, List.map_cons, List.map_nil, hs, hx, hr]
    exact hK _ _ (h v' w' h2 h3 h5)
end
end Go.Proofs.Ytmhljdkhekjfmaa

/- A map of whole numbers: what a look-up, a store under a new key, a delete and len do. No function of the program in sight. -/
namespace Go.Proofs.Ytmhljdkhekjfmaa
open Go.RowKit

/-- the block is a map; its entries, in their order -/
def MapAt (w : World) (g : Nat) (M : List (Int × Value)) : Prop := ∃ es clock, w.heap[g]? = some (.map es clock) ∧ es.toList.map (fun e => (e.key, e.val)) = M.map (fun x => (Value.int .i64 x.1, x.2))
def lookM (M : List (Int × Value)) (k : Int) : Option Value := (M.find? (fun x => x.1 == k)).map (fun x => x.2)
def dropM (M : List (Int × Value)) (k : Int) : List (Int × Value) := M.eraseP (fun x => x.1 == k)
theorem find_map (q : IntKind) (k : Int) : ∀ (es : List MapEntry) (M : List (Int × Value)) (i : Nat), es.map (fun e => (e.key, e.val)) = M.map (fun x => (Value.int .i64 x.1, x.2)) →
    (lookM M k = none ∧ Instr.findNow (.int q) (.int .i64 k) es i = some none ∧ dropM M k = M) ∨ ∃ j v, lookM M k = some v ∧ Instr.findNow (.int q) (.int .i64 k) es i = some (some (i + j, v)) ∧ j < es.length ∧ dropM M k = M.eraseIdx j := by
  intro es
  induction es with
  | nil =>
    intro M i h
    have hM : M = [] := by
      cases M with
      | nil => rfl
      | cons x M => simp at h
    subst hM
    exact .inl ⟨rfl, rfl, rfl⟩
  | cons e es ih =>
    intro M i h
    cases M with
    | nil => simp at h
    | cons x M =>
      simp only [List.map_cons, List.cons.injEq, Prod.mk.injEq] at h
      obtain ⟨⟨hk, hv⟩, ht⟩ := h
      have hs : Instr.sameNow (.int q) (.int .i64 k) e.key = some (k == x.1) := by rw [hk]; simp [Instr.sameNow]
      by_cases hc : x.1 = k
      · refine .inr ⟨0, e.val, ?_, ?_, by simp, ?_⟩
        · unfold lookM
          rw [List.find?_cons_of_pos (by simpa using hc), hv]; rfl
        · unfold Instr.findNow
          rw [hs, show (k == x.1) = true by simp [hc]]; rfl
        · unfold dropM
          rw [List.eraseP_cons_of_pos (by simpa using hc)]; rfl
      · have hf : (k == x.1) = false := by rw [beq_eq_false_iff_ne]; exact fun h => hc h.symm
        have hl : lookM (x :: M) k = lookM M k := by
          unfold lookM
          rw [List.find?_cons_of_neg (by simpa using hc)]
        have hd : dropM (x :: M) k = x :: dropM M k := by
          unfold dropM
          rw [List.eraseP_cons_of_neg (by simpa using hc)]
        have hn : Instr.findNow (.int q) (.int .i64 k) (e :: es) i = Instr.findNow (.int q) (.int .i64 k) es (i + 1) := by
          conv => lhs; unfold Instr.findNow
          rw [hs, hf]
        rw [hl, hd, hn]
        rcases ih M (i + 1) ht with ⟨h1, h2, h3⟩ | ⟨j, v, h1, h2, h3, h4⟩
        · exact .inl ⟨h1, h2, by rw [h3]⟩
        · exact .inr ⟨j + 1, v, h1, by rw [h2]; congr 3; omega, by simp; omega, by rw [h4]; rfl⟩
theorem erase_map {α β : Type} (f : α → β) (l : List α) (j : Nat) : (l.map f).eraseIdx j = (l.eraseIdx j).map f := by
  apply List.ext_getElem?
  intro i
  simp only [List.getElem?_eraseIdx, List.getElem?_map]
  split <;> rfl
section
variable {P : Program} {w : World} {g : Nat} {M : List (Int × Value)} {T K E : TypeId}
theorem keeps_set {o o' : Obj} (hb : w.heap[g]? = some o) : Keeps (fun k => k = g) w { w with heap := w.heap.setIfInBounds g o' } :=
  ⟨rfl, rfl, rfl, by simp, fun k _ hne => (Go.MapKept.heap_set hb).2 k hne⟩
theorem MapAt.keep {F : Nat → Prop} {w' : World} (h : MapAt w g M) (hk : Keeps F w w') (hf : ¬ F g) : MapAt w' g M := by
  obtain ⟨es, clock, hb, he⟩ := h
  refine ⟨es, clock, ?_, he⟩
  have hlt : g < w.heap.size := (Array.getElem?_eq_some_iff.1 hb).1
  rw [hk.block g hlt hf]; exact hb
theorem MapAt.lt (h : MapAt w g M) : g < w.heap.size := by
  obtain ⟨es, clock, hb, he⟩ := h
  exact (Array.getElem?_eq_some_iff.1 hb).1
theorem MapAt.new (w : World) : MapAt (w.alloc (.map #[] 0)) w.heap.size [] := ⟨#[], 0, (Go.MapKept.heap_alloc w _).1, rfl⟩
theorem MapAt.look (h : MapAt w g M) (hT : P.underlying T = some (.map K E)) (hK : P.underlying K = some (.int .i64)) (z : Value) (hz : ∀ w, (zeroValue E).run P w = .ok z w) (k : Int) :
    (Instr.lookup T (.map (some g)) (.int .i64 k) true).run P w = .ok (.tuple #[(lookM M k).getD z, .bool (lookM M k).isSome]) w := by
  obtain ⟨es, clock, hb, he⟩ := h
  have hk : Go.MapKept.IsKey (.int .i64) (.int .i64 k) := by simp [Go.MapKept.IsKey]
  rcases find_map .i64 k es.toList M 0 he with ⟨h1, h2, _⟩ | ⟨j, v, h1, h2, _, _⟩
  · simp [Instr.lookup, run_underlying hT, Go.MapKept.run_getObj_map hb, Go.MapKept.run_checkKey hK hk, Go.MapKept.run_findKey hK h2, h1, hz, Result.andThen]
  · simp [Instr.lookup, run_underlying hT, Go.MapKept.run_getObj_map hb, Go.MapKept.run_checkKey hK hk, Go.MapKept.run_findKey hK h2, h1, Result.andThen]
theorem MapAt.store (h : MapAt w g M) (hT : P.underlying T = some (.map K E)) (hK : P.underlying K = some (.int .i64)) (k : Int) (v : Value) (hn : lookM M k = none) :
    ∃ w', (Instr.mapUpdate T (.map (some g)) (.int .i64 k) v).run P w = .ok () w' ∧ MapAt w' g (M ++ [(k, v)]) ∧ Keeps (fun i => i = g) w w' ∧ w'.heap.size = w.heap.size := by
  obtain ⟨es, clock, hb, he⟩ := h
  have hk : Go.MapKept.IsKey (.int .i64) (.int .i64 k) := by simp [Go.MapKept.IsKey]
  rcases find_map .i64 k es.toList M 0 he with ⟨h1, h2, _⟩ | ⟨j, v, h1, h2, _, _⟩
  · refine ⟨{ w with heap := w.heap.setIfInBounds g (.map (es.push { key := .int .i64 k, val := v, born := clock }) (clock + 1)) }, ?_, ⟨_, _, (Go.MapKept.heap_set hb).1, ?_⟩, keeps_set hb, by simp⟩
    · simp [Instr.mapUpdate, run_underlying hT, Go.MapKept.run_getObj_map hb, Go.MapKept.run_checkKey hK hk, Go.MapKept.run_findKey hK h2, Go.MapKept.run_setObj_map _ hb, Result.andThen]
    · simp [he]
  · rw [hn] at h1; cases h1
theorem MapAt.delete (h : MapAt w g M) (hT : P.underlying T = some (.map K E)) (hK : P.underlying K = some (.int .i64)) (k : Int) (ty : TypeId) :
    ∃ w', (Builtin.delete_ #[T, K] ty #[.map (some g), .int .i64 k]).run P w = .ok (.tuple #[]) w' ∧ MapAt w' g (dropM M k) ∧ Keeps (fun i => i = g) w w' ∧ w'.heap.size = w.heap.size := by
  obtain ⟨es, clock, hb, he⟩ := h
  have hk : Go.MapKept.IsKey (.int .i64) (.int .i64 k) := by simp [Go.MapKept.IsKey]
  rcases find_map .i64 k es.toList M 0 he with ⟨h1, h2, h3⟩ | ⟨j, v, h1, h2, h4, h3⟩
  · refine ⟨{ w with heap := w.heap.setIfInBounds g (.map es clock) }, ?_, ⟨_, _, (Go.MapKept.heap_set hb).1, by rw [h3]; exact he⟩, keeps_set hb, by simp⟩
    simp [Builtin.delete_, run_underlying hT, Go.MapKept.run_getObj_map hb, Go.MapKept.run_checkKey hK hk, Go.MapKept.run_findKey hK h2, Go.MapKept.run_setObj_map _ hb, Result.andThen]
  · refine ⟨{ w with heap := w.heap.setIfInBounds g (.map (es.eraseIdxIfInBounds j) clock) }, ?_, ⟨_, _, (Go.MapKept.heap_set hb).1, ?_⟩, keeps_set hb, by simp⟩
    · simp [Builtin.delete_, run_underlying hT, Go.MapKept.run_getObj_map hb, Go.MapKept.run_checkKey hK hk, Go.MapKept.run_findKey hK h2, Go.MapKept.run_setObj_map _ hb, Result.andThen]
    · rw [h3]
      have e1 : (es.eraseIdxIfInBounds j).toList = es.toList.eraseIdx j := by
        unfold Array.eraseIdxIfInBounds
        rw [dif_pos (by simpa using h4)]
        simp
      rw [e1, ← erase_map, ← erase_map, he]
theorem MapAt.len (h : MapAt w g M) (hT : P.underlying T = some (.map K E)) (ty : TypeId) : (Builtin.len_ #[T] ty #[.map (some g)]).run P w = .ok (.int .i64 M.length) w := by
  obtain ⟨es, clock, hb, he⟩ := h
  have hl := congrArg List.length he
  simp only [List.length_map, Array.length_toList] at hl
  simp [Builtin.len_, run_underlying hT, Go.MapKept.run_getObj_map hb, Result.andThen, hl, goInt]
end
end Go.Proofs.Ytmhljdkhekjfmaa

/- The words of chapter 9: rungs, places, orders and levels; how a book lies in memory; small walks: is, Better. -/
namespace Go.Proofs.Ytmhljdkhekjfmaa
open Go.RowKit

structure Rg where
  price : Int
  q : Nat
deriving DecidableEq
structure Od where
  id : Int
  side : Int
  price : Int
  qty : Int
  top : Bool
deriving DecidableEq
structure Lv where
  price : Int
  qty : Int
  count : Int
deriving DecidableEq
structure Pl where
  side : Int
  price : Int
  slot : Int
deriving DecidableEq
def Rg.cells (x : Rg) : List Value := [.int .i64 x.price, .int .i64 x.q]
def Od.cells (x : Od) : List Value := [.int .i64 x.id, .int .i64 x.side, .int .i64 x.price, .int .i64 x.qty, .bool x.top]
def Lv.cells (x : Lv) : List Value := [.int .i64 x.price, .int .i64 x.qty, .int .i64 x.count]
def Pl.agg (x : Pl) : Value := .agg #[.int .i64 x.side, .int .i64 x.price, .int .i64 x.slot]
def zeroOd : Od := ⟨0, 0, 0, 0, false⟩
def zeroLv : Lv := ⟨0, 0, 0⟩
def zeroPl : Pl := ⟨0, 0, 0⟩
theorem Rg.ones (x : Rg) : ∀ u ∈ x.cells, u.oneCell' = true := by
  intro u hu
  simp only [Rg.cells, List.mem_cons, List.not_mem_nil, or_false] at hu
  rcases hu with rfl | rfl <;> rfl
theorem Od.ones (x : Od) : ∀ u ∈ x.cells, u.oneCell' = true := by
  intro u hu
  simp only [Od.cells, List.mem_cons, List.not_mem_nil, or_false] at hu
  rcases hu with rfl | rfl | rfl | rfl | rfl <;> rfl
theorem Lv.ones (x : Lv) : ∀ u ∈ x.cells, u.oneCell' = true := by
  intro u hu
  simp only [Lv.cells, List.mem_cons, List.not_mem_nil, or_false] at hu
  rcases hu with rfl | rfl | rfl <;> rfl
def RG : Lay Rg := ⟨Rg.cells, 2, fun _ => rfl, Rg.ones, by omega, 69, 59, .agg #[.int .i64 0, .int .i64 0], 16, Try.underlying59, by kernel_rfl, by rfl, by omega⟩
def OD : Lay Od := ⟨Od.cells, 5, fun _ => rfl, Od.ones, by omega, 39, 36, .agg zeroOd.cells.toArray, 40, Try.underlying36, by kernel_rfl, by rfl, by omega⟩
def LV : Lay Lv := ⟨Lv.cells, 3, fun _ => rfl, Lv.ones, by omega, 30, 44, .agg zeroLv.cells.toArray, 24, Try.underlying44, by kernel_rfl, by rfl, by omega⟩

/-! ### a book in memory -/
structure BD where
  ab : Nat
  sb : Nat
  qa : Option Addr
  gm : Nat
  s0 : Value
  s1 : Value
  spv : Value
  A : List (List Ent)
  R0 : List Rg
  R1 : List Rg
  sp : List Nat
  M : List (Int × Pl)
  t0 : Int
  t1 : Int
  h0 : Bool
  h1 : Bool
def BD.cells (d : BD) : Array Value := #[.pointer (some ⟨d.ab, 0, none⟩), d.s0, d.s1, .map (some d.gm), .int .i64 d.t0, .int .i64 d.t1, d.spv, .bool d.h0, .bool d.h1]
def BD.mv (d : BD) : List (Int × Value) := d.M.map (fun x => (x.1, x.2.agg))
/-- the blocks of a book -/
def BF (pb : Nat) (d : BD) (g : Nat) : Prop := g = pb ∨ LF d.ab d.sb d.qa g ∨ g = d.gm ∨ d.s0.ownBlock = some g ∨ d.s1.ownBlock = some g ∨ d.spv.ownBlock = some g
structure Bk (w : World) (pb : Nat) (d : BD) (B : Nat) : Prop where
  box : Blk w pb 65 d.cells
  la : LA w d.ab d.sb d.qa 250 d.A
  mp : MapAt w d.gm d.mv
  r0 : RG.Row w B d.s0 d.R0
  r1 : RG.Row w B d.s1 d.R1
  sp : RowI w B 3 d.spv (d.sp.map (fun (n : Nat) => (n : Int)))
  ne : ∀ g, d.s0.ownBlock = some g → d.s1.ownBlock ≠ some g
section
variable {w w' : World} {pb B : Nat} {d : BD}
theorem Bk.keep {F : Nat → Prop} (h : Bk w pb d B) (hk : Keeps F w w') (hf : ∀ g, BF pb d g → ¬ F g) : Bk w' pb d B :=
  ⟨h.box.keeps hk (hf _ (.inl rfl)), h.la.keep hk (hf _ (.inr (.inl (.inl rfl)))) (hf _ (.inr (.inl (.inr (.inl rfl))))) fun _ hg => hf _ (.inr (.inl (.inr (.inr hg)))),
    h.mp.keep hk (hf _ (.inr (.inr (.inl rfl)))), own_keep h.r0 hk fun _ hg => hf _ (.inr (.inr (.inr (.inl hg)))), own_keep h.r1 hk fun _ hg => hf _ (.inr (.inr (.inr (.inr (.inl hg))))),
    own_keep h.sp hk fun _ hg => hf _ (.inr (.inr (.inr (.inr (.inr hg))))), h.ne⟩
theorem Bk.below (h : Bk w pb d B) (hb : Below w.heap.size w w') : Bk w' pb d B := h.keep (Below.keeps (F := fun _ => False) hb) fun _ _ x => x
theorem Bk.lt (h : Bk w pb d B) : ∀ g, BF pb d g → g < w.heap.size := by
  rintro g (rfl | (rfl | rfl | hg) | rfl | hg | hg | hg)
  · exact h.box.lt
  · exact h.la.lt.1
  · exact h.la.lt.2.1
  · exact h.la.lt.2.2 g hg
  · exact h.mp.lt
  · exact own_lt h.r0 g hg
  · exact own_lt h.r1 g hg
  · exact own_lt h.sp g hg
/-- the nine cells -/
def BC (w : World) (pb : Nat) (d : BD) : Prop := w.cell? ⟨pb, 0, none⟩ = some (.pointer (some ⟨d.ab, 0, none⟩)) ∧ w.cell? ⟨pb, 1, none⟩ = some d.s0 ∧ w.cell? ⟨pb, 2, none⟩ = some d.s1 ∧ w.cell? ⟨pb, 3, none⟩ = some (.map (some d.gm)) ∧ w.cell? ⟨pb, 4, none⟩ = some (.int .i64 d.t0) ∧ w.cell? ⟨pb, 5, none⟩ = some (.int .i64 d.t1) ∧ w.cell? ⟨pb, 6, none⟩ = some d.spv ∧ w.cell? ⟨pb, 7, none⟩ = some (.bool d.h0) ∧ w.cell? ⟨pb, 8, none⟩ = some (.bool d.h1)
theorem BC.of {t : TypeId} (hb : Blk w pb t d.cells) : BC w pb d := by
  have h : ∀ i, w.cell? ⟨pb, i, none⟩ = d.cells[i]? := fun i => hb.cell i
  exact ⟨h 0, h 1, h 2, h 3, h 4, h 5, h 6, h 7, h 8⟩
end
def BD.R (d : BD) (side : Int) : List Rg := if side = 1 then d.R0 else d.R1
def BD.sv (d : BD) (side : Int) : Value := if side = 1 then d.s0 else d.s1
def BD.t (d : BD) (side : Int) : Int := if side = 1 then d.t0 else d.t1
def BD.h (d : BD) (side : Int) : Bool := if side = 1 then d.h0 else d.h1
theorem Bk.row {w : World} {pb B : Nat} {d : BD} (h : Bk w pb d B) (side : Int) : RG.Row w B (d.sv side) (d.R side) := by
  unfold BD.sv BD.R; split <;> first | exact h.r0 | exact h.r1
/-! ### small walks -/
def isB (s : Int) : Bool := s == 1 || s == 2
set_option maxHeartbeats 400000 in
theorem is_any9 (s : Int) (w : World) :
    Calls Try.prog 25 #[.int .i64 s] w fun e w' => e = .returned (.bool (isB s)) ∧ w = w' := by
  unfold isB
  by_cases h : s = 1
  · subst h
    go_enter Try.func25, Try.ntmps25
    go_wp2_with fail
    go_ret
    exact ⟨by trivial, by trivial⟩
  · have h1 : (s == 1) = false := by rw [beq_eq_false_iff_ne]; exact h
    rw [h1]
    go_enter Try.func25, Try.ntmps25
    go_wp2_with fail
    go_ret
    exact ⟨by trivial, by trivial⟩
def betterP (side x y : Int) : Bool := if side = 1 then decide (y < x) else decide (x < y)
set_option maxHeartbeats 400000 in
theorem better_any (side x y : Int) (w : World) :
    Calls Try.prog 27 #[.int .i64 side, .int .i64 x, .int .i64 y] w fun e w' => e = .returned (.bool (betterP side x y)) ∧ w = w' := by
  by_cases h : side = 1
  · subst h
    go_enter Try.func27, Try.ntmps27
    go_wp2_with fail
    go_ret
    exact ⟨by rfl, by trivial⟩
  · have hv : betterP side x y = decide (x < y) := if_neg h
    rw [hv]
    have h1 : (side == 1) = false := by rw [beq_eq_false_iff_ne]; exact h
    go_enter Try.func27, Try.ntmps27
    go_wp2_with fail
    go_ret
    exact ⟨by trivial, by trivial⟩
end Go.Proofs.Ytmhljdkhekjfmaa

/- The book's reads: find, told, Best, orders, At. -/
namespace Go.Proofs.Ytmhljdkhekjfmaa
open Go.RowKit

def ahead (R : List Rg) (side price : Int) : Nat := (R.takeWhile (fun r => betterP side r.price price)).length
def fnd (R : List Rg) (side price : Int) : Nat × Bool := (ahead R side price, match R[ahead R side price]? with | some r => r.price == price | none => false)
theorem ahead_eq {R : List Rg} {side price : Int} {i : Nat} (hi : i ≤ R.length) (h1 : ∀ j r, j < i → R[j]? = some r → betterP side r.price price = true) (h2 : ∀ r, R[i]? = some r → betterP side r.price price = false) : ahead R side price = i := by
  unfold ahead
  have e : R = R.take i ++ R.drop i := (List.take_append_drop i R).symm
  have ht : ∀ r ∈ R.take i, betterP side r.price price = true := by
    intro r hr
    obtain ⟨j, hj, rfl⟩ := List.getElem_of_mem hr
    have hj2 : j < i := by rw [List.length_take] at hj; omega
    exact h1 j _ hj2 (by rw [← List.getElem?_eq_getElem] <;> simp [hj2])
  rw [e, List.takeWhile_append_of_pos ht]
  have hd : (R.drop i).takeWhile (fun r => betterP side r.price price) = [] := by
    cases hc : R.drop i with
    | nil => rfl
    | cons r l =>
      have hr : R[i]? = some r := by
        have h3 : (R.drop i)[0]? = some r := by rw [hc]; rfl
        rw [List.getElem?_drop] at h3
        exact h3
      rw [List.takeWhile_cons, h2 r hr]
      rfl
  rw [hd, List.append_nil, List.length_take]
  omega
theorem side_z {side : Int} (hs : side = 1 ∨ side = 2) : ∃ z : Nat, z < 2 ∧ side = (z : Int) + 1 ∧ IntKind.i64.wrap (side - 1) = (z : Int) := by
  rcases hs with rfl | rfl
  · exact ⟨0, by omega, rfl, by decide⟩
  · exact ⟨1, by omega, rfl, by decide⟩
section
variable {w : World} {pb B : Nat} {d : BD}
theorem Bk.side_cell (h : Bk w pb d B) {side : Int} {z : Nat} (hz : z < 2) (hs : side = (z : Int) + 1) : ∃ a c, d.sv side = .slice a (d.R side).length c ∧ RG.Rd w a (d.R side) ∧ ∀ w', Below w.heap.size w w' → w'.cell? ⟨pb, 1 + z, none⟩ = some (.slice a (d.R side).length c) := by
  obtain ⟨a, c, hv, _, hrd⟩ := (h.row side).rd
  refine ⟨a, c, hv, hrd, fun w' hb => ?_⟩
  rw [← hv]
  have hbc := BC.of (h.below hb).box
  have : z = 0 ∨ z = 1 := by omega
  rcases this with rfl | rfl
  · subst hs; exact hbc.2.1
  · subst hs; exact hbc.2.2.1
set_option maxRecDepth 100000 in
set_option maxHeartbeats 4000000 in
theorem find_any9 (h : Bk w pb d B) (side price : Int) (hs : side = 1 ∨ side = 2) (hl : (d.R side).length ≤ 1000000) :
    Calls Try.prog 35 #[.pointer (some ⟨pb, 0, none⟩), .int .i64 side, .int .i64 price] w fun e w' => e = .returned (.tuple #[.int .i64 (fnd (d.R side) side price).1, .bool (fnd (d.R side) side price).2]) ∧ Below w.heap.size w w' := by
  obtain ⟨z, hz, hsz, yz⟩ := side_z hs
  obtain ⟨a, c, _, hrd, hcell⟩ := h.side_cell hz hsz
  have HRD := Lib.hid hrd
  have HSZ := Lib.hid hsz
  have c1 := hcell w (Below.refl _ _)
  have HBL := Lib.hid (Below.refl w.heap.size w)
  clear h hrd hcell hsz hs
  generalize d.R side = R at *
  go_enter Try.func35, Try.ntmps35
  go_wp2_with fail
  go_loopw [9] (fun j w' => ∃ i : Nat, j = .int .i64 i ∧ i ≤ R.length ∧ (∀ j r, j < i → R[j]? = some r → betterP side r.price price = true) ∧ Below w.heap.size w w') (fun j _ => R.length - (intOf j).toNat)
  case atStart => exact ⟨0, rfl, Nat.zero_le _, fun j r hj => absurd hj (Nat.not_lt_zero _), HBL.out⟩
  case round =>
    clear HBL c1 yz
    obtain ⟨i, rfl, hi, ha, hb⟩ := hrel
    obtain ⟨wy, rfl⟩ : ∃ wo : World, wo = wr := ⟨_, rfl⟩
    have HBL := Lib.hid hb
    have HA := Lib.hid ha
    clear ha hb
    by_cases hin : i < R.length
    · have hin' : (i : Int) < (R.length : Int) := by omega
      obtain ⟨r, hr⟩ : ∃ r, R[i]? = some r := ⟨_, List.getElem?_eq_getElem hin⟩
      obtain ⟨rb, off, rfl, hbl, hcr⟩ := HRD.out.below HBL.out i r hr
      have c0 : wy.cell? ⟨rb, off + i * 2, none⟩ = some (.int .i64 r.price) := hcr 0 _ rfl
      have HR := Lib.hid hr
      clear hr hbl hcr
      go_wp2_with fail
      refine (better_any side r.price price _).mono ?_
      rintro e w5 ⟨rfl, rfl⟩
      cases hbt : betterP side r.price price with
      | true =>
        have HBT := Lib.hid hbt
        clear hbt c0
        go_wp2_with fail
        go_roundw
        case rel => exact ⟨i + 1, by go_num, by omega, fun j r' hj hr' => by
          by_cases hc : j = i
          · subst hc
            rw [HR.out] at hr'
            injection hr' with hr'
            rw [← hr']; exact HBT.out
          · exact HA.out j r' (by omega) hr', HBL.out⟩
        case measure => simp [intOf]; omega
      | false =>
        have he : ahead R side price = i := ahead_eq hi HA.out fun r' hr' => by
          rw [HR.out] at hr'
          injection hr' with hr'
          rw [← hr']; exact hbt
        have HFN : Hid (fnd R side price = (i, r.price == price)) := Lib.hid (by unfold fnd; rw [he, HR.out])
        clear hbt he
        go_upto_region 5 with (fail)
        go_quiet (fail)
        go_wp2_with fail
        go_ret2
        exact ⟨by rw [HFN.out]; rfl, HBL.out.trans ((Below.drewN_of _ _).mono HBL.out.size)⟩
    · obtain rfl : i = R.length := by omega
      have he : ahead R side price = R.length := ahead_eq hi HA.out fun r' hr' => by
        have := lt_of_get hr'; omega
      have HFN : Hid (fnd R side price = (R.length, false)) := Lib.hid (by unfold fnd; rw [he, List.getElem?_eq_none (Nat.le_refl _)])
      clear he
      go_upto_region 5 with (fail)
      go_quiet (fail)
      go_wp2_with fail
      go_ret2
      exact ⟨by rw [HFN.out]; rfl, HBL.out.trans ((Below.drewN_of _ _).mono HBL.out.size)⟩
end
end Go.Proofs.Ytmhljdkhekjfmaa

/- A region that draws its order, walked under one condition on the world that need not hold any more behind the operation that comes last: so that a store there may undo it. No function of the program in sight. -/
namespace Go.Proofs.Ytmhljdkhekjfmaa

section
variable {P : Program} {ops : Array Oper} {Q : Exit → Act → World → Prop} {md : Region.Mode} {S : World → Prop}

/-- whatever order is picked from here on; S holds behind each operation as long as one is still to come -/
def wpE (P : Program) (md : Region.Mode) (ops : Array Oper) (Q : Exit → Act → World → Prop) (S : World → Prop) : Nat → Array Bool → Act → World → Prop
  | 0, L, a, w => Region.ready md ops L = [] ∧ Q .normal a w
  | f + 1, L, a, w => (Region.ready md ops L = [] → Q .normal a w) ∧ ∀ i ∈ Region.ready md ops L, wpOp P ops Q i (fun b u => ((∃ k, (L.setIfInBounds i true).getD k true = false) → S u) ∧ wpE P md ops Q S f (L.setIfInBounds i true) b u) a w

theorem wpAny_of_E : ∀ (f : Nat) (L : Array Bool) (a : Act) (w : World), wpE P md ops Q S f L a w → wpAny P md ops Q f L a w
  | 0, _, _, _, h => h
  | f + 1, _, _, _, h => ⟨h.1, fun i hi => wpOp_mono (fun b u hb => wpAny_of_E f _ b u hb.2) (h.2 i hi)⟩

/-- does an operation that has not come up yet wait for this one? -/
def awaited (md : Region.Mode) (ops : Array Oper) (L : Array Bool) (i : Nat) : Bool := (List.range ops.size).any fun k => decide (k ≠ i) && !L.getD k true && Region.waitsFor md ops k i

theorem wpE_first {i k : Nat} {oi : Oper} {v : Value} (hi : ops[i]? = some oi) (hsel : ∀ (j : Nat) (o : Oper) cs b, ops[j]? = some o → o.op ≠ .select cs b)
    (hQ : ∀ c a w, Q (.panic c) (a.put oi.dst v) w → Q (.panic c) a w) (hki : k ≠ i) (hkw : Region.waitsFor md ops k i = true) :
    ∀ (f : Nat) (L : Array Bool) (a : Act) (w : World), L.getD k true = false →
      (∀ j oj, ops[j]? = some oj → j ≠ i → L.getD j true = false → (∀ e ∈ oj.after, Region.binds md e = true → e.on ≠ i) → oi.apart ops oj = true) →
      i ∈ Region.ready md ops L → YieldsIf P ops S oi v a → S w → wpE P md ops Q S f (L.setIfInBounds i true) (a.put oi.dst v) w → wpE P md ops Q S (f + 1) L a w := by
  intro f
  induction f with
  | zero =>
    intro L a w _ _ hr hy hS H
    refine ⟨fun h0 => absurd hr (by rw [h0]; simp), fun j hj => ?_⟩
    by_cases hji : j = i
    · subst hji
      exact hy.wpOp hi hS ⟨fun _ => hS, H⟩
    · have h0 := ready_mono hj hji
      rw [H.1] at h0
      cases h0
  | succ f ih =>
    intro L a w hk hfree hr hy hS H
    refine ⟨fun h0 => absurd hr (by rw [h0]; simp), fun j hj => ?_⟩
    by_cases hji : j = i
    · subst hji
      exact hy.wpOp hi hS ⟨fun _ => hS, H⟩
    · have hiun := (mem_ready.1 hr).1
      obtain ⟨hjun, oj, hoj, hall⟩ := mem_ready.1 hj
      have hno : ∀ e ∈ oj.after, Region.binds md e = true → e.on ≠ i := fun e he hb heq => by
        have h1 := hall e he hb
        rw [heq, getD_both hiun] at h1
        cases h1
      have hjk : j ≠ k := by
        rintro rfl
        obtain ⟨o', ho', e, he, hb, hon⟩ := Region.waitsFor_spec hkw
        rw [hoj] at ho'
        injection ho' with ho'
        subst ho'
        exact hno e he hb hon
      have h2 := wpOp_putIf hoj (hfree j oj hoj hji hjun hno) (fun cs b => hsel i oi cs b hi) (fun cs b => hsel j oj cs b hoj) hQ hy (H.2 j (ready_mono hj hji))
      refine wpOp_mono (fun b u hb => ?_) h2
      have hkj : (L.setIfInBounds j true).getD k true = false := by rw [getD_set_ne true hjk]; exact hk
      have hSu : S u := hb.2.1 ⟨k, by rw [getD_set_ne true hjk, getD_set_ne true (Ne.symm hki)]; exact hk⟩
      refine ⟨fun _ => hSu, ih (L.setIfInBounds j true) b u hkj (fun k' ok hk' hki' hun hno' => hfree k' ok hk' hki' (by
        by_cases hx : j = k'
        · subst hx; exact hjun
        · rw [getD_set_ne true hx] at hun; exact hun) hno') (ready_mono hr (Ne.symm hji)) hb.1 hSu ?_⟩
      rw [Array.setIfInBounds_comm _ _ hji]
      exact hb.2.2

theorem wpE_take {i : Nat} {oi : Oper} {v : Value} {f : Nat} {L : Array Bool} {a : Act} {w : World} (hi : ops[i]? = some oi) (hs : Region.noSelect ops = true) (hf : Region.free md ops L i = true)
    (hr : (Region.ready md ops L).contains i = true) (ha : awaited md ops L i = true) (hQ : ∀ c a w, Q (.panic c) (a.put oi.dst v) w → Q (.panic c) a w) (hy : YieldsIf P ops S oi v a) (hS : S w)
    (h : wpE P md ops Q S f (L.setIfInBounds i true) (a.put oi.dst v) w) : wpE P md ops Q S (f + 1) L a w := by
  obtain ⟨k, _, hk⟩ := List.any_eq_true.1 ha
  simp only [Bool.and_eq_true, decide_eq_true_eq, Bool.not_eq_true'] at hk
  exact wpE_first hi (Region.noSelect_spec hs) hQ hk.1.1 hk.2 f L a w hk.1.2 (Region.free_spec hi hf) (by simpa using hr) hy hS h

/-- one operation alone may come up, and others are still to come -/
theorem wpE_one {i : Nat} {o : Oper} {f : Nat} {L : Array Bool} {a : Act} {w : World} (ho : ops[i]? = some o) (hr : Region.ready md ops L = [i])
    (h : ∀ K' : Act → World → Prop, Shut (∀ a w, S w → (S w → wpE P md ops Q S f (L.setIfInBounds i true) a w) → K' a w) → if Region.wanted o (yielded ops a.tmps) = true then Oper.wp P o a w K' Q else K' (a.put o.dst undef) w) : wpE P md ops Q S (f + 1) L a w := by
  refine ⟨fun h0 => (by rw [hr] at h0; cases h0), fun j hj => ?_⟩
  rw [hr] at hj
  obtain rfl : j = i := by simpa using hj
  exact wpOp_step ho fun K' hK => h K' fun b u hS hW => hK b u ⟨fun _ => hS, hW hS⟩
/-- the operation that comes last -/
theorem wpE_last {i : Nat} {o : Oper} {f : Nat} {L : Array Bool} {a : Act} {w : World} (ho : ops[i]? = some o) (hr : Region.ready md ops L = [i]) (hall : (L.setIfInBounds i true).all (fun b => b) = true) (hz : Region.ready md ops (L.setIfInBounds i true) = [])
    (h : ∀ K' : Act → World → Prop, Shut (∀ a w, Q .normal a w → K' a w) → if Region.wanted o (yielded ops a.tmps) = true then Oper.wp P o a w K' Q else K' (a.put o.dst undef) w) : wpE P md ops Q S (f + 1) L a w := by
  refine ⟨fun h0 => (by rw [hr] at h0; cases h0), fun j hj => ?_⟩
  rw [hr] at hj
  obtain rfl : j = i := by simpa using hj
  refine wpOp_step ho fun K' hK => h K' fun b u hW => hK b u ⟨?_, ?_⟩
  · rintro ⟨k, hk⟩
    rcases Nat.lt_or_ge k (L.setIfInBounds j true).size with hlt | hge
    · have h1 := Array.all_eq_true.1 hall k hlt
      rw [show (L.setIfInBounds j true).getD k true = (L.setIfInBounds j true)[k]'hlt from by simp only [Array.getD, hlt, dite_true]; rfl] at hk
      rw [h1] at hk
      cases hk
    · have : (L.setIfInBounds j true).getD k true = true := by simp only [Array.getD, Nat.not_lt.2 hge, dite_false]
      rw [this] at hk
      cases hk
  · cases f with
    | zero => exact ⟨hz, hW⟩
    | succ f => exact ⟨fun _ => hW, fun i hi => by rw [hz] at hi; cases hi⟩
/-- from here on S holds behind each, the last one too -/
theorem wpE_of_held : ∀ (f : Nat) (L : Array Bool) (a : Act) (w : World), wpAnyH P md ops Q S f L a w → wpE P md ops Q S f L a w
  | 0, _, _, _, h => h
  | f + 1, _, _, _, h => ⟨h.1, fun i hi => wpOp_mono (fun b u hb => ⟨fun _ => hb.1, wpE_of_held f _ b u hb.2⟩) (h.2 i hi)⟩
/-- the beginning -/
theorem wp_region_E {id : Nat} {a : Act} {w : World} (hm : P.follows .mixedOrders = true) (hS : S w.drew) (h : S w.drew → wpE P .any ops Q S ops.size (Array.replicate ops.size false) a w.drew) : (Code.region id ops true).wp P Q a w :=
  wp_region_any hm (wpAny_of_E _ _ _ _ (h hS))
end
end Go.Proofs.Ytmhljdkhekjfmaa

/- A region that draws its order, where one of two operations may come up. No function of the program in sight. -/
namespace Go.Proofs.Ytmhljdkhekjfmaa

section
variable {P : Program} {ops : Array Oper} {Q : Exit → Act → World → Prop} {md : Region.Mode} {S : World → Prop}
theorem wpE_two {i j : Nat} {oi oj : Oper} {f : Nat} {L : Array Bool} {a : Act} {w : World} (hoi : ops[i]? = some oi) (hoj : ops[j]? = some oj) (hr : Region.ready md ops L = [i, j])
    (h1 : ∀ K' : Act → World → Prop, Shut (∀ a w, S w → (S w → wpE P md ops Q S f (L.setIfInBounds i true) a w) → K' a w) → if Region.wanted oi (yielded ops a.tmps) = true then Oper.wp P oi a w K' Q else K' (a.put oi.dst undef) w)
    (h2 : ∀ K' : Act → World → Prop, Shut (∀ a w, S w → (S w → wpE P md ops Q S f (L.setIfInBounds j true) a w) → K' a w) → if Region.wanted oj (yielded ops a.tmps) = true then Oper.wp P oj a w K' Q else K' (a.put oj.dst undef) w) : wpE P md ops Q S (f + 1) L a w := by
  refine ⟨fun h0 => (by rw [hr] at h0; cases h0), fun k hk => ?_⟩
  rw [hr] at hk
  have hk2 : k = i ∨ k = j := by simpa using hk
  rcases hk2 with rfl | rfl
  · exact wpOp_step hoi fun K' hK => h1 K' fun b u hS hW => hK b u ⟨fun _ => hS, hW hS⟩
  · exact wpOp_step hoj fun K' hK => h2 K' fun b u hS hW => hK b u ⟨fun _ => hS, hW hS⟩
end
end Go.Proofs.Ytmhljdkhekjfmaa

/- The book's reads: told, Best, Ladder, Count. -/
namespace Go.Proofs.Ytmhljdkhekjfmaa
open Go.RowKit

def toldL (A : List (List Ent)) (r : Rg) : Lv := ⟨r.price, totA A r.q, cntA A r.q⟩
def bestL (d : BD) (side : Int) : Lv × Bool := if isB side = true then (match d.R side with | [] => (zeroLv, false) | r :: _ => (toldL d.A r, true)) else (zeroLv, false)
def ladL (d : BD) (side : Int) : List Lv := if isB side = true then (d.R side).map (toldL d.A) else []
section
variable {w : World} {pb B : Nat} {d : BD}
set_option maxRecDepth 100000 in
set_option maxHeartbeats 4000000 in
theorem told_any (h : Bk w pb d B) (r : Rg) :
    Calls Try.prog 26 #[.pointer (some ⟨pb, 0, none⟩), .agg #[.int .i64 r.price, .int .i64 r.q]] w fun e w' => e = .returned (.agg (toldL d.A r).cells.toArray) ∧ Below w.heap.size w w' := by
  have s1 : ∀ (w : World) (o : Obj), (w.alloc o).heap.size = w.heap.size + 1 := fun w o => by simp
  have HB := Lib.hid h
  have HV : Hid ((toldL d.A r).cells.toArray = #[.int .i64 r.price, .int .i64 (totA d.A r.q), .int .i64 (cntA d.A r.q)]) := Lib.hid rfl
  clear h
  go_enter Try.func26, Try.ntmps26
  go_upto_region 1 with (fail)
  have hbx : Blk ((w.alloc (.cells #[.int .i64 r.price, .int .i64 r.q] 69)).alloc (.cells #[.int .i64 0, .int .i64 0, .int .i64 0] 30)) w.heap.size 69 #[.int .i64 r.price, .int .i64 r.q] := (Blk.new _ _ _).alloc _
  have hlv : Blk ((w.alloc (.cells #[.int .i64 r.price, .int .i64 r.q] 69)).alloc (.cells #[.int .i64 0, .int .i64 0, .int .i64 0] 30)) (w.heap.size + 1) 30 #[.int .i64 0, .int .i64 0, .int .i64 0] := by
    have := Blk.new (w.alloc (.cells #[.int .i64 r.price, .int .i64 r.q] 69)) 30 #[.int .i64 0, .int .i64 0, .int .i64 0]
    rw [s1] at this
    exact this
  have hb0 : Below w.heap.size w ((w.alloc (.cells #[.int .i64 r.price, .int .i64 r.q] 69)).alloc (.cells #[.int .i64 0, .int .i64 0, .int .i64 0] 30)) := (Below.allocN _ _).alloc (by rw [s1]; omega) _
  obtain ⟨gl, hgl⟩ : ∃ gl, w.heap.size + 1 = gl := ⟨_, rfl⟩
  have HGL : Hid (w.heap.size ≤ gl ∧ w.heap.size ≠ gl) := Lib.hid (by omega)
  rw [hgl] at hlv ⊢
  clear hgl
  generalize (w.alloc (.cells #[.int .i64 r.price, .int .i64 r.q] 69)).alloc (.cells #[.int .i64 0, .int .i64 0, .int .i64 0] 30) = w2 at *
  have HB2 := Lib.hid (HB.out.below hb0)
  have HB0 := Lib.hid hb0
  have HLV := Lib.hid hlv
  have r0 : w2.cell? ⟨w.heap.size, 0, none⟩ = some (.int .i64 r.price) := hbx.cell 0
  have r1 : w2.cell? ⟨w.heap.size, 1, none⟩ = some (.int .i64 r.q) := hbx.cell 1
  have c0 : w2.cell? ⟨pb, 0, none⟩ = some (.pointer (some ⟨d.ab, 0, none⟩)) := (BC.of HB2.out.box).1
  have l0 : w2.cell? ⟨gl, 0, none⟩ = some (.int .i64 0) := hlv.cell 0
  have l1 : w2.cell? ⟨gl, 1, none⟩ = some (.int .i64 0) := hlv.cell 1
  have l2 : w2.cell? ⟨gl, 2, none⟩ = some (.int .i64 0) := hlv.cell 2
  have f0 : ∀ o, w2.frozen? ⟨gl, o, none⟩ = false := fun o => HLV.out.frozen o
  have HLA : Hid (LA w2.drew d.ab d.sb d.qa 250 d.A) := Lib.hid (HB2.out.la.below (Below.drewN_of w2 1))
  clear hbx hlv hb0
  refine wp_region_E (S := fun w' => w'.cell? ⟨w.heap.size, 0, none⟩ = some (.int .i64 r.price) ∧ w'.cell? ⟨w.heap.size, 1, none⟩ = some (.int .i64 r.q) ∧ w'.cell? ⟨pb, 0, none⟩ = some (.pointer (some ⟨d.ab, 0, none⟩))) (by kernel_rfl) ⟨r0, r1, c0⟩ (fun hHeld => ?_)
  refine wpE_take (i := 0) (oi := ?oi1) (v := ?v1) ?hi1 (by kernel_rfl) (by kernel_rfl) (by kernel_rfl) (by kernel_rfl) ?hQ1 ?hy1 (by assumption) ?rest1
  case hi1 => (simp only [List.getElem?_toArray]; rfl)
  case hQ1 => exact fun _ _ _ h => h
  case hy1 => exact Or.inl ⟨by rfl, by (intro w hSw; (try dsimp only at hSw); go_simp; try with_reducible rfl)⟩
  try simp only [Act.put, List.setIfInBounds_toArray, List.set_cons_zero, List.set_cons_succ]
  refine wpE_take (i := 1) (oi := ?oi2) (v := ?v2) ?hi2 (by kernel_rfl) (by kernel_rfl) (by kernel_rfl) (by kernel_rfl) ?hQ2 ?hy2 (by assumption) ?rest2
  case hi2 => (simp only [List.getElem?_toArray]; rfl)
  case hQ2 => exact fun _ _ _ h => h
  case hy2 => exact Or.inl ⟨by rfl, by (intro w hSw; (try dsimp only at hSw); go_simp; try with_reducible rfl)⟩
  try simp only [Act.put, List.setIfInBounds_toArray, List.set_cons_zero, List.set_cons_succ]
  refine wpE_take (i := 2) (oi := ?oi3) (v := ?v3) ?hi3 (by kernel_rfl) (by kernel_rfl) (by kernel_rfl) (by kernel_rfl) ?hQ3 ?hy3 (by assumption) ?rest3
  case hi3 => (simp only [List.getElem?_toArray]; rfl)
  case hQ3 => exact fun _ _ _ h => h
  case hy3 => exact Or.inl ⟨by rfl, by (intro w hSw; (try dsimp only at hSw); go_simp; try with_reducible rfl)⟩
  try simp only [Act.put, List.setIfInBounds_toArray, List.set_cons_zero, List.set_cons_succ]
  refine wpE_take (i := 3) (oi := ?oi4) (v := ?v4) ?hi4 (by kernel_rfl) (by kernel_rfl) (by kernel_rfl) (by kernel_rfl) ?hQ4 ?hy4 (by assumption) ?rest4
  case hi4 => (simp only [List.getElem?_toArray]; rfl)
  case hQ4 => exact fun _ _ _ h => h
  case hy4 => exact Or.inl ⟨by rfl, by (intro w hSw; (try dsimp only at hSw); go_simp; try with_reducible rfl)⟩
  try simp only [Act.put, List.setIfInBounds_toArray, List.set_cons_zero, List.set_cons_succ]
  refine wpE_take (i := 4) (oi := ?oi5) (v := ?v5) ?hi5 (by kernel_rfl) (by kernel_rfl) (by kernel_rfl) (by kernel_rfl) ?hQ5 ?hy5 (by assumption) ?rest5
  case hi5 => (simp only [List.getElem?_toArray]; rfl)
  case hQ5 => exact fun _ _ _ h => h
  case hy5 => exact Or.inl ⟨by rfl, by (intro w hSw; (try dsimp only at hSw); go_simp; try with_reducible rfl)⟩
  try simp only [Act.put, List.setIfInBounds_toArray, List.set_cons_zero, List.set_cons_succ]
  refine wpE_take (i := 5) (oi := ?oi6) (v := ?v6) ?hi6 (by kernel_rfl) (by kernel_rfl) (by kernel_rfl) (by kernel_rfl) ?hQ6 ?hy6 (by assumption) ?rest6
  case hi6 => (simp only [List.getElem?_toArray]; rfl)
  case hQ6 => exact fun _ _ _ h => h
  case hy6 => exact Or.inl ⟨by rfl, by (intro w hSw; (try dsimp only at hSw); go_simp; try with_reducible rfl)⟩
  try simp only [Act.put, List.setIfInBounds_toArray, List.set_cons_zero, List.set_cons_succ]
  refine wpE_take (i := 6) (oi := ?oi7) (v := ?v7) ?hi7 (by kernel_rfl) (by kernel_rfl) (by kernel_rfl) (by kernel_rfl) ?hQ7 ?hy7 (by assumption) ?rest7
  case hi7 => (simp only [List.getElem?_toArray]; rfl)
  case hQ7 => exact fun _ _ _ h => h
  case hy7 => exact Or.inl ⟨by rfl, by (intro w hSw; (try dsimp only at hSw); go_simp; try with_reducible rfl)⟩
  try simp only [Act.put, List.setIfInBounds_toArray, List.set_cons_zero, List.set_cons_succ]
  refine wpE_take (i := 7) (oi := ?oi8) (v := ?v8) ?hi8 (by kernel_rfl) (by kernel_rfl) (by kernel_rfl) (by kernel_rfl) ?hQ8 ?hy8 (by assumption) ?rest8
  case hi8 => (simp only [List.getElem?_toArray]; rfl)
  case hQ8 => exact fun _ _ _ h => h
  case hy8 => exact Or.inl ⟨by rfl, by (intro w hSw; (try dsimp only at hSw); go_simp; try with_reducible rfl)⟩
  try simp only [Act.put, List.setIfInBounds_toArray, List.set_cons_zero, List.set_cons_succ]
  refine wpE_take (i := 9) (oi := ?oi9) (v := ?v9) ?hi9 (by kernel_rfl) (by kernel_rfl) (by kernel_rfl) (by kernel_rfl) ?hQ9 ?hy9 (by assumption) ?rest9
  case hi9 => (simp only [List.getElem?_toArray]; rfl)
  case hQ9 => exact fun _ _ _ h => h
  case hy9 => exact Or.inl ⟨by rfl, by (intro w hSw; (try dsimp only at hSw); go_simp; try with_reducible rfl)⟩
  try simp only [Act.put, List.setIfInBounds_toArray, List.set_cons_zero, List.set_cons_succ]
  refine wpE_take (i := 10) (oi := ?oi10) (v := ?v10) ?hi10 (by kernel_rfl) (by kernel_rfl) (by kernel_rfl) (by kernel_rfl) ?hQ10 ?hy10 (by assumption) ?rest10
  case hi10 => (simp only [List.getElem?_toArray]; rfl)
  case hQ10 => exact fun _ _ _ h => h
  case hy10 => exact Or.inl ⟨by rfl, by (intro w hSw; (try dsimp only at hSw); go_simp; try with_reducible rfl)⟩
  try simp only [Act.put, List.setIfInBounds_toArray, List.set_cons_zero, List.set_cons_succ]
  refine wpE_take (i := 11) (oi := ?oi11) (v := ?v11) ?hi11 (by kernel_rfl) (by kernel_rfl) (by kernel_rfl) (by kernel_rfl) ?hQ11 ?hy11 (by assumption) ?rest11
  case hi11 => (simp only [List.getElem?_toArray]; rfl)
  case hQ11 => exact fun _ _ _ h => h
  case hy11 => exact Or.inl ⟨by rfl, by (intro w hSw; (try dsimp only at hSw); go_simp; try with_reducible rfl)⟩
  try simp only [Act.put, List.setIfInBounds_toArray, List.set_cons_zero, List.set_cons_succ]
  refine wpE_take (i := 12) (oi := ?oi12) (v := ?v12) ?hi12 (by kernel_rfl) (by kernel_rfl) (by kernel_rfl) (by kernel_rfl) ?hQ12 ?hy12 (by assumption) ?rest12
  case hi12 => (simp only [List.getElem?_toArray]; rfl)
  case hQ12 => exact fun _ _ _ h => h
  case hy12 => exact Or.inl ⟨by rfl, by (intro w hSw; (try dsimp only at hSw); go_simp; try with_reducible rfl)⟩
  try simp only [Act.put, List.setIfInBounds_toArray, List.set_cons_zero, List.set_cons_succ]
  refine wpE_take (i := 13) (oi := ?oi13) (v := ?v13) ?hi13 (by kernel_rfl) (by kernel_rfl) (by kernel_rfl) (by kernel_rfl) ?hQ13 ?hy13 (by assumption) ?rest13
  case hi13 => (simp only [List.getElem?_toArray]; rfl)
  case hQ13 => exact fun _ _ _ h => h
  case hy13 => exact Or.inl ⟨by rfl, by (intro w hSw; (try dsimp only at hSw); go_simp; try with_reducible rfl)⟩
  try simp only [Act.put, List.setIfInBounds_toArray, List.set_cons_zero, List.set_cons_succ]
  refine wpE_take (i := 14) (oi := ?oi14) (v := ?v14) ?hi14 (by kernel_rfl) (by kernel_rfl) (by kernel_rfl) (by kernel_rfl) ?hQ14 ?hy14 (by assumption) ?rest14
  case hi14 => (simp only [List.getElem?_toArray]; rfl)
  case hQ14 => exact fun _ _ _ h => h
  case hy14 => exact Or.inl ⟨by rfl, by (intro w hSw; (try dsimp only at hSw); go_simp; try with_reducible rfl)⟩
  try simp only [Act.put, List.setIfInBounds_toArray, List.set_cons_zero, List.set_cons_succ]
  refine wpE_one (i := 8) (o := ?o16) ?ho16 (by kernel_rfl) (fun K hK => ?_)
  case ho16 => (simp only [List.getElem?_toArray]; rfl)
  go_simp
  go_at_call 45
  refine (la_total (w := w2.drew) HLA.out _).mono ?_
  rintro e w3 ⟨rfl, rfl⟩
  refine hK.out _ _ ⟨r0, r1, c0⟩ (fun hHeld => ?_)
  clear hK K
  refine wpE_one (i := 15) (o := ?o17) ?ho17 (by kernel_rfl) (fun K hK => ?_)
  case ho17 => (simp only [List.getElem?_toArray]; rfl)
  go_simp
  go_at_call 46
  refine (la_count (w := w2.drew) HLA.out _).mono ?_
  rintro e w3 ⟨rfl, rfl⟩
  refine hK.out _ _ ⟨r0, r1, c0⟩ (fun hHeld => ?_)
  clear hK K
  refine wpE_take (i := 16) (oi := ?oi15) (v := ?v15) ?hi15 (by kernel_rfl) (by kernel_rfl) (by kernel_rfl) (by kernel_rfl) ?hQ15 ?hy15 (by assumption) ?rest15
  case hi15 => (simp only [List.getElem?_toArray]; rfl)
  case hQ15 => exact fun _ _ _ h => h
  case hy15 => exact Or.inl ⟨by rfl, by (intro w hSw; (try dsimp only at hSw); go_simp; try with_reducible rfl)⟩
  try simp only [Act.put, List.setIfInBounds_toArray, List.set_cons_zero, List.set_cons_succ]
  refine wpE_last (i := 17) (o := ?o18) ?ho18 (by kernel_rfl) (by kernel_rfl) (by kernel_rfl) (fun K hK => ?_)
  case ho18 => (simp only [List.getElem?_toArray]; rfl)
  go_simp
  refine hK.out _ _ ?_
  clear hK K
  go_wp2_with fail
  have hz : Blk (((w2.setCell ⟨gl, 0, none⟩ (.int .i64 r.price)).setCell ⟨gl, 1, none⟩ (.int .i64 (totA d.A r.q))).setCell ⟨gl, 2, none⟩ (.int .i64 (cntA d.A r.q))).drew gl 30 #[.int .i64 r.price, .int .i64 (totA d.A r.q), .int .i64 (cntA d.A r.q)] := ((HLV.out.set_ 0 (.int .i64 r.price)).set_ 1 (.int .i64 (totA d.A r.q))).set_ 2 (.int .i64 (cntA d.A r.q))
  have hbz : Below w.heap.size w (((w2.setCell ⟨gl, 0, none⟩ (.int .i64 r.price)).setCell ⟨gl, 1, none⟩ (.int .i64 (totA d.A r.q))).setCell ⟨gl, 2, none⟩ (.int .i64 (cntA d.A r.q))).drew := (((HB0.out.setCell (p := ⟨gl, 0, none⟩) HGL.out.1 _).setCell (p := ⟨gl, 1, none⟩) HGL.out.1 _).setCell (p := ⟨gl, 2, none⟩) HGL.out.1 _).drew
  clear r0 r1 c0 l0 l1 l2 f0 hHeld
  generalize (((w2.setCell ⟨gl, 0, none⟩ (.int .i64 r.price)).setCell ⟨gl, 1, none⟩ (.int .i64 (totA d.A r.q))).setCell ⟨gl, 2, none⟩ (.int .i64 (cntA d.A r.q))).drew = wz at *
  have k0 := hz.cell 0
  have k1 := hz.cell 1
  have k2 := hz.cell 2
  refine bodyPost_ret (v := .agg #[.int .i64 r.price, .int .i64 (totA d.A r.q), .int .i64 (cntA d.A r.q)]) (by simp [results, Try.results26, go_sem, k0, k1, k2]) rfl ⟨by rw [HV.out], hbz⟩
set_option maxRecDepth 100000 in
set_option maxHeartbeats 4000000 in
theorem count_any (h : Bk w pb d B) :
    Calls Try.prog 18 #[.pointer (some ⟨pb, 0, none⟩)] w fun e w' => e = .returned (.int .i64 d.M.length) ∧ w = w' := by
  have c3 := (BC.of h.box).2.2.2.1
  have hl := h.mp.len (P := Try.prog) Try.underlying58 3
  rw [show d.mv.length = d.M.length from List.length_map _] at hl
  clear h
  go_enter Try.func18, Try.ntmps18
  go_wp2_with fail
  go_ret
  exact ⟨by trivial, by trivial⟩
set_option maxRecDepth 100000 in
set_option maxHeartbeats 4000000 in
theorem best_any9 (h : Bk w pb d B) (side : Int) :
    Calls Try.prog 12 #[.pointer (some ⟨pb, 0, none⟩), .int .i64 side] w fun e w' => e = .returned (.tuple #[.agg (bestL d side).1.cells.toArray, .bool (bestL d side).2]) ∧ Below w.heap.size w w' := by
  have hlv : Blk (w.alloc (.cells #[.int .i64 0, .int .i64 0, .int .i64 0] 30)) w.heap.size 30 #[.int .i64 0, .int .i64 0, .int .i64 0] := Blk.new _ _ _
  have hbl := Below.allocN w (.cells #[.int .i64 0, .int .i64 0, .int .i64 0] 30)
  have HB := Lib.hid (h.below hbl)
  have HLV := Lib.hid hlv
  have HBL := Lib.hid hbl
  have HBV : Hid (∀ r, bestL d side = (toldL d.A r, true) → bestL d side = (toldL d.A r, true)) := Lib.hid fun _ x => x
  by_cases hs : side = 1 ∨ side = 2
  · obtain ⟨z, hz, hsz, yz⟩ := side_z hs
    obtain ⟨a, c, _, hrd, hcell⟩ := (HB.out).side_cell hz hsz
    have hi : isB side = true := by unfold isB; rcases hs with rfl | rfl <;> rfl
    have HBS : Hid (bestL d side = match d.R side with | [] => (zeroLv, false) | r :: _ => (toldL d.A r, true)) := Lib.hid (by unfold bestL; rw [if_pos hi])
    have c1 := hcell _ (Below.refl _ _)
    have HI := Lib.hid hi
    clear h hlv hbl hcell hsz hi hs HBV
    cases hR : d.R side with
    | nil =>
      rw [hR] at HBS c1
      clear hR hrd
      go_enter Try.func12, Try.ntmps12
      go_wp2_with fail
      refine (is_any9 side _).mono ?_
      rintro e w1 ⟨rfl, rfl⟩
      rw [HI.out]
      go_wp2_with fail
      refine bodyPost_ret (v := .tuple #[.agg #[.int .i64 0, .int .i64 0, .int .i64 0], .bool false]) (by simp [results, Try.results12, go_sem]) rfl ⟨by rw [HBS.out]; rfl, ?_⟩
      exact HBL.out
    | cons r l =>
      rw [hR] at HBS c1 hrd
      clear hR
      obtain ⟨rb, off, rfl, hrb, hcr⟩ := hrd 0 r rfl
      rw [Nat.zero_mul, Nat.add_zero] at hcr
      have HCR : Hid (∀ wv, Below (w.alloc (.cells #[.int .i64 0, .int .i64 0, .int .i64 0] 30)).heap.size (w.alloc (.cells #[.int .i64 0, .int .i64 0, .int .i64 0] 30)) wv → CellsAt wv rb off r.cells) := Lib.hid fun wv hb => hcr.below hb hrb
      clear hcr hrd
      go_enter Try.func12, Try.ntmps12
      go_wp2_with fail
      refine (is_any9 side _).mono ?_
      rintro e w1 ⟨rfl, rfl⟩
      rw [HI.out]
      generalize w.alloc (.cells #[.int .i64 0, .int .i64 0, .int .i64 0] 30) = w2 at *
      obtain ⟨gl, hgl⟩ : ∃ gl, w.heap.size = gl := ⟨_, rfl⟩
      have HGE : Hid (w.heap.size ≤ gl) := Lib.hid (by omega)
      replace HLV : Hid (Blk w2 gl 30 #[.int .i64 0, .int .i64 0, .int .i64 0]) := Lib.hid (by rw [← hgl]; exact HLV.out)
      rw [hgl]
      clear hgl
      have r0 : w2.cell? ⟨rb, off, none⟩ = some (.int .i64 r.price) := HCR.out _ (Below.refl _ _) 0 _ rfl
      have r1 : w2.cell? ⟨rb, off + 1, none⟩ = some (.int .i64 r.q) := HCR.out _ (Below.refl _ _) 1 _ rfl
      have hto := told_any HB.out r
      rw [show (toldL d.A r).cells.toArray = #[.int .i64 r.price, .int .i64 (totA d.A r.q), .int .i64 (cntA d.A r.q)] from rfl] at hto
      go_wp2_with fail
      refine hto.mono ?_
      rintro e w3 ⟨rfl, hb⟩
      have hl3 := HLV.out.below hb
      have HB3 := Lib.hid (HBL.out.trans (hb.mono HBL.out.size))
      have HL3 := Lib.hid hl3
      have l0 : w3.cell? ⟨gl, 0, none⟩ = some (.int .i64 0) := hl3.cell 0
      have l1 : w3.cell? ⟨gl, 1, none⟩ = some (.int .i64 0) := hl3.cell 1
      have l2 : w3.cell? ⟨gl, 2, none⟩ = some (.int .i64 0) := hl3.cell 2
      have f0 : ∀ o, w3.frozen? ⟨gl, o, none⟩ = false := fun o => HL3.out.frozen o
      clear hb hto r0 r1 c1 hl3
      go_wp2_with fail
      clear l0 l1 l2 f0
      have hz := ((HL3.out.set_ 0 (.int .i64 r.price)).set_ 1 (.int .i64 (totA d.A r.q))).set_ 2 (.int .i64 (cntA d.A r.q))
      have hbz := ((HB3.out.setCell (p := ⟨gl, 0, none⟩) HGE.out (.int .i64 r.price)).setCell (p := ⟨gl, 1, none⟩) HGE.out (.int .i64 (totA d.A r.q))).setCell (p := ⟨gl, 2, none⟩) HGE.out (.int .i64 (cntA d.A r.q))
      generalize ((w3.setCell ⟨gl, 0, none⟩ (.int .i64 r.price)).setCell ⟨gl, 1, none⟩ (.int .i64 (totA d.A r.q))).setCell ⟨gl, 2, none⟩ (.int .i64 (cntA d.A r.q)) = wz at *
      have k0 : wz.cell? ⟨gl, 0, none⟩ = some (.int .i64 r.price) := hz.cell 0
      have k1 : wz.cell? ⟨gl, 1, none⟩ = some (.int .i64 (totA d.A r.q)) := hz.cell 1
      have k2 : wz.cell? ⟨gl, 2, none⟩ = some (.int .i64 (cntA d.A r.q)) := hz.cell 2
      refine bodyPost_ret (v := .tuple #[.agg #[.int .i64 r.price, .int .i64 (totA d.A r.q), .int .i64 (cntA d.A r.q)], .bool true]) (by simp [results, Try.results12, go_sem, k0, k1, k2]) rfl ⟨by rw [HBS.out]; rfl, hbz⟩
  · have hi : isB side = false := by
      unfold isB
      rw [Bool.or_eq_false_iff, beq_eq_false_iff_ne, beq_eq_false_iff_ne]
      omega
    have HBS : Hid (bestL d side = (zeroLv, false)) := Lib.hid (by unfold bestL; rw [hi]; rfl)
    have HI := Lib.hid hi
    clear h hlv hbl hi hs HBV
    go_enter Try.func12, Try.ntmps12
    go_wp2_with fail
    refine (is_any9 side _).mono ?_
    rintro e w1 ⟨rfl, rfl⟩
    rw [HI.out]
    go_wp2_with fail
    refine bodyPost_ret (v := .tuple #[.agg #[.int .i64 0, .int .i64 0, .int .i64 0], .bool false]) (by simp [results, Try.results12, go_sem]) rfl ⟨by rw [HBS.out]; rfl, ?_⟩
    exact HBL.out
end
end Go.Proofs.Ytmhljdkhekjfmaa

/- The book's reads: Ladder, orders, At, Orders, Find. -/
namespace Go.Proofs.Ytmhljdkhekjfmaa
open Go.RowKit

section
variable {w : World} {pb B : Nat} {d : BD}
theorem told_cells (A : List (List Ent)) (r : Rg) : (toldL A r).cells.toArray = #[.int .i64 r.price, .int .i64 (totA A r.q), .int .i64 (cntA A r.q)] := rfl
set_option maxRecDepth 100000 in
set_option maxHeartbeats 4000000 in
theorem ladder_any (h : Bk w pb d B) (side : Int) (hl : (d.R side).length ≤ 1000) :
    Calls Try.prog 19 #[.pointer (some ⟨pb, 0, none⟩), .int .i64 side] w fun e w' => ∃ v, e = .returned v ∧ LV.Row w' w.heap.size v (ladL d side) ∧ Below w.heap.size w w' := by
  have s1 : ∀ (w : World) (o : Obj), (w.alloc o).heap.size = w.heap.size + 1 := fun w o => by simp
  have HB := Lib.hid h
  by_cases hs : side = 1 ∨ side = 2
  · obtain ⟨z, hz, hsz, yz⟩ := side_z hs
    obtain ⟨a, c, _, hrd, hcell⟩ := h.side_cell hz hsz
    have hi : isB side = true := by unfold isB; rcases hs with rfl | rfl <;> rfl
    have HLD : Hid (ladL d side = (d.R side).map (toldL d.A)) := Lib.hid (by unfold ladL; rw [if_pos hi])
    have c1 := hcell _ (Below.refl _ _)
    have HI := Lib.hid hi
    have HRD := Lib.hid hrd
    clear h hcell hsz hi hs hrd
    generalize d.R side = R at *
    go_enter Try.func19, Try.ntmps19
    go_wp2_with fail
    refine (is_any9 side _).mono ?_
    rintro e w1 ⟨rfl, rfl⟩
    rw [HI.out]
    go_wp2_with fail
    go_loopw [5, 19] (fun v j w' => ∃ i : Nat, j = .int .i64 i ∧ i ≤ R.length ∧ LV.Row w' w.heap.size v ((R.take i).map (toldL d.A)) ∧ Below w.heap.size w w') (fun _ j _ => R.length - (intOf j).toNat)
    case atStart => exact ⟨0, rfl, Nat.zero_le _, Lay.Row.nil _ _, Below.refl _ _⟩
    case round =>
      obtain ⟨i, hj, hin, hrow, hb⟩ := hrel
      replace hj := hj.symm
      subst hj
      obtain ⟨wz, rfl⟩ : ∃ wo : World, wo = wr := ⟨_, rfl⟩
      have HROW := Lib.hid hrow
      have HBL := Lib.hid hb
      clear hrow hb c1
      by_cases hin2 : i < R.length
      · have hin' : (i : Int) < (R.length : Int) := by omega
        obtain ⟨r, hr⟩ : ∃ r, R[i]? = some r := ⟨_, List.getElem?_eq_getElem hin2⟩
        obtain ⟨rb, off, rfl, hrb, hcr⟩ := HRD.out.below HBL.out i r hr
        have r0 : wz.cell? ⟨rb, off + i * 2, none⟩ = some (.int .i64 r.price) := hcr 0 _ rfl
        have r1 : wz.cell? ⟨rb, off + i * 2 + 1, none⟩ = some (.int .i64 r.q) := hcr 1 _ rfl
        have HTK : Hid ((R.take (i + 1)).map (toldL d.A) = (R.take i).map (toldL d.A) ++ [toldL d.A r]) := Lib.hid (by rw [List.take_add_one, hr, List.map_append]; rfl)
        have HTL : Hid (((R.take i).map (toldL d.A)).length = i) := Lib.hid (by rw [List.length_map, List.length_take]; omega)
        clear hr hcr hrb
        generalize (R.take i).map (toldL d.A) = PL at *
        go_upto_region 7 with (fail)
        have hbx : Blk (wz.alloc (.cells #[.int .i64 r.price, .int .i64 r.q] 69)) wz.heap.size 69 #[.int .i64 r.price, .int .i64 r.q] := Blk.new _ _ _
        have hb1 := HBL.out.trans ((Below.allocN wz (.cells #[.int .i64 r.price, .int .i64 r.q] 69)).mono HBL.out.size)
        have hrw := HROW.out.below (Below.allocN wz (.cells #[.int .i64 r.price, .int .i64 r.q] 69))
        obtain ⟨gx, hgx⟩ : ∃ gx, wz.heap.size = gx := ⟨_, rfl⟩
        rw [hgx] at hbx ⊢
        clear hgx r0 r1 HBL HROW
        generalize wz.alloc (.cells #[.int .i64 r.price, .int .i64 r.q] 69) = w2 at *
        have x0 : w2.cell? ⟨gx, 0, none⟩ = some (.int .i64 r.price) := hbx.cell 0
        have x1 : w2.cell? ⟨gx, 1, none⟩ = some (.int .i64 r.q) := hbx.cell 1
        have hto := told_any (HB.out.below hb1) r
        rw [told_cells] at hto
        have HB1 := Lib.hid hb1
        have HRW := Lib.hid hrw
        clear hbx hb1 hrw
        go_wp2_with fail
        refine hto.mono ?_
        rintro e w3 ⟨rfl, hb⟩
        have HB3 := Lib.hid (HB1.out.trans (hb.mono HB1.out.size))
        have HR3 := Lib.hid (HRW.out.below hb)
        clear hto hb x0 x1 HB1 HRW
        have hnew : Blk (w3.alloc (.cells #[.int .i64 r.price, .int .i64 (totA d.A r.q), .int .i64 (cntA d.A r.q)] 30)) w3.heap.size 30 (toldL d.A r).cells.toArray := Blk.new _ _ _
        have HNEW := Lib.hid hnew
        have HR4 := Lib.hid (HR3.out.below (Below.allocN w3 (.cells #[.int .i64 r.price, .int .i64 (totA d.A r.q), .int .i64 (cntA d.A r.q)] 30)))
        have HB4 := Lib.hid (HB3.out.trans ((Below.allocN w3 (.cells #[.int .i64 r.price, .int .i64 (totA d.A r.q), .int .i64 (cntA d.A r.q)] 30)).mono HB3.out.size))
        clear hnew HB3
        go_wp2_with (first
          | (at_builtin; go_loud (refine LV.push rfl (.tmp 23) (.tmp 27) rfl w.heap.size u5 PL rfl HR4.out w3.heap.size (toldL d.A r) rfl HNEW.out.lt HNEW.out.cellsAt (by rw [HTL.out]; omega) HB4.out.size ?_)))
        intro v' w6 hr6 hg6 ho6
        rw [← HTK.out] at hr6
        have HR6 := Lib.hid hr6
        have HB6 := Lib.hid (grown_below hg6 HB4.out (own_base HR4.out))
        clear hr6 hg6 ho6 HNEW HR4 HB4 HR3
        go_wp2_with fail
        go_roundw
        case rel => exact ⟨i + 1, by go_num, by omega, HR6.out, HB6.out⟩
        case measure => simp [intOf]; omega
      · obtain rfl : i = R.length := by omega
        have hrow := HROW.out
        rw [List.take_length] at hrow
        have HRW := Lib.hid hrow
        clear hrow
        go_wp2_with fail
        go_ret
        exact ⟨_, rfl, by rw [HLD.out]; exact HRW.out, HBL.out⟩
  · have hi : isB side = false := by
      unfold isB
      rw [Bool.or_eq_false_iff, beq_eq_false_iff_ne, beq_eq_false_iff_ne]
      omega
    have HLD : Hid (ladL d side = []) := Lib.hid (by unfold ladL; rw [hi]; rfl)
    have HI := Lib.hid hi
    clear h hi hs
    go_enter Try.func19, Try.ntmps19
    go_wp2_with fail
    refine (is_any9 side _).mono ?_
    rintro e w1 ⟨rfl, rfl⟩
    rw [HI.out]
    go_wp2_with fail
    go_ret
    exact ⟨_, rfl, by rw [HLD.out]; exact Lay.Row.nil _ _, Below.refl _ _⟩
end
end Go.Proofs.Ytmhljdkhekjfmaa

/- The book's reads: orders of a rung, At. -/
namespace Go.Proofs.Ytmhljdkhekjfmaa
open Go.RowKit

theorem Ent.ones (x : Ent) : ∀ u ∈ x.cells, u.oneCell' = true := by
  intro u hu
  simp only [Ent.cells, List.mem_cons, List.not_mem_nil, or_false] at hu
  rcases hu with rfl | rfl | rfl | rfl <;> rfl
def EN : Lay Ent := ⟨Ent.cells, 4, fun _ => rfl, Ent.ones, by omega, 80, 120, .agg #[.int .i64 0, .int .i64 0, .int .i64 0, .bool false], 32, Try.underlying120, by kernel_rfl, by rfl, by omega⟩
def ordO (side price : Int) (e : Ent) : Od := ⟨e.id, side, price, e.qty, e.top⟩
def ordQ (A : List (List Ent)) (side : Int) (r : Rg) : List Od := (A.getD r.q []).map (ordO side r.price)
def rungQ (A : List (List Ent)) (side : Int) (R : List Rg) (n : Nat) : List Od := match R[n]? with | some r => ordQ A side r | none => []
theorem rungQ_some {A : List (List Ent)} {side : Int} {R : List Rg} {n : Nat} {r : Rg} (h : R[n]? = some r) : rungQ A side R n = ordQ A side r := by unfold rungQ; rw [h]
def atL (d : BD) (side price : Int) : List Od := if isB side = true then (if (fnd (d.R side) side price).2 = true then rungQ d.A side (d.R side) (fnd (d.R side) side price).1 else []) else []
theorem Lay.Row.base {α : Type} {Y : Lay α} {w : World} {B B' : Nat} {v : Value} {L : List α} (h : Y.Row w B v L) (hb : B' ≤ B) : Y.Row w B' v L := by
  refine ⟨h.1, ?_⟩
  rcases h.2 with h2 | ⟨g, cap, cur, hv, h1, r⟩
  · exact .inl h2
  · exact .inr ⟨g, cap, cur, hv, Nat.le_trans hb h1, r⟩
theorem Lay.Row.zero {α : Type} {Y : Lay α} {w : World} {B : Nat} {v : Value} {L : List α} (h : Y.Row w B v L) : Y.Row w 0 v L := by
  refine ⟨h.1, ?_⟩
  rcases h.2 with h2 | ⟨g, cap, cur, hv, _, r⟩
  · exact .inl h2
  · exact .inr ⟨g, cap, cur, hv, Nat.zero_le _, r⟩
section
variable {w : World} {pb B : Nat} {d : BD}
theorem list9 {ab sb : Nat} {qa : Option Addr} {room : Nat} {A : List (List Ent)} (h : LA w ab sb qa room A) (q : Nat) :
    Calls Try.prog 56 #[.pointer (some ⟨ab, 0, none⟩), .int .i64 q] w fun e w' => ∃ v, e = .returned v ∧ EN.Row w' w.heap.size v (A.getD q []) ∧ Below w.heap.size w w' := by
  by_cases hq : q < A.length
  · refine (la_list h q (by omega) (by omega)).mono ?_
    rintro e w' ⟨a, c, he, hr, hb⟩
    rw [Int.toNat_natCast] at hr
    rw [Int.toNat_natCast] at he
    exact ⟨_, he, hr, hb⟩
  · refine (la_list_no h q (.inr (by omega))).mono ?_
    rintro e w' ⟨he, rfl⟩
    refine ⟨_, he, ?_, Below.refl _ _⟩
    rw [getD_none (by omega)]
    exact Lay.Row.nil _ _
set_option maxRecDepth 100000 in
set_option maxHeartbeats 4000000 in
theorem orders_any (h : Bk w pb d B) (side : Int) (r : Rg) (hl : (d.A.getD r.q []).length ≤ 1000) :
    Calls Try.prog 34 #[.pointer (some ⟨pb, 0, none⟩), .int .i64 side, .agg #[.int .i64 r.price, .int .i64 r.q]] w fun e w' => ∃ v, e = .returned v ∧ OD.Row w' w.heap.size v (ordQ d.A side r) ∧ Below w.heap.size w w' := by
  have s1 : ∀ (w : World) (o : Obj), (w.alloc o).heap.size = w.heap.size + 1 := fun w o => by simp
  have HB := Lib.hid h
  have HOQ : Hid (ordQ d.A side r = (d.A.getD r.q []).map (ordO side r.price)) := Lib.hid rfl
  clear h
  go_enter Try.func34, Try.ntmps34
  go_upto_region 2 with (fail)
  have hbx : Blk (w.alloc (.cells #[.int .i64 r.price, .int .i64 r.q] 69)) w.heap.size 69 #[.int .i64 r.price, .int .i64 r.q] := Blk.new _ _ _
  have hb0 := Below.allocN w (.cells #[.int .i64 r.price, .int .i64 r.q] 69)
  obtain ⟨gr, hgr⟩ : ∃ gr, w.heap.size = gr := ⟨_, rfl⟩
  rw [hgr] at hbx ⊢
  clear hgr
  generalize w.alloc (.cells #[.int .i64 r.price, .int .i64 r.q] 69) = w2 at *
  have HB2 := Lib.hid (HB.out.below hb0)
  have HB0 := Lib.hid hb0
  have HBX := Lib.hid hbx
  have hS0 : w2.cell? ⟨pb, 0, none⟩ = some (.pointer (some ⟨d.ab, 0, none⟩)) ∧ w2.cell? ⟨gr, 1, none⟩ = some (.int .i64 r.q) := ⟨(BC.of HB2.out.box).1, hbx.cell 1⟩
  have HLA : Hid (LA w2.drew d.ab d.sb d.qa 250 d.A) := Lib.hid (HB2.out.la.below (Below.drewN_of w2 1))
  clear hb0 hbx
  go_cut [16, 17, 18] (fun v n k wx => ∃ a c, v = .slice a (d.A.getD r.q []).length c ∧ n = .int .i64 (d.A.getD r.q []).length ∧ k = .int .i64 0 ∧ EN.Row wx 0 (.slice a (d.A.getD r.q []).length c) (d.A.getD r.q []) ∧ Below w.heap.size w wx ∧ Blk wx gr 69 #[.int .i64 r.price, .int .i64 r.q])
  case first =>
    refine wp_region_E (S := fun w' => w'.cell? ⟨pb, 0, none⟩ = some (.pointer (some ⟨d.ab, 0, none⟩)) ∧ w'.cell? ⟨gr, 1, none⟩ = some (.int .i64 r.q)) (by kernel_rfl) hS0 (fun hHeld => ?_)
    refine wpE_take (i := 0) (oi := ?oi5) (v := ?v5) ?hi5 (by kernel_rfl) (by kernel_rfl) (by kernel_rfl) (by kernel_rfl) ?hQ5 ?hy5 (by assumption) ?rest5
    case hi5 => (simp only [List.getElem?_toArray]; rfl)
    case hQ5 => exact fun _ _ _ h => h
    case hy5 => exact Or.inl ⟨by rfl, by (intro w hSw; (try dsimp only at hSw); go_simp; try with_reducible rfl)⟩
    try simp only [Act.put, List.setIfInBounds_toArray, List.set_cons_zero, List.set_cons_succ]
    refine wpE_take (i := 1) (oi := ?oi6) (v := ?v6) ?hi6 (by kernel_rfl) (by kernel_rfl) (by kernel_rfl) (by kernel_rfl) ?hQ6 ?hy6 (by assumption) ?rest6
    case hi6 => (simp only [List.getElem?_toArray]; rfl)
    case hQ6 => exact fun _ _ _ h => h
    case hy6 => exact Or.inl ⟨by rfl, by (intro w hSw; (try dsimp only at hSw); go_simp; try with_reducible rfl)⟩
    try simp only [Act.put, List.setIfInBounds_toArray, List.set_cons_zero, List.set_cons_succ]
    refine wpE_take (i := 2) (oi := ?oi7) (v := ?v7) ?hi7 (by kernel_rfl) (by kernel_rfl) (by kernel_rfl) (by kernel_rfl) ?hQ7 ?hy7 (by assumption) ?rest7
    case hi7 => (simp only [List.getElem?_toArray]; rfl)
    case hQ7 => exact fun _ _ _ h => h
    case hy7 => exact Or.inl ⟨by rfl, by (intro w hSw; (try dsimp only at hSw); go_simp; try with_reducible rfl)⟩
    try simp only [Act.put, List.setIfInBounds_toArray, List.set_cons_zero, List.set_cons_succ]
    refine wpE_take (i := 3) (oi := ?oi8) (v := ?v8) ?hi8 (by kernel_rfl) (by kernel_rfl) (by kernel_rfl) (by kernel_rfl) ?hQ8 ?hy8 (by assumption) ?rest8
    case hi8 => (simp only [List.getElem?_toArray]; rfl)
    case hQ8 => exact fun _ _ _ h => h
    case hy8 => exact Or.inl ⟨by rfl, by (intro w hSw; (try dsimp only at hSw); go_simp; try with_reducible rfl)⟩
    try simp only [Act.put, List.setIfInBounds_toArray, List.set_cons_zero, List.set_cons_succ]
    refine wpE_take (i := 4) (oi := ?oi9) (v := ?v9) ?hi9 (by kernel_rfl) (by kernel_rfl) (by kernel_rfl) (by kernel_rfl) ?hQ9 ?hy9 (by assumption) ?rest9
    case hi9 => (simp only [List.getElem?_toArray]; rfl)
    case hQ9 => exact fun _ _ _ h => h
    case hy9 => exact Or.inl ⟨by rfl, by (intro w hSw; (try dsimp only at hSw); go_simp; try with_reducible rfl)⟩
    try simp only [Act.put, List.setIfInBounds_toArray, List.set_cons_zero, List.set_cons_succ]
    refine wpE_take (i := 5) (oi := ?oi10) (v := ?v10) ?hi10 (by kernel_rfl) (by kernel_rfl) (by kernel_rfl) (by kernel_rfl) ?hQ10 ?hy10 (by assumption) ?rest10
    case hi10 => (simp only [List.getElem?_toArray]; rfl)
    case hQ10 => exact fun _ _ _ h => h
    case hy10 => exact Or.inl ⟨by rfl, by (intro w hSw; (try dsimp only at hSw); go_simp; try with_reducible rfl)⟩
    try simp only [Act.put, List.setIfInBounds_toArray, List.set_cons_zero, List.set_cons_succ]
    refine wpE_two (i := 6) (j := 8) (oi := ?oa1) (oj := ?ob1) ?ha1 ?hb1 (by kernel_rfl) (fun K hK => ?_) (fun K hK => ?_)
    case ha1 => (simp only [List.getElem?_toArray]; rfl)
    case hb1 => (simp only [List.getElem?_toArray]; rfl)
    · go_simp
      go_at_call 56
      refine (list9 (w := w2.drew) HLA.out r.q).mono ?_
      rintro e w3 ⟨v, rfl, hr, hb⟩
      have HB3 := Lib.hid ((HB0.out.drew).trans (hb.mono HB0.out.size))
      have HX3 := Lib.hid ((HBX.out.drew).below hb)
      have HK3 := Lib.hid (HB.out.below HB3.out)
      obtain ⟨a, c, hvf, _, hrd⟩ := hr.rd
      subst hvf
      have HRD := Lib.hid hr.zero
      clear hr hb hrd
      refine hK.out _ _ ⟨(BC.of HK3.out.box).1, HX3.out.cell 1⟩ (fun hHeld => ?_)
      clear hK K
      refine wpE_of_held _ _ _ _ ?_
      refine wpAnyH_take (i := 7) (oi := ?oi2) (v := ?v2) ?hi2 (by kernel_rfl) (by kernel_rfl) (by kernel_rfl) ?hQ2 ?hy2 (by assumption) ?rest2
      case hi2 => (simp only [List.getElem?_toArray]; rfl)
      case hQ2 => exact fun _ _ _ h => h
      case hy2 => exact Or.inl ⟨by rfl, by (intro w hSw; (try dsimp only at hSw); go_simp; try with_reducible rfl)⟩
      try simp only [Act.put, List.setIfInBounds_toArray, List.set_cons_zero, List.set_cons_succ]
      refine wpAnyH_take (i := 8) (oi := ?oi3) (v := ?v3) ?hi3 (by kernel_rfl) (by kernel_rfl) (by kernel_rfl) ?hQ3 ?hy3 (by assumption) ?rest3
      case hi3 => (simp only [List.getElem?_toArray]; rfl)
      case hQ3 => exact fun _ _ _ h => h
      case hy3 => exact Or.inl ⟨by rfl, by (intro w hSw; (try dsimp only at hSw); go_simp; try with_reducible rfl)⟩
      try simp only [Act.put, List.setIfInBounds_toArray, List.set_cons_zero, List.set_cons_succ]
      refine wpAnyH_done (by kernel_rfl) ?_ _
      go_wp2_with fail
      go_meet
      exact ⟨_, _, rfl, rfl, rfl, HRD.out, HB3.out, HX3.out⟩
    · go_simp
      refine hK.out _ _ hS0 (fun hHeld => ?_)
      clear hK K
      refine wpE_one (i := 6) (o := ?o11) ?ho11 (by kernel_rfl) (fun K hK => ?_)
      case ho11 => (simp only [List.getElem?_toArray]; rfl)
      go_simp
      go_at_call 56
      refine (list9 (w := w2.drew) HLA.out r.q).mono ?_
      rintro e w3 ⟨v, rfl, hr, hb⟩
      have HB3 := Lib.hid ((HB0.out.drew).trans (hb.mono HB0.out.size))
      have HX3 := Lib.hid ((HBX.out.drew).below hb)
      have HK3 := Lib.hid (HB.out.below HB3.out)
      obtain ⟨a, c, hvf, _, hrd⟩ := hr.rd
      subst hvf
      have HRD := Lib.hid hr.zero
      clear hr hb hrd
      refine hK.out _ _ ⟨(BC.of HK3.out.box).1, HX3.out.cell 1⟩ (fun hHeld => ?_)
      clear hK K
      refine wpE_of_held _ _ _ _ ?_
      refine wpAnyH_take (i := 7) (oi := ?oi4) (v := ?v4) ?hi4 (by kernel_rfl) (by kernel_rfl) (by kernel_rfl) ?hQ4 ?hy4 (by assumption) ?rest4
      case hi4 => (simp only [List.getElem?_toArray]; rfl)
      case hQ4 => exact fun _ _ _ h => h
      case hy4 => exact Or.inl ⟨by rfl, by (intro w hSw; (try dsimp only at hSw); go_simp; try with_reducible rfl)⟩
      try simp only [Act.put, List.setIfInBounds_toArray, List.set_cons_zero, List.set_cons_succ]
      refine wpAnyH_done (by kernel_rfl) ?_ _
      go_wp2_with fail
      go_meet
      exact ⟨_, _, rfl, rfl, rfl, HRD.out, HB3.out, HX3.out⟩
  case rest =>
  obtain ⟨a, c, rfl, rfl, rfl, hrd, hb, hx⟩ := hcut
  obtain ⟨w3, rfl⟩ : ∃ wo : World, wo = wc := ⟨_, rfl⟩
  have HRD := Lib.hid hrd
  have HB3 := Lib.hid hb
  have HX3 := Lib.hid hx
  clear hrd hb hx hS0 HLA HB2 HB0 HBX
  generalize d.A.getD r.q [] = E at *
  go_wp2_with fail
  go_loopw [7, 18] (fun v j w' => ∃ i : Nat, j = .int .i64 i ∧ i ≤ E.length ∧ OD.Row w' w.heap.size v ((E.take i).map (ordO side r.price)) ∧ Below w.heap.size w w' ∧ EN.Row w' 0 (.slice a E.length c) E ∧ Blk w' gr 69 #[.int .i64 r.price, .int .i64 r.q]) (fun _ j _ => E.length - (intOf j).toNat)
  case atStart => exact ⟨0, rfl, Nat.zero_le _, Lay.Row.nil _ _, HB3.out, HRD.out, HX3.out⟩
  case round =>
    clear HB3 HRD HX3
    obtain ⟨i, hj, hin, hrow, hb, hrd, hx⟩ := hrel
    replace hj := hj.symm
    subst hj
    obtain ⟨wz, rfl⟩ : ∃ wo : World, wo = wr := ⟨_, rfl⟩
    have HROW := Lib.hid hrow
    have HBL := Lib.hid hb
    have HRD := Lib.hid hrd
    have HX := Lib.hid hx
    clear hrow hb hrd hx
    by_cases hin2 : i < E.length
    · have hin' : (i : Int) < (E.length : Int) := by omega
      obtain ⟨x, hx⟩ : ∃ x, E[i]? = some x := ⟨_, List.getElem?_eq_getElem hin2⟩
      obtain ⟨eb, cb, hve, heb, hcr⟩ := HRD.out.at_ i x hx
      injection hve with hve _ hce
      subst hve
      subst hce
      have r0 : wz.cell? ⟨eb, i * 4, none⟩ = some (.int .i64 x.slot) := hcr 0 _ rfl
      have r1 : wz.cell? ⟨eb, i * 4 + 1, none⟩ = some (.int .i64 x.id) := hcr 1 _ rfl
      have r2 : wz.cell? ⟨eb, i * 4 + 2, none⟩ = some (.int .i64 x.qty) := hcr 2 _ rfl
      have r3 : wz.cell? ⟨eb, i * 4 + 3, none⟩ = some (.bool x.top) := hcr 3 _ rfl
      have HTK : Hid ((E.take (i + 1)).map (ordO side r.price) = (E.take i).map (ordO side r.price) ++ [ordO side r.price x]) := Lib.hid (by rw [List.take_add_one, hx, List.map_append]; rfl)
      have HTL : Hid (((E.take i).map (ordO side r.price)).length = i) := Lib.hid (by rw [List.length_map, List.length_take]; omega)
      clear hx hcr heb
      generalize (E.take i).map (ordO side r.price) = PL at *
      go_upto_region 5 with (fail)
      clear r0 r1 r2 r3
      have hbe : Blk (wz.alloc (.cells #[.int .i64 x.slot, .int .i64 x.id, .int .i64 x.qty, .bool x.top] 80)) wz.heap.size 80 #[.int .i64 x.slot, .int .i64 x.id, .int .i64 x.qty, .bool x.top] := Blk.new _ _ _
      have hba := Below.allocN wz (.cells #[.int .i64 x.slot, .int .i64 x.id, .int .i64 x.qty, .bool x.top] 80)
      obtain ⟨gx, hgx⟩ : ∃ gx, wz.heap.size = gx := ⟨_, rfl⟩
      have HB1 := Lib.hid (HBL.out.trans (hba.mono HBL.out.size))
      have HRW := Lib.hid (HROW.out.below hba)
      have HRD1 := Lib.hid (HRD.out.below hba)
      have HX1 := Lib.hid (HX.out.below hba)
      rw [hgx] at hbe ⊢
      clear hgx HBL HROW HRD HX hba
      generalize wz.alloc (.cells #[.int .i64 x.slot, .int .i64 x.id, .int .i64 x.qty, .bool x.top] 80) = w4 at *
      have x1 : w4.cell? ⟨gx, 1, none⟩ = some (.int .i64 x.id) := hbe.cell 1
      have x2 : w4.cell? ⟨gx, 2, none⟩ = some (.int .i64 x.qty) := hbe.cell 2
      have x3 : w4.cell? ⟨gx, 3, none⟩ = some (.bool x.top) := hbe.cell 3
      have x4 : w4.cell? ⟨gr, 0, none⟩ = some (.int .i64 r.price) := HX1.out.cell 0
      clear hbe
      have hnew : Blk (w4.alloc (.cells #[.int .i64 x.id, .int .i64 side, .int .i64 r.price, .int .i64 x.qty, .bool x.top] 39)) w4.heap.size 39 (ordO side r.price x).cells.toArray := Blk.new _ _ _
      have HNEW := Lib.hid hnew
      have hba := Below.allocN w4 (.cells #[.int .i64 x.id, .int .i64 side, .int .i64 r.price, .int .i64 x.qty, .bool x.top] 39)
      have HR4 := Lib.hid (HRW.out.below hba)
      have HB4 := Lib.hid (HB1.out.trans (hba.mono HB1.out.size))
      have HD4 := Lib.hid (HRD1.out.below hba)
      have HX4 := Lib.hid (HX1.out.below hba)
      clear hnew HB1 HRW HRD1 HX1 hba
      go_wp2_with (first
        | (at_builtin; go_loud (refine OD.push rfl (.tmp 22) (.tmp 33) rfl w.heap.size u7 PL rfl HR4.out w4.heap.size (ordO side r.price x) rfl HNEW.out.lt HNEW.out.cellsAt (by rw [HTL.out]; omega) HB4.out.size ?_)))
      intro v' w6 hr6 hg6 ho6
      rw [← HTK.out] at hr6
      have HR6 := Lib.hid hr6
      have HB6 := Lib.hid (grown_below hg6 HB4.out (own_base HR4.out))
      have HKP := Lib.hid (grown_keeps hg6)
      have HD6 := Lib.hid (own_keep HD4.out HKP.out (fun g h1 h2 => (own_tyd HD4.out g h1).ne (own_tyd HR4.out g h2) (by decide) rfl))
      have HX6 := Lib.hid (HX4.out.keeps HKP.out (fun hg => (HX4.out.tyd).ne (own_tyd HR4.out _ hg) (by decide) rfl))
      clear hr6 hg6 ho6 HNEW HR4 HB4 HD4 HX4 x1 x2 x3 x4
      go_wp2_with fail
      go_roundw
      case rel => exact ⟨i + 1, by go_num, by omega, HR6.out, HB6.out, HD6.out, HX6.out⟩
      case measure => simp [intOf]; omega
    · obtain rfl : i = E.length := by omega
      have hrow := HROW.out
      rw [List.take_length] at hrow
      have HRW := Lib.hid hrow
      clear hrow
      go_wp2_with fail
      go_ret
      exact ⟨_, rfl, by rw [HOQ.out]; exact HRW.out, HBL.out⟩
end
end Go.Proofs.Ytmhljdkhekjfmaa

/- The book's reads: At, Orders. -/
namespace Go.Proofs.Ytmhljdkhekjfmaa
open Go.RowKit

def ordR (A : List (List Ent)) (side : Int) (R : List Rg) : List Od := R.flatMap (ordQ A side)
def ordsL (d : BD) : List Od := ordR d.A 1 d.R0 ++ ordR d.A 2 d.R1
/-- rungs' rows are short -/
structure Short9 (d : BD) : Prop where
  r : ∀ side, (d.R side).length ≤ 1000
  q : ∀ q : Nat, (d.A.getD q []).length ≤ 1000
  o : (ordsL d).length ≤ 1000
section
variable {w : World} {pb B : Nat} {d : BD}
set_option maxRecDepth 100000 in
set_option maxHeartbeats 4000000 in
theorem at_any (h : Bk w pb d B) (side price : Int) (hsh : Short9 d) :
    Calls Try.prog 20 #[.pointer (some ⟨pb, 0, none⟩), .int .i64 side, .int .i64 price] w fun e w' => ∃ v, e = .returned v ∧ OD.Row w' w.heap.size v (atL d side price) ∧ Below w.heap.size w w' := by
  have HB := Lib.hid h
  by_cases hs : side = 1 ∨ side = 2
  · obtain ⟨z, hz, hsz, yz⟩ := side_z hs
    obtain ⟨a, c, _, hrd, hcell⟩ := h.side_cell hz hsz
    have hi : isB side = true := by unfold isB; rcases hs with rfl | rfl <;> rfl
    have HLD : Hid (atL d side price = if (fnd (d.R side) side price).2 = true then rungQ d.A side (d.R side) (fnd (d.R side) side price).1 else []) := Lib.hid (by unfold atL; rw [if_pos hi])
    have HI := Lib.hid hi
    have HRD := Lib.hid hrd
    have HCE := Lib.hid hcell
    have HF := Lib.hid (find_any9 h side price hs (by have := hsh.r side; omega))
    clear h hcell hsz hi hs hrd
    go_enter Try.func20, Try.ntmps20
    go_wp2_with fail
    refine (is_any9 side _).mono ?_
    rintro e w1 ⟨rfl, rfl⟩
    rw [HI.out]
    go_wp2_with fail
    refine HF.out.mono ?_
    rintro e w1 ⟨rfl, hb⟩
    have HB1 := Lib.hid hb
    have hfx : (fnd (d.R side) side price).2 = true → ∃ r, (d.R side)[(fnd (d.R side) side price).1]? = some r := by
      intro h
      unfold fnd at h ⊢
      cases hr : (d.R side)[ahead (d.R side) side price]? with
      | some r => exact ⟨r, rfl⟩
      | none => rw [hr] at h; cases h
    clear hb HF
    generalize (fnd (d.R side) side price).1 = n at *
    cases hf : (fnd (d.R side) side price).2 with
    | true =>
      obtain ⟨r, hr⟩ := hfx hf
      rw [hf, rungQ_some hr] at HLD
      obtain ⟨rb, off, rfl, hrb, hcr⟩ := HRD.out n r hr
      have hcr2 := hcr.below HB1.out hrb
      have c1 := HCE.out w1 HB1.out
      have hnl : (n : Int) < ((d.R side).length : Int) := by have := lt_of_get hr; omega
      have r0 : w1.cell? ⟨rb, off + n * 2, none⟩ = some (.int .i64 r.price) := hcr2 0 _ rfl
      have r1 : w1.cell? ⟨rb, off + n * 2 + 1, none⟩ = some (.int .i64 r.q) := hcr2 1 _ rfl
      have HO := Lib.hid (orders_any (HB.out.below HB1.out) side r (hsh.q r.q))
      clear hf hr hcr hrb hcr2 hfx
      go_wp2_with fail
      refine HO.out.mono ?_
      rintro e w3 ⟨v, rfl, hrow, hb⟩
      have HR3 := Lib.hid hrow
      have HB3 := Lib.hid (HB1.out.trans (hb.mono HB1.out.size))
      have HLE := Lib.hid HB1.out.size
      clear hrow hb HO r0 r1 c1
      go_wp2_with fail
      go_ret
      refine ⟨_, rfl, ?_, HB3.out⟩
      rw [HLD.out]
      simp only [if_true]
      exact HR3.out.base HLE.out
    | false =>
      rw [hf] at HLD
      clear hf hfx
      go_wp2_with fail
      go_ret
      exact ⟨_, rfl, by rw [HLD.out]; exact Lay.Row.nil _ _, HB1.out⟩
  · have hi : isB side = false := by
      unfold isB
      rw [Bool.or_eq_false_iff, beq_eq_false_iff_ne, beq_eq_false_iff_ne]
      omega
    have HLD : Hid (atL d side price = []) := Lib.hid (by unfold atL; rw [hi]; rfl)
    have HI := Lib.hid hi
    clear h hi hs
    go_enter Try.func20, Try.ntmps20
    go_wp2_with fail
    refine (is_any9 side _).mono ?_
    rintro e w1 ⟨rfl, rfl⟩
    rw [HI.out]
    go_wp2_with fail
    go_ret
    exact ⟨_, rfl, by rw [HLD.out]; exact Lay.Row.nil _ _, Below.refl _ _⟩
/-- what Orders has gathered behind j sides -/
def outJ (d : BD) (j : Nat) : List Od := if j = 0 then [] else if j = 1 then ordR d.A 1 d.R0 else ordsL d
theorem outJ_succ (d : BD) {j : Nat} (hj : j < 2) : outJ d (j + 1) = outJ d j ++ ordR d.A (j + 1) (d.R (j + 1)) := by
  have : j = 0 ∨ j = 1 := by omega
  rcases this with rfl | rfl <;> simp [outJ, ordsL, BD.R]
theorem ordR_take (A : List (List Ent)) (side : Int) {R : List Rg} {i : Nat} {r : Rg} (h : R[i]? = some r) : ordR A side (R.take (i + 1)) = ordR A side (R.take i) ++ ordQ A side r := by
  unfold ordR
  rw [List.take_add_one, h, List.flatMap_append]
  simp
theorem outJ_len (d : BD) {j : Nat} (hj : j < 2) (i : Nat) : (outJ d j ++ ordR d.A (j + 1) ((d.R (j + 1)).take i)).length ≤ (ordsL d).length := by
  have hp : ∀ (side : Int) (R : List Rg), (ordR d.A side (R.take i)).length ≤ (ordR d.A side R).length := by
    intro side R
    have e : ordR d.A side R = ordR d.A side (R.take i) ++ ordR d.A side (R.drop i) := by unfold ordR; rw [← List.flatMap_append, List.take_append_drop]
    rw [e, List.length_append]; omega
  have : j = 0 ∨ j = 1 := by omega
  rcases this with rfl | rfl
  · have := hp 1 d.R0
    simp only [outJ, ordsL, BD.R, List.length_append] at *
    simp at *; omega
  · have := hp 2 d.R1
    simp only [outJ, ordsL, BD.R, List.length_append] at *
    simp at *; omega
set_option maxRecDepth 100000 in
set_option maxHeartbeats 4000000 in
theorem orders_all (h : Bk w pb d B) (hsh : Short9 d) :
    Calls Try.prog 15 #[.pointer (some ⟨pb, 0, none⟩)] w fun e w' => ∃ v, e = .returned v ∧ OD.Row w' w.heap.size v (ordsL d) ∧ Below w.heap.size w w' := by
  have s1 : ∀ (w : World) (o : Obj), (w.alloc o).heap.size = w.heap.size + 1 := fun w o => by simp
  have HB := Lib.hid h
  clear h
  go_enter Try.func15, Try.ntmps15
  go_upto_region 3 with (fail)
  have hbx : Blk (w.alloc (.cells #[.int .i64 1, .int .i64 2] 3)) w.heap.size 3 #[.int .i64 1, .int .i64 2] := Blk.new _ _ _
  have hb0 := Below.allocN w (.cells #[.int .i64 1, .int .i64 2] 3)
  obtain ⟨gs, hgs⟩ : ∃ gs, w.heap.size = gs := ⟨_, rfl⟩
  rw [hgs] at hbx ⊢
  clear hgs
  generalize w.alloc (.cells #[.int .i64 1, .int .i64 2] 3) = w2 at *
  have HB0 := Lib.hid hb0
  have HBX := Lib.hid hbx
  clear hb0 hbx
  go_loopw [3, 10] (fun v k w' => ∃ j : Nat, k = .int .i64 j ∧ j ≤ 2 ∧ OD.Row w' w.heap.size v (outJ d j) ∧ Below w.heap.size w w' ∧ Blk w' gs 3 #[.int .i64 1, .int .i64 2]) (fun _ j _ => 2 - (intOf j).toNat)
  case atStart => exact ⟨0, rfl, by omega, Lay.Row.nil _ _, HB0.out, HBX.out⟩
  case round =>
    clear HB0 HBX
    obtain ⟨j, hj, hj2, hrow, hb, hx⟩ := hrel
    replace hj := hj.symm
    subst hj
    obtain ⟨wy, rfl⟩ : ∃ wo : World, wo = wr := ⟨_, rfl⟩
    have HROW := Lib.hid hrow
    have HBL := Lib.hid hb
    have HX := Lib.hid hx
    clear hrow hb hx
    by_cases hjn : j < 2
    · have hjn' : (j : Int) < 2 := by omega
      have s0 : wy.cell? ⟨gs, j, none⟩ = some (.int .i64 ((j : Int) + 1)) := by
        rw [HX.out.cell]
        have : j = 0 ∨ j = 1 := by omega
        rcases this with rfl | rfl <;> rfl
      have y1 : IntKind.i64.wrap ((j : Int) + 1 - 1) = (j : Int) := by rw [show (j : Int) + 1 - 1 = (j : Int) by omega]; exact IntWalk.i64_in _ (by omega)
      obtain ⟨side, hside⟩ : ∃ s : Int, (j : Int) + 1 = s := ⟨_, rfl⟩
      have HSD := Lib.hid hside
      rw [hside] at s0 y1
      obtain ⟨a, c, _, hrd, hcell⟩ := HB.out.side_cell hjn hside.symm
      have c1 := hcell wy HBL.out
      have HRD := Lib.hid hrd
      have HOL := Lib.hid fun i => outJ_len d hjn i
      have HOS := Lib.hid (outJ_succ d hjn)
      have HLO := Lib.hid hsh.o
      rw [hside] at HOL HOS
      have hrl := hsh.r side
      clear hside hrd hcell
      generalize d.R side = R at *
      go_wp2_with fail
      clear s0 c1
      go_loopw [3, 22] (fun v k w' => ∃ i : Nat, k = .int .i64 i ∧ i ≤ R.length ∧ OD.Row w' w.heap.size v (outJ d j ++ ordR d.A side (R.take i)) ∧ Below w.heap.size w w' ∧ Blk w' gs 3 #[.int .i64 1, .int .i64 2]) (fun _ j _ => R.length - (intOf j).toNat)
      case atStart => exact ⟨0, rfl, Nat.zero_le _, by simpa [ordR] using HROW.out, HBL.out, HX.out⟩
      case round =>
        clear HROW HBL HX
        obtain ⟨i, hi, hin, hrow, hb, hx⟩ := hrel
        replace hi := hi.symm
        subst hi
        obtain ⟨wz, rfl⟩ : ∃ wo : World, wo = wr := ⟨_, rfl⟩
        have HROW := Lib.hid hrow
        have HBL := Lib.hid hb
        have HX := Lib.hid hx
        clear hrow hb hx
        by_cases hin2 : i < R.length
        · have hin' : (i : Int) < (R.length : Int) := by omega
          obtain ⟨r, hr⟩ : ∃ r, R[i]? = some r := ⟨_, List.getElem?_eq_getElem hin2⟩
          obtain ⟨rb, off, rfl, hrb, hcr⟩ := HRD.out.below HBL.out i r hr
          have r0 : wz.cell? ⟨rb, off + i * 2, none⟩ = some (.int .i64 r.price) := hcr 0 _ rfl
          have r1 : wz.cell? ⟨rb, off + i * 2 + 1, none⟩ = some (.int .i64 r.q) := hcr 1 _ rfl
          have HTK : Hid (outJ d j ++ ordR d.A side (R.take (i + 1)) = outJ d j ++ ordR d.A side (R.take i) ++ ordQ d.A side r) := Lib.hid (by rw [ordR_take _ _ hr, List.append_assoc])
          have HTL : Hid ((outJ d j ++ ordR d.A side (R.take i) ++ ordQ d.A side r).length ≤ 1000) := Lib.hid (by
            rw [← HTK.out]
            exact Nat.le_trans (HOL.out (i + 1)) HLO.out)
          clear hr hcr hrb
          generalize outJ d j ++ ordR d.A side (R.take i) = PL at *
          go_upto_region 8 with (fail)
          have hbx : Blk (wz.alloc (.cells #[.int .i64 r.price, .int .i64 r.q] 69)) wz.heap.size 69 #[.int .i64 r.price, .int .i64 r.q] := Blk.new _ _ _
          have hba := Below.allocN wz (.cells #[.int .i64 r.price, .int .i64 r.q] 69)
          have hb1 := HBL.out.trans (hba.mono HBL.out.size)
          have hrw := HROW.out.below hba
          have hx1 := HX.out.below hba
          obtain ⟨gx, hgx⟩ : ∃ gx, wz.heap.size = gx := ⟨_, rfl⟩
          rw [hgx] at hbx ⊢
          clear hgx r0 r1 HBL HROW HX hba
          generalize wz.alloc (.cells #[.int .i64 r.price, .int .i64 r.q] 69) = w4 at *
          have x0 : w4.cell? ⟨gx, 0, none⟩ = some (.int .i64 r.price) := hbx.cell 0
          have x1 : w4.cell? ⟨gx, 1, none⟩ = some (.int .i64 r.q) := hbx.cell 1
          have HO := Lib.hid (orders_any (HB.out.below hb1) side r (hsh.q r.q))
          have HB1 := Lib.hid hb1
          have HRW := Lib.hid hrw
          have HX1 := Lib.hid hx1
          clear hbx hb1 hrw hx1
          go_wp2_with fail
          refine HO.out.mono ?_
          rintro e w5 ⟨v2, rfl, hr2, hb⟩
          have HB3 := Lib.hid (HB1.out.trans (hb.mono HB1.out.size))
          have HR3 := Lib.hid (HRW.out.below hb)
          have HX3 := Lib.hid (HX1.out.below hb)
          obtain ⟨a2, c2, hvf, hac, hrd2⟩ := hr2.rd
          have HAD : Hid (∀ ad, a2 = some ad → ∃ b off, ad = ⟨b, off, none⟩) := Lib.hid fun ad h => by
            rcases hr2.2 with ⟨h2, _⟩ | ⟨g, cap, cur, h2, _⟩
            · rw [hvf] at h2; injection h2 with h2; rw [h2] at h; cases h
            · rw [hvf] at h2; injection h2 with h2; rw [h2] at h; injection h with h; exact ⟨g, 0, h.symm⟩
          subst hvf
          have HRD2 := Lib.hid hrd2
          have HAC := Lib.hid hac
          clear HO hb x0 x1 HB1 HRW HX1 hr2 hrd2 hac
          go_wp2_with (first
            | (at_builtin; go_loud (refine OD.pushes rfl (.tmp 26) (.tmp 30) rfl w.heap.size u3 PL rfl HR3.out a2 c2 (ordQ d.A side r) rfl HAC.out HRD2.out HAD.out (by have := HTL.out; rw [List.length_append] at this; omega) HB3.out.size ?_)))
          intro v' w6 hr6 hg6 ho6
          rw [← HTK.out] at hr6
          have HR6 := Lib.hid hr6
          have HB6 := Lib.hid (grown_below hg6 HB3.out (own_base HR3.out))
          have HX6 := Lib.hid (HX3.out.keeps (grown_keeps hg6) (fun hg => (HX3.out.tyd).ne (own_tyd HR3.out _ hg) (by decide) rfl))
          clear hr6 hg6 ho6 HR3 HB3 HX3 HRD2 HAC HAD
          go_wp2_with fail
          go_roundw
          case rel => exact ⟨i + 1, by go_num, by omega, HR6.out, HB6.out, HX6.out⟩
          case measure => simp [intOf]; omega
        · have hie : i = R.length := by omega
          have hnn : ¬ (i : Int) < (R.length : Int) := by omega
          have hrow := HROW.out
          rw [hie, List.take_length, ← HOS.out] at hrow
          have HRW := Lib.hid hrow
          clear hrow hie hin hin2
          go_wp2_with fail
          go_roundw
          case rel => exact ⟨j + 1, by go_num, by omega, HRW.out, HBL.out, HX.out⟩
          case measure => simp [intOf]; omega
    · have hje : j = 2 := by omega
      have hnn : ¬ (j : Int) < 2 := by omega
      have hrow := HROW.out
      rw [hje] at hrow
      have HRW : Hid (OD.Row wy w.heap.size u3 (ordsL d)) := Lib.hid hrow
      clear hrow hje hj2 hjn
      go_wp2_with fail
      go_ret
      exact ⟨_, rfl, HRW.out, HBL.out⟩
end
end Go.Proofs.Ytmhljdkhekjfmaa
