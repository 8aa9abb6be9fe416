/- Merged: Last Two Row Row2 Row3 Vp Vq Vr Vm Clone Ins0 Wr Wr2 Wr3 Crc Crc2. -/
import Derived.Test.YtmaijkoopjocdaaChecked
import Derived.OrdersHeld
import Derived.StillTail
import Derived.RegionTactic
import Derived.Deep.RegionHeld3
import Derived.Test.YtmaijkoopjocdaaOwn
import Derived.Maps.AppendAt
import Derived.Laws.AppendOwnNone
import Derived.Lib.EndianZ
import Derived.Lib.EndianBits
import Derived.Lib.Hide
import Derived.Lib.SliceRun
import Derived.Shelf.Spec.SlicesInsert
import Derived.Lib.AppendZerosOnto
import Derived.Laws.CopyRow
import Derived.Deep.RegionLaw
import Derived.Deep.DeepCutAuto
import Derived.BigQuiet
import Derived.IntWalk
/- A region that draws its order, walked under one condition on the world that need not hold any more behind the operation that comes last: so that a store there may undo it. No function of the program in sight. -/
namespace Go.Proofs.Ytmaijkoopjocdaa

section
variable {P : Program} {ops : Array Oper} {Q : Exit → Act → World → Prop} {md : Region.Mode} {S : World → Prop}

/-- whatever order is picked from here on; S holds behind each operation as long as one is still to come -/
def wpE (P : Program) (md : Region.Mode) (ops : Array Oper) (Q : Exit → Act → World → Prop) (S : World → Prop) : Nat → Array Bool → Act → World → Prop
 | 0, L, a, w => Region.ready md ops L = [] ∧ Q .normal a w
 | f + 1, L, a, w => (Region.ready md ops L = [] → Q .normal a w) ∧ ∀ i ∈ Region.ready md ops L, wpOp P ops Q i (fun b u => ((∃ k, (L.setIfInBounds i true).getD k true = false) → S u) ∧ wpE P md ops Q S f (L.setIfInBounds i true) b u) a w

theorem wpAny_of_E : ∀ (f : Nat) (L : Array Bool) (a : Act) (w : World), wpE P md ops Q S f L a w → wpAny P md ops Q f L a w
 | 0, _, _, _, h => h
 | f + 1, _, _, _, h => ⟨h.1, fun i hi => wpOp_mono (fun b u hb => wpAny_of_E f _ b u hb.2) (h.2 i hi)⟩

/-- does an operation that has not come up yet wait for this one? -/
def awaited (md : Region.Mode) (ops : Array Oper) (L : Array Bool) (i : Nat) : Bool := (List.range ops.size).any fun k => decide (k ≠ i) && !L.getD k true && Region.waitsFor md ops k i

theorem wpE_first {i k : Nat} {oi : Oper} {v : Value} (hi : ops[i]? = some oi) (hsel : ∀ (j : Nat) (o : Oper) cs b, ops[j]? = some o → o.op ≠ .select cs b)
  (hQ : ∀ c a w, Q (.panic c) (a.put oi.dst v) w → Q (.panic c) a w) (hki : k ≠ i) (hkw : Region.waitsFor md ops k i = true) :
  ∀ (f : Nat) (L : Array Bool) (a : Act) (w : World), L.getD k true = false →
   (∀ j oj, ops[j]? = some oj → j ≠ i → L.getD j true = false → (∀ e ∈ oj.after, Region.binds md e = true → e.on ≠ i) → oi.apart ops oj = true) →
   i ∈ Region.ready md ops L → YieldsIf P ops S oi v a → S w → wpE P md ops Q S f (L.setIfInBounds i true) (a.put oi.dst v) w → wpE P md ops Q S (f + 1) L a w := by
 intro f
 induction f with
 | zero =>
  intro L a w _ _ hr hy hS H
  refine ⟨fun h0 => absurd hr (by rw [h0]; simp), fun j hj => ?_⟩
  by_cases hji : j = i
  ·subst hji
   exact hy.wpOp hi hS ⟨fun _ => hS, H⟩
  ·have h0 := ready_mono hj hji
   rw [H.1] at h0
   cases h0
 | succ f ih =>
  intro L a w hk hfree hr hy hS H
  refine ⟨fun h0 => absurd hr (by rw [h0]; simp), fun j hj => ?_⟩
  by_cases hji : j = i
  ·subst hji
   exact hy.wpOp hi hS ⟨fun _ => hS, H⟩
  ·have hiun := (mem_ready.1 hr).1
   obtain ⟨hjun, oj, hoj, hall⟩ := mem_ready.1 hj
   have hno : ∀ e ∈ oj.after, Region.binds md e = true → e.on ≠ i := fun e he hb heq => by
    have h1 := hall e he hb
    rw [heq, getD_both hiun] at h1
    cases h1
   have hjk : j ≠ k := by
    rintro rfl
    obtain ⟨o', ho', e, he, hb, hon⟩ := Region.waitsFor_spec hkw
    rw [hoj] at ho'
    injection ho' with ho'
    subst ho'
    exact hno e he hb hon
   have h2 := wpOp_putIf hoj (hfree j oj hoj hji hjun hno) (fun cs b => hsel i oi cs b hi) (fun cs b => hsel j oj cs b hoj) hQ hy (H.2 j (ready_mono hj hji))
   refine wpOp_mono (fun b u hb => ?_) h2
   have hkj : (L.setIfInBounds j true).getD k true = false := by rw [getD_set_ne true hjk]; exact hk
   have hSu : S u := hb.2.1 ⟨k, by rw [getD_set_ne true hjk, getD_set_ne true (Ne.symm hki)]; exact hk⟩
   refine ⟨fun _ => hSu, ih (L.setIfInBounds j true) b u hkj (fun k' ok hk' hki' hun hno' => hfree k' ok hk' hki' (by
    by_cases hx : j = k'
    ·subst hx; exact hjun
    ·rw [getD_set_ne true hx] at hun; exact hun) hno') (ready_mono hr (Ne.symm hji)) hb.1 hSu ?_⟩
   rw [Array.setIfInBounds_comm _ _ hji]
   exact hb.2.2

theorem wpE_take {i : Nat} {oi : Oper} {v : Value} {f : Nat} {L : Array Bool} {a : Act} {w : World} (hi : ops[i]? = some oi) (hs : Region.noSelect ops = true) (hf : Region.free md ops L i = true)
  (hr : (Region.ready md ops L).contains i = true) (ha : awaited md ops L i = true) (hQ : ∀ c a w, Q (.panic c) (a.put oi.dst v) w → Q (.panic c) a w) (hy : YieldsIf P ops S oi v a) (hS : S w)
  (h : wpE P md ops Q S f (L.setIfInBounds i true) (a.put oi.dst v) w) : wpE P md ops Q S (f + 1) L a w := by
 obtain ⟨k, _, hk⟩ := List.any_eq_true.1 ha
 simp only [Bool.and_eq_true, decide_eq_true_eq, Bool.not_eq_true'] at hk
 exact wpE_first hi (Region.noSelect_spec hs) hQ hk.1.1 hk.2 f L a w hk.1.2 (Region.free_spec hi hf) (by simpa using hr) hy hS h

/-- the same, in a short form -/
theorem wpE_tk (i : Nat) {oi : Oper} {v : Value} {f : Nat} {L : Array Bool} {a : Act} {w : World} (hi : ops[i]? = some oi) (hc : (Region.noSelect ops && Region.free md ops L i && (Region.ready md ops L).contains i && awaited md ops L i) = true)
  (hQ : ∀ c a w, Q (.panic c) (a.put oi.dst v) w → Q (.panic c) a w) (hy : YieldsIf P ops S oi v a) (hS : S w)
  (h : wpE P md ops Q S f (L.setIfInBounds i true) (a.put oi.dst v) w) : wpE P md ops Q S (f + 1) L a w := by
 simp only [Bool.and_eq_true] at hc
 exact wpE_take hi hc.1.1.1 hc.1.1.2 hc.1.2 hc.2 hQ hy hS h
theorem sA {α : Type _} {l : List α} {i : Nat} {a : α} : l.toArray.setIfInBounds i a = (l.set i a).toArray := by simp only [List.setIfInBounds_toArray]
theorem sB {α : Type _} {x a : α} {l : List α} : (x :: l).set 0 a = a :: l := rfl
theorem sC {α : Type _} {x a : α} {l : List α} {i : Nat} : (x :: l).set (i + 1) a = x :: l.set i a := rfl

/-- one operation alone may come up, and others are still to come -/
theorem wpE_one {i : Nat} {o : Oper} {f : Nat} {L : Array Bool} {a : Act} {w : World} (ho : ops[i]? = some o) (hr : Region.ready md ops L = [i])
  (h : ∀ K' : Act → World → Prop, Shut (∀ a w, S w → (S w → wpE P md ops Q S f (L.setIfInBounds i true) a w) → K' a w) → if Region.wanted o (yielded ops a.tmps) = true then Oper.wp P o a w K' Q else K' (a.put o.dst undef) w) : wpE P md ops Q S (f + 1) L a w := by
 refine ⟨fun h0 => (by rw [hr] at h0; cases h0), fun j hj => ?_⟩
 rw [hr] at hj
 obtain rfl : j = i := by simpa using hj
 exact wpOp_step ho fun K' hK => h K' fun b u hS hW => hK b u ⟨fun _ => hS, hW hS⟩
/-- the operation that comes last -/
theorem wpE_last {i : Nat} {o : Oper} {f : Nat} {L : Array Bool} {a : Act} {w : World} (ho : ops[i]? = some o) (hr : Region.ready md ops L = [i]) (hall : (L.setIfInBounds i true).all (fun b => b) = true) (hz : Region.ready md ops (L.setIfInBounds i true) = [])
  (h : ∀ K' : Act → World → Prop, Shut (∀ a w, Q .normal a w → K' a w) → if Region.wanted o (yielded ops a.tmps) = true then Oper.wp P o a w K' Q else K' (a.put o.dst undef) w) : wpE P md ops Q S (f + 1) L a w := by
 refine ⟨fun h0 => (by rw [hr] at h0; cases h0), fun j hj => ?_⟩
 rw [hr] at hj
 obtain rfl : j = i := by simpa using hj
 refine wpOp_step ho fun K' hK => h K' fun b u hW => hK b u ⟨?_, ?_⟩
 ·rintro ⟨k, hk⟩
  rcases Nat.lt_or_ge k (L.setIfInBounds j true).size with hlt | hge
  ·have h1 := Array.all_eq_true.1 hall k hlt
   rw [show (L.setIfInBounds j true).getD k true = (L.setIfInBounds j true)[k]'hlt from by simp only [Array.getD, hlt, dite_true]; rfl] at hk
   rw [h1] at hk
   cases hk
  ·have : (L.setIfInBounds j true).getD k true = true := by simp only [Array.getD, Nat.not_lt.2 hge, dite_false]
   rw [this] at hk
   cases hk
 ·cases f with
  | zero => exact ⟨hz, hW⟩
  | succ f => exact ⟨fun _ => hW, fun i hi => by rw [hz] at hi; cases hi⟩
/-- from here on S holds behind each, the last one too -/
theorem wpE_of_held : ∀ (f : Nat) (L : Array Bool) (a : Act) (w : World), wpAnyH P md ops Q S f L a w → wpE P md ops Q S f L a w
 | 0, _, _, _, h => h
 | f + 1, _, _, _, h => ⟨h.1, fun i hi => wpOp_mono (fun b u hb => ⟨fun _ => hb.1, wpE_of_held f _ b u hb.2⟩) (h.2 i hi)⟩
/-- the beginning -/
theorem wp_region_E {id : Nat} {a : Act} {w : World} (hm : P.follows .mixedOrders = true) (hS : S w.drew) (h : S w.drew → wpE P .any ops Q S ops.size (Array.replicate ops.size false) a w.drew) : (Code.region id ops true).wp P Q a w :=
 wp_region_any hm (wpAny_of_E _ _ _ _ (h hS))
end
end Go.Proofs.Ytmaijkoopjocdaa

/- A region that draws its order, where one of two operations may come up. No function of the program in sight. -/
namespace Go.Proofs.Ytmaijkoopjocdaa

section
variable {P : Program} {ops : Array Oper} {Q : Exit → Act → World → Prop} {md : Region.Mode} {S : World → Prop}
theorem wpE_two {i j : Nat} {oi oj : Oper} {f : Nat} {L : Array Bool} {a : Act} {w : World} (hoi : ops[i]? = some oi) (hoj : ops[j]? = some oj) (hr : Region.ready md ops L = [i, j])
  (h1 : ∀ K' : Act → World → Prop, Shut (∀ a w, S w → (S w → wpE P md ops Q S f (L.setIfInBounds i true) a w) → K' a w) → if Region.wanted oi (yielded ops a.tmps) = true then Oper.wp P oi a w K' Q else K' (a.put oi.dst undef) w)
  (h2 : ∀ K' : Act → World → Prop, Shut (∀ a w, S w → (S w → wpE P md ops Q S f (L.setIfInBounds j true) a w) → K' a w) → if Region.wanted oj (yielded ops a.tmps) = true then Oper.wp P oj a w K' Q else K' (a.put oj.dst undef) w) : wpE P md ops Q S (f + 1) L a w := by
 refine ⟨fun h0 => (by rw [hr] at h0; cases h0), fun k hk => ?_⟩
 rw [hr] at hk
 have hk2 : k = i ∨ k = j := by simpa using hk
 rcases hk2 with rfl | rfl
 ·exact wpOp_step hoi fun K' hK => h1 K' fun b u hS hW => hK b u ⟨fun _ => hS, hW hS⟩
 ·exact wpOp_step hoj fun K' hK => h2 K' fun b u hS hW => hK b u ⟨fun _ => hS, hW hS⟩
end
end Go.Proofs.Ytmaijkoopjocdaa

/- Rows of structs that a call owns, or reads: for whatever struct whose fields are one cell each. No function of the program in sight. -/
namespace Go.Proofs.Ytmaijkoopjocdaa
open Go.RowKit

/-- how a struct lies: its cells, its type and its slice's -/
structure Lay (α : Type) where
 cells : α → List Value
 m : Nat
 len : ∀ x, (cells x).length = m
 one : ∀ x, ∀ u ∈ cells x, u.oneCell' = true
 pos : 0 < m
 t : TypeId
 ts : TypeId
 z : Value
 bytes : Nat
 und : Try.prog.underlying ts = some (.slice t)
 info : (Try.prog.info? t).map (fun i => (i.zero, i.size, i.bytes)) = some (some z, m, bytes)
 zs : z.cells.size = m
 small : bytes ≤ 1000
/-- cells that lie one behind the other -/
def CellsAt (w : World) (b o : Nat) (cs : List Value) : Prop := ∀ k u, cs[k]? = some u → w.cell? ⟨b, o + k, none⟩ = some u
theorem CellsAt.below {w w' : World} {b o : Nat} {cs : List Value} (h : CellsAt w b o cs) (hb : Below w.heap.size w w') (hl : b < w.heap.size) : CellsAt w' b o cs :=
 fun k u hu => (hb.cell (p := ⟨b, o + k, none⟩) hl).trans (h k u hu)
theorem CellsAt.keeps {w w' : World} {F : Nat → Prop} {b o : Nat} {cs : List Value} (h : CellsAt w b o cs) (hk : Keeps F w w') (hl : b < w.heap.size) (hf : ¬ F b) : CellsAt w' b o cs := by
 intro k u hu
 have h1 := h k u hu
 unfold World.cell? at h1 ⊢
 rw [show (⟨b, o + k, none⟩ : Addr).block = b from rfl] at h1 ⊢
 rw [hk.block b hl hf]; exact h1
theorem Blk.cellsAt {w : World} {g : Nat} {t : TypeId} {cs : List Value} (h : Blk w g t cs.toArray) : CellsAt w g 0 cs := by
 intro k u hu
 rw [h.cell, Nat.zero_add, List.getElem?_toArray]; exact hu

section
variable {α : Type} (Y : Lay α)
/-- a slice that reads as a list -/
def Lay.Rd (w : World) (a : Option Addr) (L : List α) : Prop := ∀ j e, L[j]? = some e → ∃ b off, a = some ⟨b, off, none⟩ ∧ b < w.heap.size ∧ CellsAt w b (off + j * Y.m) (Y.cells e)
/-- a row of the call's own that holds a list -/
def Lay.Row (w : World) (B : Nat) (v : Value) (L : List α) : Prop := w.ownsRow B Y.t Y.m v L.length (L.flatMap Y.cells)
variable {Y} {w w' : World} {B : Nat} {v : Value} {L : List α}
theorem Lay.Rd.below {a : Option Addr} (h : Y.Rd w a L) (hb : Below w.heap.size w w') : Y.Rd w' a L := by
 intro j e hj
 obtain ⟨b, off, h1, h2, h3⟩ := h j e hj
 exact ⟨b, off, h1, Nat.lt_of_lt_of_le h2 hb.size, h3.below hb h2⟩
theorem Lay.Rd.nil {a : Option Addr} : Y.Rd w a [] := fun j e h => by simp at h
theorem Lay.Rd.take {a : Option Addr} (h : Y.Rd w a L) (n : Nat) : Y.Rd w a (L.take n) := by
 intro j e hj
 rw [List.getElem?_take] at hj
 split at hj
 ·exact h j e hj
 ·cases hj
theorem Lay.Row.form (h : Y.Row w B v L) : ∃ a c, v = .slice a L.length c := own_form h
theorem Lay.Row.nil (w : World) (B : Nat) : Y.Row w B (.slice none 0 0) [] := ⟨by simp, .inl ⟨rfl, rfl⟩⟩
theorem Lay.Row.empty (w : World) : Y.Row (w.alloc (.cells #[] Y.t)) w.heap.size (.slice (some ⟨w.heap.size, 0, none⟩) 0 0) [] :=
 ⟨by simp, .inr ⟨w.heap.size, 0, #[], rfl, Nat.le_refl _, Blk.new w Y.t #[], Nat.le_refl _, Nat.zero_le _, by simp, by simp⟩⟩
theorem Lay.Row.below (h : Y.Row w B v L) (hb : Below w.heap.size w w') : Y.Row w' B v L := own_below h hb
theorem Lay.Row.at_ (h : Y.Row w B v L) (j : Nat) (e : α) (hj : L[j]? = some e) : ∃ g cap, v = .slice (some ⟨g, 0, none⟩) L.length cap ∧ g < w.heap.size ∧ CellsAt w g (j * Y.m) (Y.cells e) := by
 have hl := own_lt h
 rcases h.2 with ⟨hv, h0⟩ | ⟨g, cap, cur, hv, hb, hh, r⟩
 ·have := lt_of_get hj; omega
 ·subst hv
  have hg := hl g rfl
  refine ⟨g, cap, rfl, hg, ?_⟩
  have hjl := lt_of_get hj
  obtain ⟨_, hje⟩ := get_of hj
  intro k u hu
  have hk : k < Y.m := by have := lt_of_get hu; rw [Y.len] at this; exact this
  have hlt : j * Y.m + k < L.length * Y.m := by
   have := Nat.mul_le_mul_right Y.m (show j + 1 ≤ L.length by omega)
   rw [Nat.add_mul, Nat.one_mul] at this
   omega
  rw [h.cellAt (j * Y.m + k) hlt, fm_get Y.cells Y.m Y.len L j k hjl hk, hje]; exact hu
theorem Lay.Row.rd (h : Y.Row w B v L) : ∃ a c, v = .slice a L.length c ∧ (a = none → c = 0) ∧ Y.Rd w a L := by
 obtain ⟨a, c, hv⟩ := h.form
 have hac : a = none → c = 0 := by
  rintro rfl
  rcases h.2 with ⟨h2, _⟩ | ⟨g, cap, cur, h2, _⟩
  ·rw [hv] at h2; injection h2
  ·rw [hv] at h2; injection h2 with h2; cases h2
 refine ⟨a, c, hv, hac, fun j e hj => ?_⟩
 obtain ⟨g, cap, h1, h2, h3⟩ := h.at_ j e hj
 rw [hv] at h1
 injection h1 with h1
 exact ⟨g, 0, h1, h2, by rw [Nat.zero_add]; exact h3⟩
theorem Lay.ones (Y : Lay α) (L : List α) : ∀ u ∈ L.flatMap Y.cells, u.oneCell' = true := by
 intro u hu
 rw [List.mem_flatMap] at hu
 obtain ⟨e, _, hu⟩ := hu
 exact Y.one e u hu
theorem Lay.Rd.cells {b off : Nat} (h : Y.Rd w (some ⟨b, off, none⟩) L) : ∀ j u, (L.flatMap Y.cells)[j]? = some u → w.cell? ((⟨b, off, none⟩ : Addr).add j) = some u := by
 intro j u hu
 have hj := lt_of_get hu
 rw [fm_length Y.cells Y.m Y.len] at hj
 have hi : j / Y.m < L.length := (Nat.div_lt_iff_lt_mul Y.pos).2 hj
 have hr : j % Y.m < Y.m := Nat.mod_lt _ Y.pos
 have h1 := fm_get Y.cells Y.m Y.len L (j / Y.m) (j % Y.m) hi hr
 have hdm : j / Y.m * Y.m + j % Y.m = j := Nat.div_add_mod' j Y.m
 rw [hdm, hu] at h1
 obtain ⟨b', off', he, _, h2⟩ := h (j / Y.m) _ (List.getElem?_eq_getElem hi)
 have e1 : b = b' ∧ off = off' := by injection he with he; injection he with x y; exact ⟨x, y⟩
 obtain ⟨rfl, rfl⟩ := e1
 rw [add_at, show off + j = off + j / Y.m * Y.m + j % Y.m by rw [Nat.add_assoc, hdm]]
 exact h2 _ _ h1.symm
theorem CellsAt.rd {g : Nat} {e : α} (hg : g < w.heap.size) (h : CellsAt w g 0 (Y.cells e)) : Y.Rd w (some ⟨g, 0, none⟩) [e] := by
 intro j x hj
 have hj0 : j = 0 := by have := lt_of_get hj; simp at this; exact this
 subst hj0
 have : x = e := by simp at hj; exact hj.symm
 subst this
 exact ⟨g, 0, rfl, hg, by rw [Nat.zero_mul]; exact h⟩
/-- what append makes: the run -/
theorem Lay.run_append (Y : Lay α) {w : World} {B : Nat} {v : Value} {L : List α} (ty : TypeId) (hown : Y.Row w B v L) (ad : Addr) (c : Nat) (M : List α) (had : ∃ b off, ad = ⟨b, off, none⟩) (hr : Y.Rd w (some ad) M) (hle : L.length + M.length ≤ 1000000) (hbase : B ≤ w.heap.size) :
  ∃ v' w', (Builtin.append_ #[Y.ts, Y.ts] ty #[v, .slice (some ad) M.length c]).run Try.prog w = .ok v' w' ∧ Y.Row w' B v' (L ++ M) ∧ w.grownBy w' v.ownBlock ∧ (v'.ownBlock = v.ownBlock ∨ v'.ownBlock = some w.heap.size) := by
 obtain ⟨b, off, rfl⟩ := had
 obtain ⟨i0, hi, hz0, hz1, hz2⟩ := info_parts Y.info
 have hsm : (L.length + M.length) * Y.bytes ≤ 140737488355328 := by
  have := Nat.mul_le_mul hle Y.small
  omega
 obtain ⟨v', w', h1, h2, h3, _, h5⟩ := run_append_own_at (P := Try.prog) w B Y.ts ty Y.t i0 Y.z Y.m Y.bytes Y.und hi hz0 hz1 hz2 Y.zs Y.pos v L.length _ hown ⟨b, off, none⟩ M.length c (M.flatMap Y.cells) (by rw [fm_length Y.cells Y.m Y.len]) hr.cells (Y.ones M) (by unfold maxLen; omega) hsm hbase
 refine ⟨v', w', h1, ?_, h3, h5⟩
 unfold Lay.Row
 rw [List.length_append, List.flatMap_append]
 exact h2
/-- append of one, in a straight region -/
theorem Lay.push (Y : Lay α) {w : World} {ops : Array Oper} {rest : List Oper} {o : Oper} {a : Act} {Q : Exit → Act → World → Prop} (hgd : o.guard = none) (s x : Operand)
  (ho : o.op = .call { callee := .builtin .append, args := #[s, x], argTypes := #[Y.ts, Y.ts] })
  (B : Nat) (v : Value) (L : List α) (hs : a.eval s = v) (hown : Y.Row w B v L) (g : Nat) (e : α) (hx : a.eval x = .slice (some ⟨g, 0, none⟩) 1 1) (hg : g < w.heap.size) (hc : CellsAt w g 0 (Y.cells e))
  (hle : L.length + 1 ≤ 1000000) (hbase : B ≤ w.heap.size)
  (h : ∀ v' w', Y.Row w' B v' (L ++ [e]) → w.grownBy w' v.ownBlock → (v'.ownBlock = v.ownBlock ∨ v'.ownBlock = some w.heap.size) → wpList Try.prog ops Q rest (a.put o.dst v') w') : wpList Try.prog ops Q (o :: rest) a w := by
 refine wpList_plain hgd fun K hK => ?_
 obtain ⟨v', w', hr, h2, h3, h5⟩ := Y.run_append o.type hown ⟨g, 0, none⟩ 1 [e] ⟨g, 0, rfl⟩ (CellsAt.rd hg hc) hle hbase
 rw [show ([e] : List α).length = 1 from rfl] at hr
 unfold Oper.wp execOp
 simp only [ho, resolve, invoke, builtin, Sem.run_bind, Sem.run_pure, Result.andThen_ok, List.map_toArray, List.map_cons, List.map_nil, hs, hx, hr]
 exact hK _ _ (h v' w' h2 h3 h5)
/-- the same, as a step of a region that draws its order -/
theorem Lay.step (Y : Lay α) {w : World} {ops : Array Oper} {o : Oper} {a : Act} {K : Act → World → Prop} {Q : Exit → Act → World → Prop} {E : Prop} (hgd : o.guard = none) (s x : Operand)
  (ho : o.op = .call { callee := .builtin .append, args := #[s, x], argTypes := #[Y.ts, Y.ts] })
  (B : Nat) (v : Value) (L : List α) (hs : a.eval s = v) (hown : Y.Row w B v L) (g : Nat) (e : α) (hx : a.eval x = .slice (some ⟨g, 0, none⟩) 1 1) (hg : g < w.heap.size) (hc : CellsAt w g 0 (Y.cells e))
  (hle : L.length + 1 ≤ 1000000) (hbase : B ≤ w.heap.size)
  (h : ∀ v' w', Y.Row w' B v' (L ++ [e]) → w.grownBy w' v.ownBlock → (v'.ownBlock = v.ownBlock ∨ v'.ownBlock = some w.heap.size) → K (a.put o.dst v') w') :
  if Region.wanted o (yielded ops a.tmps) = true then Oper.wp Try.prog o a w K Q else E := by
 have hw : Region.wanted o (yielded ops a.tmps) = true := by simp [Region.wanted, hgd]
 rw [if_pos hw]
 obtain ⟨v', w', hr, h2, h3, h5⟩ := Y.run_append o.type hown ⟨g, 0, none⟩ 1 [e] ⟨g, 0, rfl⟩ (CellsAt.rd hg hc) hle hbase
 rw [show ([e] : List α).length = 1 from rfl] at hr
 unfold Oper.wp execOp
 simp only [ho, resolve, invoke, builtin, Sem.run_bind, Sem.run_pure, Result.andThen_ok, List.map_toArray, List.map_cons, List.map_nil, hs, hx, hr]
 exact h v' w' h2 h3 h5
/-- append of many that are read, none of them too -/
theorem Lay.pushes (Y : Lay α) {w : World} {ops : Array Oper} {rest : List Oper} {o : Oper} {a : Act} {Q : Exit → Act → World → Prop} (hgd : o.guard = none) (s x : Operand)
  (ho : o.op = .call { callee := .builtin .append, args := #[s, x], argTypes := #[Y.ts, Y.ts] })
  (B : Nat) (v : Value) (L : List α) (hs : a.eval s = v) (hown : Y.Row w B v L) (A : Option Addr) (c : Nat) (M : List α) (hx : a.eval x = .slice A M.length c) (hac : A = none → c = 0) (hrd : Y.Rd w A M)
  (hA : ∀ ad, A = some ad → ∃ b off, ad = ⟨b, off, none⟩) (hle : L.length + M.length ≤ 1000000) (hbase : B ≤ w.heap.size)
  (h : ∀ v' w', Y.Row w' B v' (L ++ M) → w.grownBy w' v.ownBlock → (v'.ownBlock = v.ownBlock ∨ v'.ownBlock = some w.heap.size) → wpList Try.prog ops Q rest (a.put o.dst v') w') : wpList Try.prog ops Q (o :: rest) a w := by
 obtain ⟨i0, hi, hz0, hz1, hz2⟩ := info_parts Y.info
 rcases A with _ | ad
 ·have hM : M = [] := by
   cases M with
   | nil => rfl
   | cons e M => obtain ⟨b, off, h1, _⟩ := hrd 0 e rfl; cases h1
  subst hM
  have hc := hac rfl
  subst hc
  refine wpList_append_own_none hgd s x Y.ts ho B Y.t i0 Y.m Y.und hi v L.length _ hs hown hx ?_
  exact h v w (by rw [List.append_nil]; exact hown) (World.grownBy.refl w _) (.inl rfl)
 ·refine wpList_plain hgd fun K hK => ?_
  obtain ⟨v', w', hr, h2, h3, h5⟩ := Y.run_append o.type hown ad c M (hA ad rfl) hrd hle hbase
  unfold Oper.wp execOp
  simp only [ho, resolve, invoke, builtin, Sem.run_bind, Sem.run_pure, Result.andThen_ok, List.map_toArray, List.map_cons, List.map_nil, hs, hx, hr]
  exact hK _ _ (h v' w' h2 h3 h5)
end
end Go.Proofs.Ytmaijkoopjocdaa

/- Rows of structs: append of many as a step of a region that draws its order. -/
namespace Go.Proofs.Ytmaijkoopjocdaa
open Go.RowKit

section
variable {α : Type}
/-- append of many that are read, none of them too, as a step of a region that draws its order -/
theorem Lay.steps (Y : Lay α) {w : World} {ops : Array Oper} {o : Oper} {a : Act} {K : Act → World → Prop} {Q : Exit → Act → World → Prop} {E : Prop} (hgd : o.guard = none) (s x : Operand)
  (ho : o.op = .call { callee := .builtin .append, args := #[s, x], argTypes := #[Y.ts, Y.ts] })
  (B : Nat) (v : Value) (L : List α) (hs : a.eval s = v) (hown : Y.Row w B v L) (A : Option Addr) (n c : Nat) (M : List α) (hn : M.length = n) (hx : a.eval x = .slice A n c) (hac : A = none → c = 0) (hrd : Y.Rd w A M)
  (hA : ∀ ad, A = some ad → ∃ b off, ad = ⟨b, off, none⟩) (hle : L.length + M.length ≤ 1000000) (hbase : B ≤ w.heap.size)
  (h : ∀ v' w', Y.Row w' B v' (L ++ M) → w.grownBy w' v.ownBlock → (v'.ownBlock = v.ownBlock ∨ v'.ownBlock = some w.heap.size) → K (a.put o.dst v') w') :
  if Region.wanted o (yielded ops a.tmps) = true then Oper.wp Try.prog o a w K Q else E := by
 subst hn
 have hw : Region.wanted o (yielded ops a.tmps) = true := by simp [Region.wanted, hgd]
 rw [if_pos hw]
 obtain ⟨i0, hi, hz0, hz1, hz2⟩ := info_parts Y.info
 rcases A with _ | ad
 ·have hM : M = [] := by
   cases M with
   | nil => rfl
   | cons e M => obtain ⟨b, off, h1, _⟩ := hrd 0 e rfl; cases h1
  subst hM
  have hc := hac rfl
  subst hc
  have hrun := run_append_owned_none (P := Try.prog) (w := w) B Y.ts o.type Y.t i0 Y.m Y.und hi v L.length _ hown
  have hk := h v w (by rw [List.append_nil]; exact hown) (World.grownBy.refl w _) (.inl rfl)
  have hx' : a.eval x = .slice none 0 0 := hx
  unfold Oper.wp
  simp [execOp, ho, resolve, invoke, builtin, hs, hx', hrun, Result.andThen]
  exact hk
 ·obtain ⟨v', w', hr, h2, h3, h5⟩ := Y.run_append o.type hown ad c M (hA ad rfl) hrd hle hbase
  unfold Oper.wp execOp
  simp only [ho, resolve, invoke, builtin, Sem.run_bind, Sem.run_pure, Result.andThen_ok, List.map_toArray, List.map_cons, List.map_nil, hs, hx, hr]
  exact h v' w' h2 h3 h5
end
end Go.Proofs.Ytmaijkoopjocdaa

/- Rows of structs: a store into one; the front of one. -/
namespace Go.Proofs.Ytmaijkoopjocdaa
open Go.RowKit

section
variable {α : Type} {Y : Lay α} {w w' : World} {B : Nat} {v : Value} {L : List α}
theorem Lay.Row.blk (h : Y.Row w B v L) (hL : L ≠ []) : ∃ g cap cur, v = .slice (some ⟨g, 0, none⟩) L.length cap ∧ B ≤ g ∧ Blk w g Y.t cur := by
 rcases h.2 with ⟨_, h0⟩ | ⟨g, cap, cur, hv, hb, hh, _⟩
 ·exact absurd (List.length_eq_zero_iff.1 h0) hL
 ·exact ⟨g, cap, cur, hv, hb, hh⟩
theorem Lay.Row.set_ {g n cap j k : Nat} (h : Y.Row w B (.slice (some ⟨g, 0, none⟩) n cap) L) {e e' : α} {u : Value} (hj : L[j]? = some e) (hk : k < Y.m) (he : Y.cells e' = (Y.cells e).set k u) : Y.Row (w.setCell ⟨g, j * Y.m + k, none⟩ u) B (.slice (some ⟨g, 0, none⟩) n cap) (L.set j e') := by
 have hjl := lt_of_get hj
 obtain ⟨_, hje⟩ := get_of hj
 have hfm := fm_set Y.cells Y.m Y.len u e' L j k hjl hk (by rw [hje]; exact he)
 obtain ⟨h1, h2⟩ := h
 rcases h2 with ⟨hv, _⟩ | ⟨g', cap', cur, hv, hb, hh, r1, r2, r3, r4⟩
 ·injection hv with hv; cases hv
 ·injection hv with hv hn hc
  injection hv with hv
  injection hv with hv
  subst hv; subst hn; subst hc
  have hb2 : Blk w g Y.t cur := hh
  refine ⟨by rw [← hfm, List.length_set, List.length_set]; exact h1, .inr ⟨g, cap, cur.setIfInBounds (j * Y.m + k) u, by rw [List.length_set], hb, hb2.set_ _ u, by rw [List.length_set]; exact r1, r2, by rw [Array.size_setIfInBounds]; exact r3, ?_⟩⟩
  rw [Array.toList_setIfInBounds, List.take_set, List.length_set, r4, hfm]
theorem Lay.Row.rd_some {g n cap : Nat} (h : Y.Row w B (.slice (some ⟨g, 0, none⟩) n cap) L) : Y.Rd w (some ⟨g, 0, none⟩) L := by
 obtain ⟨a, c, hv, _, hr⟩ := h.rd
 injection hv with hv
 rw [hv]; exact hr
/-- the front of a row -/
theorem Lay.Row.front {g n cap : Nat} (h : Y.Row w B (.slice (some ⟨g, 0, none⟩) n cap) L) {k : Nat} (hk : k ≤ L.length) : Y.Row w B (.slice (some ⟨g, 0, none⟩) k cap) (L.take k) := by
 obtain ⟨h1, h2⟩ := h
 rcases h2 with ⟨hv, _⟩ | ⟨g', cap', cur, hv, hb, hh, r1, r2, r3, r4⟩
 ·injection hv with hv; cases hv
 ·injection hv with hv hn hc
  injection hv with hv
  injection hv with hv
  subst hv; subst hn; subst hc
  have hl : (L.take k).length = k := by rw [List.length_take]; omega
  have hf : (L.take k).flatMap Y.cells = (L.flatMap Y.cells).take (k * Y.m) := by
   have e1 : L.flatMap Y.cells = (L.take k).flatMap Y.cells ++ (L.drop k).flatMap Y.cells := by rw [← List.flatMap_append, List.take_append_drop]
   have e2 : ((L.take k).flatMap Y.cells).length = k * Y.m := by rw [fm_length Y.cells Y.m Y.len, hl]
   rw [e1, List.take_left' e2]
  refine ⟨by rw [hf, List.length_take, hl, h1]; exact Nat.min_eq_left (Nat.mul_le_mul_right _ hk), .inr ⟨g, cap, cur, by rw [hl], hb, hh, by rw [hl]; omega, r2, r3, ?_⟩⟩
  rw [hl, hf, ← r4, List.take_take, Nat.min_eq_left (Nat.mul_le_mul_right _ hk)]
end
end Go.Proofs.Ytmaijkoopjocdaa

/- What a listener does, on plain data: bytes that are read, messages, levels, views, snapshots, what is held. No program in sight. -/
namespace Go.Proofs.Ytmaijkoopjocdaa
open Go Go.Lib

/-! ### bytes that are read -/
structure RS where
 bs : List Int
 bad : Bool
deriving DecidableEq
def RS.take (n : Nat) (s : RS) : List Int × RS := if s.bad = true ∨ s.bs.length < n then ([], ⟨s.bs, true⟩) else (s.bs.take n, ⟨s.bs.drop n, false⟩)
def RS.num (n : Nat) (s : RS) : Int × RS := (leZ (s.take n).1, (s.take n).2)
def RS.long (s : RS) : Int × RS := (IntKind.i64.wrap (s.num 8).1, (s.num 8).2)
def isByte (z : Int) : Prop := 0 ≤ z ∧ z ≤ 255
def RS.ok (s : RS) : Prop := ∀ z ∈ s.bs, isByte z
theorem leZ_nil : leZ [] = 0 := rfl
theorem leZ_range : ∀ (l : List Int), (∀ z ∈ l, isByte z) → 0 ≤ leZ l ∧ leZ l < 256 ^ l.length
 | [], _ => ⟨Int.le_refl 0, by decide⟩
 | z :: r, h => by
  have h1 := h z (by simp)
  have h2 := leZ_range r (fun x hx => h x (by simp [hx]))
  unfold isByte at h1
  rw [leZ, List.length_cons, Int.pow_succ]
  omega
theorem RS.take_ok {n : Nat} {s : RS} (h : s.ok) : (s.take n).2.ok ∧ ∀ z ∈ (s.take n).1, isByte z := by
 unfold RS.take
 split
 ·exact ⟨h, fun z hz => by simp at hz⟩
 ·exact ⟨fun z hz => h z (List.mem_of_mem_drop hz), fun z hz => h z (List.mem_of_mem_take hz)⟩
theorem RS.num_ok {n : Nat} {s : RS} (h : s.ok) : (s.num n).2.ok := (RS.take_ok h).1
theorem RS.long_ok {s : RS} (h : s.ok) : s.long.2.ok := RS.num_ok h
theorem RS.take_len (n : Nat) (s : RS) : (s.take n).1.length ≤ n ∧ (s.take n).2.bs.length ≤ s.bs.length := by
 unfold RS.take
 split
 ·exact ⟨Nat.zero_le _, Nat.le_refl _⟩
 ·exact ⟨by rw [List.length_take]; omega, by rw [List.length_drop]; omega⟩
theorem RS.byte_range {s : RS} (h : s.ok) : 0 ≤ (s.num 1).1 ∧ (s.num 1).1 ≤ 255 := by
 have h1 := leZ_range _ (RS.take_ok (n := 1) h).2
 have h2 := (RS.take_len 1 s).1
 unfold RS.num
 dsimp only
 refine ⟨h1.1, ?_⟩
 have : (s.take 1).1.length = 0 ∨ (s.take 1).1.length = 1 := by omega
 rcases this with h3 | h3 <;> rw [h3] at h1 <;> omega
theorem RS.bad_take {n : Nat} {s : RS} (h : s.bad = true) : s.take n = ([], s) := by
 unfold RS.take
 rw [if_pos (.inl h)]
 cases s; simp_all
theorem RS.bad_num {n : Nat} {s : RS} (h : s.bad = true) : s.num n = (0, s) := by
 unfold RS.num
 rw [RS.bad_take h]; rfl
theorem RS.bad_long {s : RS} (h : s.bad = true) : s.long = (0, s) := by
 unfold RS.long
 rw [RS.bad_num h]; rfl
theorem i64_wrap_range (z : Int) : -9223372036854775808 ≤ IntKind.i64.wrap z ∧ IntKind.i64.wrap z ≤ 9223372036854775807 := by
 rw [IntKind.wrap_i64]; omega

/-! ### levels, sides, views, messages -/
structure Lv where
 price : Int
 qty : Int
 count : Int
deriving DecidableEq
structure Sd where
 lv : List Lv
 im : Lv
 has : Bool
deriving DecidableEq
abbrev Vw := List (Sd × Sd)
structure Mg where
 seq : Int
 inst : Int
 side : Int
 price : Int
 qty : Int
 count : Int
 imp : Bool
deriving DecidableEq
def zeroLv : Lv := ⟨0, 0, 0⟩
def zeroSd : Sd := ⟨[], zeroLv, false⟩
def Mg.lv (m : Mg) : Lv := ⟨m.price, m.qty, m.count⟩
def betterP (side x y : Int) : Bool := if side = 1 then decide (y < x) else decide (x < y)
theorem better_tri (side x y : Int) (h : x ≠ y) : betterP side x y = !betterP side y x := by
 unfold betterP
 by_cases hs : side = 1
 ·rw [if_pos hs, if_pos hs]
  by_cases hx : y < x
  ·have hy : ¬ x < y := by omega
   simp [hx, hy]
  ·have hy : x < y := by omega
   simp [hx, hy]
 ·rw [if_neg hs, if_neg hs]
  by_cases hx : x < y
  ·have hy : ¬ y < x := by omega
   simp [hx, hy]
  ·have hy : y < x := by omega
   simp [hx, hy]
theorem better_irr (side x : Int) : betterP side x x = false := by
 unfold betterP; split <;> simp
theorem better_trans {side x y z : Int} (h : betterP side x y = true) (k : betterP side y z = true) : betterP side x z = true := by
 unfold betterP at *
 split at h
 ·rename_i hs
  rw [if_pos hs] at k ⊢
  simp only [decide_eq_true_eq] at *
  omega
 ·rename_i hs
  rw [if_neg hs] at k ⊢
  simp only [decide_eq_true_eq] at *
  omega
theorem better_ne {side x y : Int} (h : betterP side x y = true) : x ≠ y := by
 rintro rfl
 rw [better_irr] at h; cases h
def Srt (side : Int) (l : List Lv) : Prop := l.Pairwise (fun a b => betterP side a.price b.price = true)
/-- the program's way -/
def updP (m : Mg) (l : List Lv) : List Lv :=
 match l.findIdx? (fun y => y.price == m.price) with
 | some n => if m.qty = 0 then l.take n ++ l.drop (n + 1) else l.take n ++ m.lv :: l.drop (n + 1)
 | none => if 0 < m.qty then (match l.findIdx? (fun y => betterP m.side m.price y.price) with
   | some n => l.take n ++ m.lv :: l.drop n
   | none => l ++ [m.lv]) else l
/-- by itself -/
def updQ (m : Mg) : List Lv → List Lv
 | [] => if 0 < m.qty then [m.lv] else []
 | x :: t => if x.price = m.price then (if m.qty = 0 then t else m.lv :: t) else if betterP m.side m.price x.price = true then (if 0 < m.qty then m.lv :: x :: t else x :: t) else x :: updQ m t
/-- the document's way -/
def updR (m : Mg) : Bool → List Lv → List Lv
 | done, [] => if done = true then [] else [m.lv]
 | done, x :: t => (if done = false ∧ betterP m.side x.price m.price = false then [m.lv] else []) ++ (if x.price = m.price then [] else [x]) ++ updR m (done || !betterP m.side x.price m.price) t
theorem not_mem_of_better {side p : Int} {x : Lv} {t : List Lv} (hs : Srt side (x :: t)) (h : x.price = p ∨ betterP side p x.price = true) : ∀ y ∈ t, y.price ≠ p := by
 intro y hy
 have h1 := (List.pairwise_cons.1 hs).1 y hy
 rcases h with rfl | h
 ·exact fun e => better_ne h1 e.symm
 ·exact fun e => better_ne (better_trans h h1) e.symm
theorem idx_none {p : Int} {t : List Lv} (h : ∀ y ∈ t, y.price ≠ p) : t.findIdx? (fun y => y.price == p) = none := by
 rw [List.findIdx?_eq_none_iff]
 intro y hy
 simpa using h y hy
theorem updP_eq {m : Mg} : ∀ {l : List Lv}, Srt m.side l → updP m l = updQ m l
 | [], _ => by simp [updP, updQ]
 | x :: t, hs => by
  have hst : Srt m.side t := (List.pairwise_cons.1 hs).2
  have ih := updP_eq hst
  unfold updQ
  by_cases hx : x.price = m.price
  ·rw [if_pos hx]
   unfold updP
   rw [List.findIdx?_cons, if_pos (by simpa using hx)]
   simp
  ·rw [if_neg hx]
   have hxb : (x.price == m.price) = false := by simpa using hx
   by_cases hb : betterP m.side m.price x.price = true
   ·rw [if_pos hb]
    have hn := idx_none (not_mem_of_better hs (.inr hb))
    unfold updP
    rw [List.findIdx?_cons, hxb, List.findIdx?_cons, hn]
    simp [hb]
   ·rw [if_neg hb]
    have hbf : betterP m.side m.price x.price = false := by simpa using hb
    rw [← ih]
    unfold updP
    rw [List.findIdx?_cons, hxb, List.findIdx?_cons, hbf]
    cases hi : t.findIdx? (fun y => y.price == m.price) with
    | some n => simp; split <;> simp
    | none =>
     simp only [Bool.false_eq_true, if_false, Option.map_none]
     split
     ·cases hj : t.findIdx? (fun y => betterP m.side m.price y.price) with
      | some n => simp
      | none => simp
     ·rfl
theorem updR_done {m : Mg} : ∀ {l : List Lv}, (∀ y ∈ l, y.price ≠ m.price) → updR m true l = l
 | [], _ => rfl
 | x :: t, h => by
  unfold updR
  rw [if_neg (by simp), if_neg (h x (by simp)), Bool.true_or, updR_done (fun y hy => h y (by simp [hy]))]
  rfl
theorem updR_eq {m : Mg} (hq : 0 ≤ m.qty) : ∀ {l : List Lv}, Srt m.side l → updR m (decide (m.qty = 0)) l = updQ m l
 | [], _ => by
  unfold updR updQ
  by_cases h : m.qty = 0
  ·simp [h]
  ·rw [if_neg (by simpa using h), if_pos (by omega)]
 | x :: t, hs => by
  have hst : Srt m.side t := (List.pairwise_cons.1 hs).2
  have ih := updR_eq hq hst
  unfold updR updQ
  by_cases hx : x.price = m.price
  ·have hn := not_mem_of_better hs (.inl hx)
   have hb : betterP m.side x.price m.price = false := by rw [hx]; exact better_irr _ _
   rw [if_pos hx, if_pos hx, hb, Bool.not_false, Bool.or_true, updR_done hn]
   by_cases h : m.qty = 0
   ·simp [h]
   ·simp [h]
  ·rw [if_neg hx, if_neg hx]
   have ht := better_tri m.side m.price x.price (Ne.symm hx)
   by_cases hb : betterP m.side m.price x.price = true
   ·have hn := not_mem_of_better hs (.inr hb)
    have hb2 : betterP m.side x.price m.price = false := by rw [hb] at ht; simpa using ht.symm
    rw [if_pos hb, hb2, Bool.not_false, Bool.or_true, updR_done hn]
    by_cases h : m.qty = 0
    ·simp [h]
    ·have h0 : 0 < m.qty := by omega
     simp [h, h0]
   ·have hb2 : betterP m.side x.price m.price = true := by
     have : betterP m.side m.price x.price = false := by simpa using hb
     rw [this] at ht; simpa using ht.symm
    rw [if_neg hb, hb2, Bool.not_true, Bool.or_false, ih]
    simp
theorem updQ_mem {m : Mg} : ∀ {l : List Lv} {y : Lv}, y ∈ updQ m l → y.price = m.price ∨ y ∈ l
 | [], y, h => by
  unfold updQ at h
  split at h
  ·simp at h; subst h; exact .inl rfl
  ·simp at h
 | x :: t, y, h => by
  unfold updQ at h
  split at h
  ·split at h
   ·exact .inr (by simp [h])
   ·rcases List.mem_cons.1 h with rfl | h
    ·exact .inl rfl
    ·exact .inr (by simp [h])
  ·split at h
   ·split at h
    ·rcases List.mem_cons.1 h with rfl | h
     ·exact .inl rfl
     ·exact .inr h
    ·exact .inr h
   ·rcases List.mem_cons.1 h with rfl | h
    ·exact .inr (by simp)
    ·rcases updQ_mem h with h | h
     ·exact .inl h
     ·exact .inr (by simp [h])
theorem updQ_srt {m : Mg} : ∀ {l : List Lv}, Srt m.side l → Srt m.side (updQ m l)
 | [], _ => by
  unfold updQ
  split
  ·exact List.pairwise_singleton _ _
  ·exact List.Pairwise.nil
 | x :: t, hs => by
  have hc := List.pairwise_cons.1 hs
  unfold updQ
  split
  ·rename_i hx
   split
   ·exact hc.2
   ·exact List.pairwise_cons.2 ⟨fun y hy => by rw [show m.lv.price = m.price from rfl, ← hx]; exact hc.1 y hy, hc.2⟩
  ·rename_i hx
   split
   ·rename_i hb
    split
    ·refine List.pairwise_cons.2 ⟨fun y hy => ?_, hs⟩
     rcases List.mem_cons.1 hy with rfl | hy
     ·exact hb
     ·exact better_trans hb (hc.1 y hy)
    ·exact hs
   ·rename_i hb
    refine List.pairwise_cons.2 ⟨fun y hy => ?_, updQ_srt hc.2⟩
    rcases updQ_mem hy with h | h
    ·rw [h, better_tri m.side x.price m.price hx]; simpa using hb
    ·exact hc.1 y h
theorem updQ_len {m : Mg} : ∀ {l : List Lv}, (updQ m l).length ≤ l.length + 1
 | [] => by unfold updQ; split <;> simp
 | x :: t => by
  have := updQ_len (m := m) (l := t)
  unfold updQ
  split
  ·split <;> simp <;> omega
  ·split
   ·split <;> simp
   ·simp; omega

/-! ### a view behind a message -/
def Sd.app (m : Mg) (x : Sd) : Sd :=
 if m.imp = true then (if 0 < m.qty then ⟨x.lv, m.lv, true⟩ else ⟨x.lv, zeroLv, false⟩) else ⟨updQ m x.lv, x.im, x.has⟩
def appP (m : Mg) (p : Sd × Sd) : Sd × Sd := if m.side = 1 then (p.1.app m, p.2) else (p.1, p.2.app m)
def appV (m : Mg) (V : Vw) : Vw := V.modify m.inst.toNat (appP m)
def fineP (n : Nat) (m : Mg) : Bool := decide (0 ≤ m.inst ∧ m.inst < n ∧ (m.side = 1 ∨ m.side = 2) ∧ 0 ≤ m.qty ∧ 0 ≤ m.count ∧ (m.qty = 0 ↔ m.count = 0))
structure Fine (n : Nat) (m : Mg) : Prop where
 i0 : 0 ≤ m.inst
 i1 : m.inst < n
 sd : m.side = 1 ∨ m.side = 2
 q0 : 0 ≤ m.qty
 c0 : 0 ≤ m.count
 qc : m.qty = 0 ↔ m.count = 0
theorem fine_iff {n : Nat} {m : Mg} : fineP n m = true ↔ Fine n m := by
 unfold fineP
 rw [decide_eq_true_eq]
 exact ⟨fun h => ⟨h.1, h.2.1, h.2.2.1, h.2.2.2.1, h.2.2.2.2.1, h.2.2.2.2.2⟩, fun h => ⟨h.i0, h.i1, h.sd, h.q0, h.c0, h.qc⟩⟩
def SrtV (V : Vw) : Prop := ∀ p ∈ V, Srt 1 p.1.lv ∧ Srt 2 p.2.lv
def LenV (V : Vw) (k : Nat) : Prop := ∀ p ∈ V, p.1.lv.length ≤ k ∧ p.2.lv.length ≤ k
theorem LenV.more {V : Vw} {k j : Nat} (h : LenV V k) (hk : k ≤ j) : LenV V j := fun p hp => ⟨Nat.le_trans (h p hp).1 hk, Nat.le_trans (h p hp).2 hk⟩
theorem appV_len (m : Mg) (V : Vw) : (appV m V).length = V.length := by unfold appV; rw [List.length_modify]
theorem mem_modify {α : Type} {f : α → α} {l : List α} {i : Nat} {y : α} (h : y ∈ l.modify i f) : y ∈ l ∨ ∃ x ∈ l, y = f x := by
 rw [List.mem_iff_getElem?] at h
 obtain ⟨j, hj⟩ := h
 rw [List.getElem?_modify] at hj
 cases hl : l[j]? with
 | none => rw [hl] at hj; simp at hj
 | some x =>
  rw [hl] at hj
  simp only [Option.map_eq_map, Option.map_some, Option.some.injEq] at hj
  have hx : x ∈ l := List.mem_iff_getElem?.2 ⟨j, hl⟩
  split at hj
  ·exact .inr ⟨x, hx, hj.symm⟩
  ·exact .inl (by rw [← hj]; exact hx)
theorem Sd.app_srt {m : Mg} {x : Sd} (h : Srt m.side x.lv) : Srt m.side (x.app m).lv := by
 unfold Sd.app
 split
 ·split <;> exact h
 ·exact updQ_srt h
theorem Sd.app_len {m : Mg} {x : Sd} {k : Nat} (h : x.lv.length ≤ k) : (x.app m).lv.length ≤ k + 1 := by
 unfold Sd.app
 split
 ·split <;> exact Nat.le_succ_of_le h
 ·exact Nat.le_trans updQ_len (by omega)
theorem appV_srt {m : Mg} {V : Vw} (hm : m.side = 1 ∨ m.side = 2) (h : SrtV V) : SrtV (appV m V) := by
 intro p hp
 rcases mem_modify hp with hp | ⟨x, hx, rfl⟩
 ·exact h p hp
 ·have h1 := h x hx
  unfold appP
  rcases hm with hm | hm
  ·rw [if_pos hm]; exact ⟨hm ▸ Sd.app_srt (hm.symm ▸ h1.1), h1.2⟩
  ·rw [if_neg (by omega)]; exact ⟨h1.1, hm ▸ Sd.app_srt (hm.symm ▸ h1.2)⟩
theorem appV_lenV {m : Mg} {V : Vw} {k : Nat} (h : LenV V k) : LenV (appV m V) (k + 1) := by
 intro p hp
 rcases mem_modify hp with hp | ⟨x, hx, rfl⟩
 ·exact h.more (Nat.le_succ k) p hp
 ·have h1 := h x hx
  unfold appP
  split
  ·exact ⟨Sd.app_len h1.1, Nat.le_succ_of_le h1.2⟩
  ·exact ⟨Nat.le_succ_of_le h1.1, Sd.app_len h1.2⟩
end Go.Proofs.Ytmaijkoopjocdaa

/- What a listener does, on plain data: messages and snapshots as they are read, what is held; the document's way and the program's way are one. No program in sight. -/
namespace Go.Proofs.Ytmaijkoopjocdaa
open Go Go.Lib

/-! ### a message, read -/
def rawM (s : RS) : Mg × Int × RS :=
 (⟨s.long.1, (s.long.2.num 1).1, ((s.long.2.num 1).2.num 1).1, ((s.long.2.num 1).2.num 1).2.long.1, ((s.long.2.num 1).2.num 1).2.long.2.long.1, ((s.long.2.num 1).2.num 1).2.long.2.long.2.long.1, (((s.long.2.num 1).2.num 1).2.long.2.long.2.long.2.num 1).1 == 1⟩,
  (((s.long.2.num 1).2.num 1).2.long.2.long.2.long.2.num 1).1, (((s.long.2.num 1).2.num 1).2.long.2.long.2.long.2.num 1).2)
def decM (b : List Int) : Option Mg :=
 if ((rawM ⟨b, false⟩).2.2.bad = true ∨ (rawM ⟨b, false⟩).2.2.bs ≠ []) ∨ 1 < (rawM ⟨b, false⟩).2.1 ∨ ¬ ((rawM ⟨b, false⟩).1.side = 1 ∨ (rawM ⟨b, false⟩).1.side = 2) then none else some (rawM ⟨b, false⟩).1
def i64r (z : Int) : Prop := -9223372036854775808 ≤ z ∧ z ≤ 9223372036854775807
structure Mg.Okd (m : Mg) : Prop where
 seq : i64r m.seq
 inst : 0 ≤ m.inst ∧ m.inst ≤ 255
 price : i64r m.price
 qty : i64r m.qty
 count : i64r m.count
theorem decM_ok {b : List Int} (hb : ∀ z ∈ b, isByte z) {m : Mg} (h : decM b = some m) : m.Okd ∧ (m.side = 1 ∨ m.side = 2) := by
 unfold decM at h
 split at h
 ·cases h
 ·rename_i hc
  injection h with h
  subst h
  have h0 : (⟨b, false⟩ : RS).ok := hb
  refine ⟨⟨i64_wrap_range _, RS.byte_range (RS.long_ok h0), i64_wrap_range _, i64_wrap_range _, i64_wrap_range _⟩, ?_⟩
  exact Decidable.not_not.1 fun hn => hc (.inr (.inr hn))

/-! ### a snapshot, read -/
def readLv (s : RS) : Lv × RS := (⟨s.long.1, s.long.2.long.1, s.long.2.long.2.long.1⟩, s.long.2.long.2.long.2)
def readLvs : Nat → RS → List Lv × RS
 | 0, s => ([], s)
 | n + 1, s => ((readLv s).1 :: (readLvs n (readLv s).2).1, (readLvs n (readLv s).2).2)
/-- behind the levels: whether there is an implied one -/
def readIm (l : List Lv) (s : RS) : Sd × Bool × RS :=
 if (s.num 1).1 = 1 then (⟨l, (readLv (s.num 1).2).1, true⟩, true, (readLv (s.num 1).2).2) else (⟨l, zeroLv, false⟩, decide ((s.num 1).1 ≤ 1), (s.num 1).2)
def readSd (s : RS) : Sd × Bool × RS := readIm (readLvs (s.num 1).1.toNat (s.num 1).2).1 (readLvs (s.num 1).1.toNat (s.num 1).2).2
def readVw : Nat → RS → Vw × Bool × RS
 | 0, s => ([], true, s)
 | n + 1, s => (((readSd s).1, (readSd (readSd s).2.2).1) :: (readVw n (readSd (readSd s).2.2).2.2).1, ((readSd s).2.1 && (readSd (readSd s).2.2).2.1 && (readVw n (readSd (readSd s).2.2).2.2).2.1), (readVw n (readSd (readSd s).2.2).2.2).2.2)
/-- the document's: it ends where the bytes end -/
def readLvsR : Nat → RS → List Lv × RS
 | 0, s => ([], s)
 | n + 1, s => if s.bad = true then ([], s) else ((readLv s).1 :: (readLvsR n (readLv s).2).1, (readLvsR n (readLv s).2).2)
def readSdR (s : RS) : Sd × Bool × RS := readIm (readLvsR (s.num 1).1.toNat (s.num 1).2).1 (readLvsR (s.num 1).1.toNat (s.num 1).2).2
def readVwR : Nat → RS → Vw × Bool × RS
 | 0, s => ([], true, s)
 | n + 1, s => if s.bad = true then ([], true, s) else (((readSdR s).1, (readSdR (readSdR s).2.2).1) :: (readVwR n (readSdR (readSdR s).2.2).2.2).1, ((readSdR s).2.1 && (readSdR (readSdR s).2.2).2.1 && (readVwR n (readSdR (readSdR s).2.2).2.2).2.1), (readVwR n (readSdR (readSdR s).2.2).2.2).2.2)
def Mono (s t : RS) : Prop := s.bad = true → t = s
theorem Mono.trans {s t u : RS} (h : Mono s t) (k : Mono t u) : Mono s u := fun hs => by
 have h1 := h hs
 rw [← h1]; exact k (by rw [h1]; exact hs)
theorem mono_num (n : Nat) (s : RS) : Mono s (s.num n).2 := fun h => by rw [RS.bad_num h]
theorem mono_long (s : RS) : Mono s s.long.2 := fun h => by rw [RS.bad_long h]
theorem mono_lv (s : RS) : Mono s (readLv s).2 := (mono_long s).trans ((mono_long _).trans (mono_long _))
theorem mono_lvs : ∀ (n : Nat) (s : RS), Mono s (readLvs n s).2
 | 0, _ => fun _ => rfl
 | n + 1, s => (mono_lv s).trans (mono_lvs n _)
theorem mono_im (l : List Lv) (s : RS) : Mono s (readIm l s).2.2 := by
 unfold readIm
 split
 ·exact (mono_num 1 s).trans (mono_lv _)
 ·exact mono_num 1 s
theorem mono_sd (s : RS) : Mono s (readSd s).2.2 := (mono_num 1 s).trans ((mono_lvs _ _).trans (mono_im _ _))
theorem mono_vw : ∀ (n : Nat) (s : RS), Mono s (readVw n s).2.2
 | 0, _ => fun _ => rfl
 | n + 1, s => (mono_sd s).trans ((mono_sd _).trans (mono_vw n _))
/-- the same, or both have come to the end of the bytes -/
theorem lvs_eq : ∀ (n : Nat) (s : RS), (readLvsR n s = readLvs n s ∨ ((readLvsR n s).2.bad = true ∧ (readLvs n s).2.bad = true)) ∧ (readLvsR n s).2 = (readLvs n s).2
 | 0, _ => ⟨.inl rfl, rfl⟩
 | n + 1, s => by
  unfold readLvsR
  by_cases h : s.bad = true
  ·rw [if_pos h]
   have h1 := mono_lvs (n + 1) s h
   exact ⟨.inr ⟨h, by rw [h1]; exact h⟩, h1.symm⟩
  ·rw [if_neg h]
   obtain ⟨h1, h2⟩ := lvs_eq n (readLv s).2
   refine ⟨?_, h2⟩
   rcases h1 with h1 | h1
   ·left; unfold readLvs; rw [h1]
   ·exact .inr h1
theorem sd_eq (s : RS) : (readSdR s).2.2 = (readSd s).2.2 ∧ ((readSd s).2.2.bad = false → readSdR s = readSd s) := by
 obtain ⟨h1, h2⟩ := lvs_eq (s.num 1).1.toNat (s.num 1).2
 unfold readSdR readSd
 rcases h1 with h1 | h1
 ·rw [h1]; exact ⟨rfl, fun _ => rfl⟩
 ·have e1 : ∀ l t, (readIm l t).2.2 = (readIm [] t).2.2 := fun l t => by unfold readIm; split <;> rfl
  rw [e1 (readLvsR _ _).1, e1 (readLvs _ _).1, h2]
  refine ⟨rfl, fun hb => ?_⟩
  have h3 := mono_im [] (readLvs (s.num 1).1.toNat (s.num 1).2).2 h1.2
  rw [h3, h1.2] at hb; cases hb
theorem vw_eq : ∀ (n : Nat) (s : RS), ((readVwR n s).2.2.bad = true ∧ (readVw n s).2.2.bad = true) ∨ readVwR n s = readVw n s
 | 0, _ => .inr rfl
 | n + 1, s => by
  unfold readVwR
  by_cases h : s.bad = true
  ·rw [if_pos h]
   exact .inl ⟨h, by rw [mono_vw (n + 1) s h]; exact h⟩
  ·rw [if_neg h]
   have a := sd_eq s
   have b := sd_eq (readSd s).2.2
   rw [a.1, b.1]
   have ih := vw_eq n (readSd (readSd s).2.2).2.2
   rcases ih with ih | ih
   ·left; exact ih
   ·rw [ih]
    by_cases hb : (readVw n (readSd (readSd s).2.2).2.2).2.2.bad = true
    ·left; exact ⟨hb, hb⟩
    ·right
     have m2 : (readSd (readSd s).2.2).2.2.bad = false := by
      cases hx : (readSd (readSd s).2.2).2.2.bad with
      | false => rfl
      | true => exact absurd (by rw [mono_vw n _ hx]; exact hx) hb
     have m1 : (readSd s).2.2.bad = false := by
      cases hx : (readSd s).2.2.bad with
      | false => rfl
      | true => rw [mono_sd _ hx, hx] at m2; cases m2
     rw [a.2 m1, b.2 m2]
     rfl
/-! what may be -/
def rightL (side : Int) : List Lv → Bool
 | [] => true
 | [x] => decide (1 ≤ x.qty ∧ 1 ≤ x.count)
 | x :: y :: t => decide (1 ≤ x.qty ∧ 1 ≤ x.count) && betterP side x.price y.price && rightL side (y :: t)
def rightS (side : Int) (x : Sd) : Bool := rightL side x.lv && decide (x.lv.length ≤ 255) && (if x.has = true then decide (1 ≤ x.im.qty ∧ 1 ≤ x.im.count) else decide (x.im = zeroLv))
def rightV (V : Vw) : Bool := V.all (fun p => rightS 1 p.1 && rightS 2 p.2) && decide (V.length ≤ 255)
theorem rightL_srt {side : Int} : ∀ {l : List Lv}, rightL side l = true → Srt side l
 | [], _ => List.Pairwise.nil
 | [x], _ => List.pairwise_singleton _ _
 | x :: y :: t, h => by
  simp only [rightL, Bool.and_eq_true] at h
  have h1 := rightL_srt h.2
  refine List.pairwise_cons.2 ⟨fun z hz => ?_, h1⟩
  rcases List.mem_cons.1 hz with rfl | hz
  ·exact h.1.2
  ·exact better_trans h.1.2 ((List.pairwise_cons.1 h1).1 z hz)
theorem rightV_srt {V : Vw} (h : rightV V = true) : SrtV V ∧ LenV V 255 ∧ V.length ≤ 255 := by
 simp only [rightV, rightS, Bool.and_eq_true, List.all_eq_true, decide_eq_true_eq] at h
 exact ⟨fun p hp => ⟨rightL_srt (h.1 p hp).1.1.1, rightL_srt (h.1 p hp).2.1.1⟩, fun p hp => ⟨(h.1 p hp).1.1.2, (h.1 p hp).2.1.2⟩, h.2⟩

/-! ### sums -/
def crc1 (c : Int) : Int := if c % 2 = 1 then bits .xor .u32 (c / 2) 3988292384 else c / 2
def crcB (c x : Int) : Int := crc1 (crc1 (crc1 (crc1 (crc1 (crc1 (crc1 (crc1 (bits .xor .u32 c x))))))))
def crcL (c : Int) (l : List Int) : Int := l.foldl crcB c
def crcP (l : List Int) : Int := bits .xor .u32 4294967295 (crcL 4294967295 l)
def u32r (c : Int) : Prop := 0 ≤ c ∧ c < 4294967296
theorem bits_u32r (op : BinOp) (x y : Int) : u32r (bits op .u32 x y) := by
 unfold bits u32r
 rw [IntKind.wrap_u32]
 omega
theorem bits_xor_comm (k : IntKind) (x y : Int) : bits .xor k x y = bits .xor k y x := by
 unfold bits
 simp only [BitVec.xor_comm]
theorem crc1_r {c : Int} (h : u32r c) : u32r (crc1 c) := by
 unfold crc1
 split
 ·exact bits_u32r _ _ _
 ·unfold u32r at *; omega
theorem crcB_r {c x : Int} : u32r (crcB c x) := by
 unfold crcB
 exact crc1_r (crc1_r (crc1_r (crc1_r (crc1_r (crc1_r (crc1_r (crc1_r (bits_u32r _ _ _))))))))
theorem crcL_r : ∀ {l : List Int} {c : Int}, u32r c → u32r (crcL c l)
 | [], _, h => h
 | x :: t, c, _ => by
  show u32r (crcL (crcB c x) t)
  exact crcL_r crcB_r
def le4 (c : Int) : List Int := [c % 256, c / 256 % 256, c / 65536 % 256, c / 16777216 % 256]
theorem le4_eq {c : Int} (hc : u32r c) {s : List Int} (hs : ∀ z ∈ s, isByte z) (hl : s.length = 4) : le4 c = s ↔ c = leZ s := by
 match s, hl with
 | [a, b, x, y], _ =>
  have h1 := hs a (by simp)
  have h2 := hs b (by simp)
  have h3 := hs x (by simp)
  have h4 := hs y (by simp)
  unfold isByte at h1 h2 h3 h4
  unfold u32r at hc
  simp only [le4, leZ, List.cons.injEq, and_true]
  constructor
  ·rintro ⟨rfl, rfl, rfl, rfl⟩; omega
  ·rintro rfl; omega
def decS (b : List Int) : Int × Vw × Int :=
 if b.length < 4 then (14, [], 0) else
 if le4 (crcP (b.take (b.length - 4))) ≠ b.drop (b.length - 4) then (14, [], 0) else
 if (readVw ((⟨b.take (b.length - 4), false⟩ : RS).long.2.num 1).1.toNat ((⟨b.take (b.length - 4), false⟩ : RS).long.2.num 1).2).2.1 = true ∧
   (readVw ((⟨b.take (b.length - 4), false⟩ : RS).long.2.num 1).1.toNat ((⟨b.take (b.length - 4), false⟩ : RS).long.2.num 1).2).2.2.bad = false ∧
   (readVw ((⟨b.take (b.length - 4), false⟩ : RS).long.2.num 1).1.toNat ((⟨b.take (b.length - 4), false⟩ : RS).long.2.num 1).2).2.2.bs = [] ∧
   rightV (readVw ((⟨b.take (b.length - 4), false⟩ : RS).long.2.num 1).1.toNat ((⟨b.take (b.length - 4), false⟩ : RS).long.2.num 1).2).1 = true
 then (0, (readVw ((⟨b.take (b.length - 4), false⟩ : RS).long.2.num 1).1.toNat ((⟨b.take (b.length - 4), false⟩ : RS).long.2.num 1).2).1, (⟨b.take (b.length - 4), false⟩ : RS).long.1) else (12, [], 0)
theorem decS_ok {b : List Int} {V : Vw} {q : Int} (h : decS b = (0, V, q)) : SrtV V ∧ LenV V 255 ∧ V.length ≤ 255 ∧ i64r q := by
 unfold decS at h
 split at h
 ·cases h
 ·split at h
  ·cases h
  ·split at h
   ·rename_i hc
    injection h with _ h
    injection h with h1 h2
    subst h1; subst h2
    have := rightV_srt hc.2.2.2
    exact ⟨this.1, this.2.1, this.2.2, i64_wrap_range _⟩
   ·cases h
end Go.Proofs.Ytmaijkoopjocdaa

/- What a listener holds, on plain data: the document's way and the program's way are one. No program in sight. -/
namespace Go.Proofs.Ytmaijkoopjocdaa
open Go Go.Lib

structure LSt where
 V : Vw
 seq : Int
 H : List Mg
/-- held ones by their numbers: passed by, or applied -/
def followP : List Mg → Vw → Int → LSt
 | [], V, q => ⟨V, q, []⟩
 | m :: t, V, q => if m.seq - 1 ≤ q then (if m.seq - 1 = q then followP t (appV m V) m.seq else followP t V q) else ⟨V, q, m :: t⟩
/-- the document's: as long as the next is there -/
def onR : Nat → LSt → LSt
 | 0, s => s
 | f + 1, s => match s.H.findIdx? (fun m => m.seq == s.seq + 1) with
  | none => s
  | some k => match s.H[k]? with
   | none => s
   | some m => onR f ⟨appV m s.V, s.seq + 1, s.H.take k ++ s.H.drop (k + 1)⟩
def insM (m : Mg) (H : List Mg) : List Mg := H.takeWhile (fun x => decide (x.seq < m.seq)) ++ m :: H.dropWhile (fun x => decide (x.seq < m.seq))
def hasQ (q : Int) (H : List Mg) : Bool := H.any (fun x => x.seq == q)
def takeP (n : Nat) (s : LSt) (b : List Int) : Int × LSt :=
 match decM b with
 | none => (12, s)
 | some m => if m.seq < 1 ∨ fineP n m = false then (12, s) else if m.seq ≤ s.seq ∨ hasQ m.seq s.H = true then (33, s) else if m.seq - 1 = s.seq then (0, followP s.H (appV m s.V) m.seq) else if 4096 ≤ s.H.length then (13, s) else (32, ⟨s.V, s.seq, insM m s.H⟩)
def takeR (n : Nat) (s : LSt) (b : List Int) : Int × LSt :=
 match decM b with
 | none => (12, s)
 | some m => if m.seq < 1 ∨ fineP n m = false then (12, s) else if m.seq ≤ s.seq ∨ hasQ m.seq s.H = true then (33, s) else if m.seq - 1 = s.seq then (0, onR s.H.length ⟨appV m s.V, m.seq, s.H⟩) else if 4096 ≤ s.H.length then (13, s) else (32, ⟨s.V, s.seq, s.H ++ [m]⟩)
def snapP (n : Nat) (s : LSt) (b : List Int) : Int × LSt :=
 if (decS b).1 ≠ 0 then ((decS b).1, s) else if (decS b).2.1.length ≠ n ∨ (decS b).2.2 < 0 then (12, s) else if (decS b).2.2 < s.seq then (33, s) else (0, followP s.H (decS b).2.1 (decS b).2.2)
def snapR (n : Nat) (s : LSt) (b : List Int) : Int × LSt :=
 if (decS b).1 ≠ 0 then ((decS b).1, s) else if (decS b).2.1.length ≠ n ∨ (decS b).2.2 < 0 then (12, s) else if (decS b).2.2 < s.seq then (33, s) else (0, onR (s.H.filter (fun m => decide ((decS b).2.2 < m.seq))).length ⟨(decS b).2.1, (decS b).2.2, s.H.filter (fun m => decide ((decS b).2.2 < m.seq))⟩)

/-! ### what stays so -/
structure MOk (n : Nat) (m : Mg) : Prop where
 f : Fine n m
 o : m.Okd
 s1 : 1 ≤ m.seq
structure SOk (n c : Nat) (s : LSt) : Prop where
 len : s.V.length = n
 srt : SrtV s.V
 q0 : 0 ≤ s.seq
 q1 : s.seq ≤ 9223372036854775807
 hh : ∀ m ∈ s.H, MOk n m
 hl : s.H.length ≤ c
 sz : ∃ j, LenV s.V j ∧ j + s.H.length ≤ 255 + c
def Asc (H : List Mg) : Prop := H.Pairwise (fun a b => a.seq < b.seq)
theorem SOk.more {n c d : Nat} {s : LSt} (h : SOk n c s) (hd : c ≤ d) : SOk n d s := by
 obtain ⟨j, h1, h2⟩ := h.sz
 exact ⟨h.len, h.srt, h.q0, h.q1, h.hh, Nat.le_trans h.hl hd, j, h1, by omega⟩
theorem follow_ok {n c : Nat} : ∀ {H : List Mg} {V : Vw} {q : Int} {j : Nat}, V.length = n → SrtV V → 0 ≤ q → q ≤ 9223372036854775807 → (∀ m ∈ H, MOk n m) → H.length ≤ c → LenV V j → j + H.length ≤ 255 + c → SOk n c (followP H V q)
 | [], V, q, j, h1, h2, h3, h4, h5, h6, h7, h8 => ⟨h1, h2, h3, h4, h5, h6, j, h7, h8⟩
 | m :: t, V, q, j, h1, h2, h3, h4, h5, h6, h7, h8 => by
  have hm := h5 m (by simp)
  have ht : ∀ x ∈ t, MOk n x := fun x hx => h5 x (by simp [hx])
  have hl : t.length ≤ c := by rw [List.length_cons] at h6; omega
  rw [List.length_cons] at h8
  unfold followP
  split
  ·split
   ·exact follow_ok (by rw [appV_len]; exact h1) (appV_srt hm.f.sd h2) (by have := hm.s1; omega) hm.o.seq.2 ht hl (appV_lenV h7) (by omega)
   ·exact follow_ok h1 h2 h3 h4 ht hl h7 (by omega)
  ·exact ⟨h1, h2, h3, h4, h5, h6, j, h7, by rw [List.length_cons]; exact h8⟩
theorem ins_perm (m : Mg) (H : List Mg) : (insM m H).Perm (m :: H) := by
 unfold insM
 have := List.perm_middle (a := m) (l₁ := H.takeWhile (fun x => decide (x.seq < m.seq))) (l₂ := H.dropWhile (fun x => decide (x.seq < m.seq)))
 rwa [List.takeWhile_append_dropWhile] at this
theorem ins_len (m : Mg) (H : List Mg) : (insM m H).length = H.length + 1 := (ins_perm m H).length_eq
theorem ins_asc {m : Mg} : ∀ {H : List Mg}, Asc H → hasQ m.seq H = false → Asc (insM m H)
 | [], _, _ => List.pairwise_singleton _ _
 | x :: t, ha, hq => by
  have hc := List.pairwise_cons.1 ha
  simp only [hasQ, List.any_cons, Bool.or_eq_false_iff] at hq
  have hne : x.seq ≠ m.seq := by simpa using hq.1
  have ih := ins_asc hc.2 hq.2
  unfold insM at ih ⊢
  by_cases hx : x.seq < m.seq
  ·have hd : decide (x.seq < m.seq) = true := decide_eq_true hx
   rw [List.takeWhile_cons, List.dropWhile_cons, hd]
   refine List.pairwise_cons.2 ⟨fun y hy => ?_, ih⟩
   have hy2 := (ins_perm m t).mem_iff.1 (show y ∈ insM m t from hy)
   rcases List.mem_cons.1 hy2 with rfl | hy2
   ·exact hx
   ·exact hc.1 y hy2
  ·have hd : decide (x.seq < m.seq) = false := decide_eq_false hx
   rw [List.takeWhile_cons, List.dropWhile_cons, hd]
   refine List.pairwise_cons.2 ⟨fun y hy => ?_, ha⟩
   simp only [Bool.false_eq_true, if_false] at hy
   rcases List.mem_cons.1 hy with rfl | hy
   ·omega
   ·have := hc.1 y hy; omega
theorem take_ok {n c : Nat} {s : LSt} {b : List Int} (hb : ∀ z ∈ b, isByte z) (h : SOk n c s) : SOk n (c + 1) (takeP n s b).2 := by
 unfold takeP
 cases hd : decM b with
 | none => exact h.more (Nat.le_succ c)
 | some m =>
  dsimp only
  split
  ·exact h.more (Nat.le_succ c)
  ·rename_i hm
   have hf : Fine n m := fine_iff.1 (by cases hx : fineP n m with | true => rfl | false => exact absurd (.inr hx) hm)
   have ho := (decM_ok hb hd).1
   have h1 : 1 ≤ m.seq := by have := fun hx => hm (.inl hx); omega
   split
   ·exact h.more (Nat.le_succ c)
   ·obtain ⟨j, hj1, hj2⟩ := h.sz
    split
    ·exact follow_ok (by rw [appV_len]; exact h.len) (appV_srt hf.sd h.srt) (by omega) ho.seq.2 h.hh (Nat.le_succ_of_le h.hl) (appV_lenV hj1) (by omega)
    ·split
     ·exact h.more (Nat.le_succ c)
     ·refine ⟨h.len, h.srt, h.q0, h.q1, fun x hx => ?_, by rw [ins_len]; have := h.hl; omega, j, hj1, by rw [ins_len]; omega⟩
      rcases List.mem_cons.1 ((ins_perm m s.H).mem_iff.1 hx) with rfl | hx
      ·exact ⟨hf, ho, h1⟩
      ·exact h.hh x hx
theorem decS_zero {b : List Int} (h : ¬ (decS b).1 ≠ 0) : decS b = (0, (decS b).2.1, (decS b).2.2) := by
 have : (decS b).1 = 0 := Decidable.not_not.1 h
 rw [← this]
theorem snap_ok {n c : Nat} {s : LSt} {b : List Int} (h : SOk n c s) : SOk n c (snapP n s b).2 := by
 unfold snapP
 split
 ·exact h
 ·rename_i hz
  obtain ⟨h1, h2, _, h3⟩ := decS_ok (decS_zero hz)
  split
  ·exact h
  ·rename_i hn
   split
   ·exact h
   ·have e1 : (decS b).2.1.length = n := Decidable.not_not.1 fun hx => hn (.inl hx)
    have e2 : 0 ≤ (decS b).2.2 := by have := fun hx => hn (.inr hx); omega
    exact follow_ok e1 h1 e2 h3.2 h.hh h.hl h2 (by have := h.hl; omega)

/-! ### one and the same -/
structure Rel (s t : LSt) : Prop where
 v : t.V = s.V
 q : t.seq = s.seq
 p : t.H.Perm s.H
 a : Asc s.H
 g : ∀ m ∈ s.H, s.seq + 1 < m.seq
theorem asc_inj {H : List Mg} (h : Asc H) {a b : Mg} (ha : a ∈ H) (hb : b ∈ H) (he : a.seq = b.seq) : a = b := by
 induction H with
 | nil => simp at ha
 | cons x t ih =>
  have hc := List.pairwise_cons.1 h
  rcases List.mem_cons.1 ha with rfl | ha'
  ·rcases List.mem_cons.1 hb with rfl | hb'
   ·rfl
   ·have := hc.1 b hb'; omega
  ·rcases List.mem_cons.1 hb with rfl | hb'
   ·have := hc.1 a ha'; omega
   ·exact ih hc.2 ha' hb'
theorem find_get {H : List Mg} {q : Int} {k : Nat} (h : H.findIdx? (fun m => m.seq == q) = some k) : ∃ m, H[k]? = some m ∧ m ∈ H ∧ m.seq = q := by
 rw [List.findIdx?_eq_some_iff_getElem] at h
 obtain ⟨hk, h1, _⟩ := h
 exact ⟨H[k], List.getElem?_eq_getElem hk, List.getElem_mem hk, by simpa using h1⟩
theorem erase_perm {α : Type} {H : List α} {k : Nat} {m : α} (h : H[k]? = some m) : H.Perm (m :: (H.take k ++ H.drop (k + 1))) := by
 have hk : k < H.length := by
  rcases Nat.lt_or_ge k H.length with h1 | h1
  ·exact h1
  ·rw [List.getElem?_eq_none h1] at h; cases h
 rw [List.getElem?_eq_getElem hk] at h
 injection h with h
 have e : H = H.take k ++ m :: H.drop (k + 1) := by
  rw [← h, ← List.drop_eq_getElem_cons hk, List.take_append_drop]
 exact (List.Perm.of_eq e).trans List.perm_middle
theorem on_rel : ∀ (H : List Mg) (V : Vw) (q : Int) (T : List Mg) (f : Nat), T.length ≤ f → T.Perm H → Asc H → (∀ m ∈ H, q < m.seq) → Rel (followP H V q) (onR f ⟨V, q, T⟩)
 | [], V, q, T, f, _, hp, _, _ => by
  have hT : T = [] := hp.eq_nil
  subst hT
  have : onR f ⟨V, q, []⟩ = ⟨V, q, []⟩ := by cases f <;> rfl
  rw [this]
  exact ⟨rfl, rfl, List.Perm.nil, List.Pairwise.nil, fun m hm => by simp [followP] at hm⟩
 | m :: t, V, q, T, f, hf, hp, ha, hg => by
  have hc := List.pairwise_cons.1 ha
  have hmq := hg m (by simp)
  have hlen := hp.length_eq
  rw [List.length_cons] at hlen
  obtain ⟨f, rfl⟩ : ∃ g, f = g + 1 := ⟨f - 1, by omega⟩
  unfold followP
  by_cases h1 : m.seq - 1 ≤ q
  ·have h2 : m.seq - 1 = q := by omega
   rw [if_pos h1, if_pos h2]
   have hmT : m ∈ T := hp.mem_iff.2 (by simp)
   obtain ⟨k, hk⟩ : ∃ k, T.findIdx? (fun x => x.seq == q + 1) = some k := by
    cases hx : T.findIdx? (fun x => x.seq == q + 1) with
    | some k => exact ⟨k, rfl⟩
    | none =>
     rw [List.findIdx?_eq_none_iff] at hx
     have := hx m hmT
     have h3 : m.seq = q + 1 := by omega
     simp [h3] at this
   obtain ⟨x, hx1, hx2, hx3⟩ := find_get hk
   have hxm : x = m := asc_inj ha (hp.mem_iff.1 hx2) (by simp) (by omega)
   subst hxm
   have hq : q + 1 = x.seq := by omega
   have he := erase_perm hx1
   unfold onR
   rw [hk]
   dsimp only
   rw [hx1]
   dsimp only
   rw [hq]
   refine on_rel t (appV x V) x.seq _ f ?_ ?_ hc.2 hc.1
   ·have := he.length_eq; rw [List.length_cons] at this; omega
   ·exact List.Perm.cons_inv (he.symm.trans hp)
  ·rw [if_neg h1]
   have hn : T.findIdx? (fun x => x.seq == q + 1) = none := by
    rw [List.findIdx?_eq_none_iff]
    intro x hx
    have hx2 := hp.mem_iff.1 hx
    rcases List.mem_cons.1 hx2 with rfl | hx2
    ·simp; omega
    ·have := hc.1 x hx2
     simp; omega
   unfold onR
   rw [hn]
   refine ⟨rfl, rfl, hp, ha, fun x hx => ?_⟩
   dsimp only
   rcases List.mem_cons.1 hx with rfl | hx
   ·omega
   ·have := hc.1 x hx; omega
theorem follow_filter : ∀ (H : List Mg) (V : Vw) (q : Int), Asc H → followP H V q = followP (H.filter (fun m => decide (q < m.seq))) V q
 | [], _, _, _ => rfl
 | m :: t, V, q, ha => by
  have hc := List.pairwise_cons.1 ha
  by_cases h : q < m.seq
  ·have hall : ∀ x ∈ m :: t, decide (q < x.seq) = true := by
    intro x hx
    rcases List.mem_cons.1 hx with rfl | hx
    ·exact decide_eq_true h
    ·exact decide_eq_true (by have := hc.1 x hx; omega)
   rw [List.filter_eq_self.2 hall]
  ·rw [List.filter_cons_of_neg (by simpa using h), ← follow_filter t V q hc.2]
   conv => lhs; unfold followP
   rw [if_pos (by omega), if_neg (by omega)]
theorem has_perm {H T : List Mg} (hp : T.Perm H) (q : Int) : hasQ q T = hasQ q H := by
 unfold hasQ
 rw [Bool.eq_iff_iff, List.any_eq_true, List.any_eq_true]
 exact ⟨fun ⟨x, hx, h⟩ => ⟨x, hp.mem_iff.1 hx, h⟩, fun ⟨x, hx, h⟩ => ⟨x, hp.mem_iff.2 hx, h⟩⟩
theorem take_rel {n : Nat} {s t : LSt} {b : List Int} (h : Rel s t) : (takeR n t b).1 = (takeP n s b).1 ∧ Rel (takeP n s b).2 (takeR n t b).2 := by
 unfold takeR takeP
 cases hd : decM b with
 | none => exact ⟨rfl, h⟩
 | some m =>
  dsimp only
  rw [h.q, has_perm h.p, h.v, h.p.length_eq]
  split
  ·exact ⟨rfl, h⟩
  ·split
   ·exact ⟨rfl, h⟩
   ·rename_i hm hq
    split
    ·rename_i he
     refine ⟨rfl, on_rel _ _ _ _ _ (Nat.le_of_eq h.p.length_eq) h.p h.a fun x hx => ?_⟩
     have := h.g x hx; omega
    ·split
     ·exact ⟨rfl, h⟩
     ·rename_i hs hl
      refine ⟨rfl, rfl, rfl, ?_, ins_asc h.a (by cases hx : hasQ m.seq s.H with | false => rfl | true => exact absurd (.inr hx) hq), fun x hx => ?_⟩
      ·exact (List.perm_append_singleton m t.H).trans ((List.Perm.cons m h.p).trans (ins_perm m s.H).symm)
      ·rcases List.mem_cons.1 ((ins_perm m s.H).mem_iff.1 hx) with rfl | hx
       ·have := fun hx => hq (.inl hx)
        dsimp only; omega
       ·exact h.g x hx
theorem snap_rel {n : Nat} {s t : LSt} {b : List Int} (h : Rel s t) : (snapR n t b).1 = (snapP n s b).1 ∧ Rel (snapP n s b).2 (snapR n t b).2 := by
 unfold snapR snapP
 rw [h.q]
 split
 ·exact ⟨rfl, h⟩
 ·split
  ·exact ⟨rfl, h⟩
  ·split
   ·exact ⟨rfl, h⟩
   ·refine ⟨rfl, ?_⟩
    dsimp only
    rw [follow_filter s.H _ _ h.a]
    refine on_rel _ _ _ _ _ (Nat.le_refl _) (h.p.filter _) (List.Pairwise.filter _ h.a) fun x hx => ?_
    simpa using (List.mem_filter.1 hx).2
def newLs (n : Nat) : LSt := ⟨List.replicate n (zeroSd, zeroSd), 0, []⟩
theorem new_ok (n : Nat) : SOk n 0 (newLs n) :=
 ⟨List.length_replicate, fun p hp => by rw [(List.mem_replicate.1 hp).2]; exact ⟨List.Pairwise.nil, List.Pairwise.nil⟩, Int.le_refl 0, by show (0 : Int) ≤ 9223372036854775807; omega, fun m hm => by simp [newLs] at hm, Nat.le_refl 0, 0, fun p hp => by rw [(List.mem_replicate.1 hp).2]; exact ⟨Nat.le_refl 0, Nat.le_refl 0⟩, by simp [newLs]⟩
theorem new_rel (n : Nat) : Rel (newLs n) (newLs n) := ⟨rfl, rfl, List.Perm.nil, List.Pairwise.nil, fun m hm => by simp [newLs] at hm⟩
end Go.Proofs.Ytmaijkoopjocdaa

/- How bytes, messages, levels and views lie in memory. No function of the program in sight. -/
namespace Go.Proofs.Ytmaijkoopjocdaa
open Go.RowKit

theorem Blk.below {w w' : World} {g : Nat} {t : TypeId} {cs : Array Value} (h : Blk w g t cs) (hb : Below w.heap.size w w') : Blk w' g t cs := h.keeps (Below.keeps (F := fun _ => False) hb) (fun x => x)
theorem keep1 (w : World) (pr i : Nat) (u : Value) : Keeps (fun g => g = pr) w (w.setCell ⟨pr, i, none⟩ u) := (Keeps.refl (fun g => g = pr) w).setCell (p := ⟨pr, i, none⟩) (fun _ => rfl) u
/-! ### a whole struct stored -/
theorem Blk.fillN3 {w : World} {g : Nat} {t : TypeId} {x0 x1 x2 : Value} (h : Blk w g t #[x0, x1, x2]) (v0 v1 v2 : Value) : Blk (((w.setCell ⟨g, 0, none⟩ v0).setCell ⟨g, 1, none⟩ v1).setCell ⟨g, 2, none⟩ v2) g t #[v0, v1, v2] := by
 have h1 := (((h.set_ 0 v0).set_ 1 v1).set_ 2 v2)
 simp only [List.setIfInBounds_toArray, List.set_cons_zero, List.set_cons_succ] at h1
 exact h1
theorem Keeps.fillN3 (w : World) (g : Nat) (v0 v1 v2 : Value) : Keeps (fun k => k = g) w (((w.setCell ⟨g, 0, none⟩ v0).setCell ⟨g, 1, none⟩ v1).setCell ⟨g, 2, none⟩ v2) :=
 ((((Keeps.refl (fun k => k = g) w).setCell (p := ⟨g, 0, none⟩) (fun _ => rfl) v0).setCell (p := ⟨g, 1, none⟩) (fun _ => rfl) v1).setCell (p := ⟨g, 2, none⟩) (fun _ => rfl) v2)
theorem Blk.fillN5 {w : World} {g : Nat} {t : TypeId} {x0 x1 x2 x3 x4 : Value} (h : Blk w g t #[x0, x1, x2, x3, x4]) (v0 v1 v2 v3 v4 : Value) : Blk (((((w.setCell ⟨g, 0, none⟩ v0).setCell ⟨g, 1, none⟩ v1).setCell ⟨g, 2, none⟩ v2).setCell ⟨g, 3, none⟩ v3).setCell ⟨g, 4, none⟩ v4) g t #[v0, v1, v2, v3, v4] := by
 have h1 := (((((h.set_ 0 v0).set_ 1 v1).set_ 2 v2).set_ 3 v3).set_ 4 v4)
 simp only [List.setIfInBounds_toArray, List.set_cons_zero, List.set_cons_succ] at h1
 exact h1
theorem Keeps.fillN5 (w : World) (g : Nat) (v0 v1 v2 v3 v4 : Value) : Keeps (fun k => k = g) w (((((w.setCell ⟨g, 0, none⟩ v0).setCell ⟨g, 1, none⟩ v1).setCell ⟨g, 2, none⟩ v2).setCell ⟨g, 3, none⟩ v3).setCell ⟨g, 4, none⟩ v4) :=
 ((((((Keeps.refl (fun k => k = g) w).setCell (p := ⟨g, 0, none⟩) (fun _ => rfl) v0).setCell (p := ⟨g, 1, none⟩) (fun _ => rfl) v1).setCell (p := ⟨g, 2, none⟩) (fun _ => rfl) v2).setCell (p := ⟨g, 3, none⟩) (fun _ => rfl) v3).setCell (p := ⟨g, 4, none⟩) (fun _ => rfl) v4)
theorem Blk.fillN7 {w : World} {g : Nat} {t : TypeId} {x0 x1 x2 x3 x4 x5 x6 : Value} (h : Blk w g t #[x0, x1, x2, x3, x4, x5, x6]) (v0 v1 v2 v3 v4 v5 v6 : Value) : Blk (((((((w.setCell ⟨g, 0, none⟩ v0).setCell ⟨g, 1, none⟩ v1).setCell ⟨g, 2, none⟩ v2).setCell ⟨g, 3, none⟩ v3).setCell ⟨g, 4, none⟩ v4).setCell ⟨g, 5, none⟩ v5).setCell ⟨g, 6, none⟩ v6) g t #[v0, v1, v2, v3, v4, v5, v6] := by
 have h1 := (((((((h.set_ 0 v0).set_ 1 v1).set_ 2 v2).set_ 3 v3).set_ 4 v4).set_ 5 v5).set_ 6 v6)
 simp only [List.setIfInBounds_toArray, List.set_cons_zero, List.set_cons_succ] at h1
 exact h1
theorem Keeps.fillN7 (w : World) (g : Nat) (v0 v1 v2 v3 v4 v5 v6 : Value) : Keeps (fun k => k = g) w (((((((w.setCell ⟨g, 0, none⟩ v0).setCell ⟨g, 1, none⟩ v1).setCell ⟨g, 2, none⟩ v2).setCell ⟨g, 3, none⟩ v3).setCell ⟨g, 4, none⟩ v4).setCell ⟨g, 5, none⟩ v5).setCell ⟨g, 6, none⟩ v6) :=
 ((((((((Keeps.refl (fun k => k = g) w).setCell (p := ⟨g, 0, none⟩) (fun _ => rfl) v0).setCell (p := ⟨g, 1, none⟩) (fun _ => rfl) v1).setCell (p := ⟨g, 2, none⟩) (fun _ => rfl) v2).setCell (p := ⟨g, 3, none⟩) (fun _ => rfl) v3).setCell (p := ⟨g, 4, none⟩) (fun _ => rfl) v4).setCell (p := ⟨g, 5, none⟩) (fun _ => rfl) v5).setCell (p := ⟨g, 6, none⟩) (fun _ => rfl) v6)
/-! ### bytes -/
def byteC (x : Int) : List Value := [.int .u8 x]
theorem byteC_ones (x : Int) : ∀ u ∈ byteC x, u.oneCell' = true := by
 intro u hu
 simp only [byteC, List.mem_singleton] at hu
 rw [hu]; rfl
def BYL : Lay Int := ⟨byteC, 1, fun _ => rfl, byteC_ones, by omega, 5, 35, .int .u8 0, 1, Try.underlying35, by kernel_rfl, by rfl, by omega⟩
/-! ### levels, messages -/
def Lv.cells (x : Lv) : List Value := [.int .i64 x.price, .int .i64 x.qty, .int .i64 x.count]
def Mg.cells (x : Mg) : List Value := [.int .i64 x.seq, .int .i64 x.inst, .int .i64 x.side, .int .i64 x.price, .int .i64 x.qty, .int .i64 x.count, .bool x.imp]
def zeroMg : Mg := ⟨0, 0, 0, 0, 0, 0, false⟩
theorem Lv.ones (x : Lv) : ∀ u ∈ x.cells, u.oneCell' = true := by
 intro u hu
 simp only [Lv.cells, List.mem_cons, List.not_mem_nil, or_false] at hu
 rcases hu with rfl | rfl | rfl <;> rfl
theorem Mg.ones (x : Mg) : ∀ u ∈ x.cells, u.oneCell' = true := by
 intro u hu
 simp only [Mg.cells, List.mem_cons, List.not_mem_nil, or_false] at hu
 rcases hu with rfl | rfl | rfl | rfl | rfl | rfl | rfl <;> rfl
def LVL : Lay Lv := ⟨Lv.cells, 3, fun _ => rfl, Lv.ones, by omega, 92, 91, .agg zeroLv.cells.toArray, 24, Try.underlying91, by kernel_rfl, by rfl, by omega⟩
def RLV : Lay Lv := ⟨Lv.cells, 3, fun _ => rfl, Lv.ones, by omega, 79, 77, .agg zeroLv.cells.toArray, 24, Try.underlying77, by kernel_rfl, by rfl, by omega⟩
def MSG : Lay Mg := ⟨Mg.cells, 7, fun _ => rfl, Mg.ones, by omega, 34, 51, .agg zeroMg.cells.toArray, 56, Try.underlying51, by kernel_rfl, by rfl, by omega⟩
/-! ### sides, as their cells are -/
structure Sh where
 a : Option Addr
 n : Nat
 c : Nat
 im : Lv
 has : Bool
structure Pr where
 s : Sh
 t : Sh
def Sh.cells (x : Sh) : List Value := [.slice x.a x.n x.c, .int .i64 x.im.price, .int .i64 x.im.qty, .int .i64 x.im.count, .bool x.has]
def Pr.cells (p : Pr) : List Value := [.slice p.s.a p.s.n p.s.c, .int .i64 p.s.im.price, .int .i64 p.s.im.qty, .int .i64 p.s.im.count, .bool p.s.has, .slice p.t.a p.t.n p.t.c, .int .i64 p.t.im.price, .int .i64 p.t.im.qty, .int .i64 p.t.im.count, .bool p.t.has]
def zeroSh : Sh := ⟨none, 0, 0, zeroLv, false⟩
def zeroPr : Pr := ⟨zeroSh, zeroSh⟩
theorem Sh.ones (x : Sh) : ∀ u ∈ x.cells, u.oneCell' = true := by
 intro u hu
 simp only [Sh.cells, List.mem_cons, List.not_mem_nil, or_false] at hu
 rcases hu with rfl | rfl | rfl | rfl | rfl <;> rfl
theorem Pr.ones (x : Pr) : ∀ u ∈ x.cells, u.oneCell' = true := by
 intro u hu
 simp only [Pr.cells, List.mem_cons, List.not_mem_nil, or_false] at hu
 rcases hu with rfl | rfl | rfl | rfl | rfl | rfl | rfl | rfl | rfl | rfl <;> rfl
def PRL : Lay Pr := ⟨Pr.cells, 10, fun _ => rfl, Pr.ones, by omega, 95, 48, .agg zeroPr.cells.toArray, 112, Try.underlying48, by kernel_rfl, by rfl, by omega⟩
def RPR : Lay Pr := ⟨Pr.cells, 10, fun _ => rfl, Pr.ones, by omega, 82, 42, .agg zeroPr.cells.toArray, 112, Try.underlying42, by kernel_rfl, by rfl, by omega⟩
/-- a side as it lies, and its levels -/
structure ShO (Y : Lay Lv) (w : World) (B : Nat) (s : Sh) (d : Sd) : Prop where
 n : s.n = d.lv.length
 row : Y.Row w B (.slice s.a s.n s.c) d.lv
 im : s.im = d.im
 has : s.has = d.has
/-- a view -/
def VO (Z : Lay Pr) (Y : Lay Lv) (w : World) (B : Nat) (v : Value) (V : Vw) : Prop :=
 ∃ P : List Pr, Z.Row w B v P ∧ P.length = V.length ∧ ∀ (j : Nat) (p : Pr) (x : Sd × Sd), P[j]? = some p → V[j]? = some x → ShO Y w B p.s x.1 ∧ ShO Y w B p.t x.2
section
variable {α : Type} {X : Lay α} {Z : Lay Pr} {Y : Lay Lv} {w w' : World} {B B' : Nat} {v : Value} {V : Vw} {s : Sh} {d : Sd} {F : Nat → Prop} {L : List α}
theorem Lay.Row.base (h : X.Row w B v L) (hB : B' ≤ B) : X.Row w B' v L := by
 obtain ⟨h1, h2⟩ := h
 refine ⟨h1, ?_⟩
 rcases h2 with h2 | ⟨g, cap, cur, hv, hb, r⟩
 ·exact .inl h2
 ·exact .inr ⟨g, cap, cur, hv, Nat.le_trans hB hb, r⟩
theorem Lay.Row.keep (h : X.Row w B v L) (hk : Keeps F w w') (hf : ∀ g, Tyd w g X.t → ¬ F g) : X.Row w' B v L := own_keep h hk fun g hg => hf g (own_tyd h g hg)
theorem Lay.Row.keep' (h : X.Row w B v L) (hk : Keeps F w w') (hf : ∀ g, v.ownBlock = some g → ¬ F g) : X.Row w' B v L := own_keep h hk hf
theorem ShO.below (h : ShO Y w B s d) (hb : Below w.heap.size w w') : ShO Y w' B s d := ⟨h.n, h.row.below hb, h.im, h.has⟩
theorem ShO.base (h : ShO Y w B s d) (hB : B' ≤ B) : ShO Y w B' s d := ⟨h.n, h.row.base hB, h.im, h.has⟩
theorem ShO.keep (h : ShO Y w B s d) (hk : Keeps F w w') (hf : ∀ g, Tyd w g Y.t → ¬ F g) : ShO Y w' B s d := ⟨h.n, h.row.keep hk hf, h.im, h.has⟩
theorem ShO.zero (w : World) (B : Nat) : ShO Y w B zeroSh zeroSd := ⟨rfl, Lay.Row.nil w B, rfl, rfl⟩
theorem VO.below (h : VO Z Y w B v V) (hb : Below w.heap.size w w') : VO Z Y w' B v V := by
 obtain ⟨P, h1, h2, h3⟩ := h
 exact ⟨P, h1.below hb, h2, fun j p x hp hx => ⟨(h3 j p x hp hx).1.below hb, (h3 j p x hp hx).2.below hb⟩⟩
theorem VO.base (h : VO Z Y w B v V) (hB : B' ≤ B) : VO Z Y w B' v V := by
 obtain ⟨P, h1, h2, h3⟩ := h
 exact ⟨P, h1.base hB, h2, fun j p x hp hx => ⟨(h3 j p x hp hx).1.base hB, (h3 j p x hp hx).2.base hB⟩⟩
theorem VO.keep (h : VO Z Y w B v V) (hk : Keeps F w w') (hz : ∀ g, Tyd w g Z.t → ¬ F g) (hy : ∀ g, Tyd w g Y.t → ¬ F g) : VO Z Y w' B v V := by
 obtain ⟨P, h1, h2, h3⟩ := h
 exact ⟨P, h1.keep hk hz, h2, fun j p x hp hx => ⟨(h3 j p x hp hx).1.keep hk hy, (h3 j p x hp hx).2.keep hk hy⟩⟩
theorem VO.form (h : VO Z Y w B v V) : ∃ a c, v = .slice a V.length c := by
 obtain ⟨P, h1, h2, _⟩ := h
 obtain ⟨a, c, e⟩ := h1.form
 exact ⟨a, c, by rw [e, h2]⟩
theorem VO.nil (w : World) (B : Nat) : VO Z Y w B (.slice none 0 0) [] := ⟨[], Lay.Row.nil w B, rfl, fun j p x hp => by simp at hp⟩
theorem VO.get (h : VO Z Y w B v V) {j : Nat} {x : Sd × Sd} (hj : V[j]? = some x) : ∃ (g cap : Nat) (p : Pr), v = .slice (some ⟨g, 0, none⟩) V.length cap ∧ g < w.heap.size ∧ CellsAt w g (j * Z.m) (Z.cells p) ∧ ShO Y w B p.s x.1 ∧ ShO Y w B p.t x.2 := by
 obtain ⟨P, h1, h2, h3⟩ := h
 have hl := lt_of_get hj
 have hp : P[j]? = some (P[j]'(by omega)) := List.getElem?_eq_getElem (by omega)
 obtain ⟨g, cap, e1, e2, e3⟩ := h1.at_ j _ hp
 obtain ⟨a, b⟩ := h3 j _ x hp hj
 exact ⟨g, cap, _, by rw [e1, h2], e2, e3, a, b⟩
/-- a byte that lies -/
theorem CellsAt.one {b o : Nat} {x : Int} (h : CellsAt w b o (byteC x)) : w.cell? ⟨b, o, none⟩ = some (.int .u8 x) := h 0 _ rfl
end
end Go.Proofs.Ytmaijkoopjocdaa

/- A slice that is read; slices.Clone at bytes, levels, sides and messages. -/
namespace Go.Proofs.Ytmaijkoopjocdaa
open Go.RowKit

/-- a slice's head that may be -/
def SlOk (a : Option Addr) (n c : Nat) : Prop := (a = none → n = 0 ∧ c = 0) ∧ (∀ ad, a = some ad → ∃ b off, ad = ⟨b, off, none⟩) ∧ n ≤ c
section
variable {α : Type} {Y : Lay α} {w w' : World} {B : Nat} {v : Value} {L : List α} {F : Nat → Prop}
/-- a slice that reads as a list -/
def Lay.Sl (Y : Lay α) (w : World) (v : Value) (L : List α) : Prop := ∃ a c, v = .slice a L.length c ∧ SlOk a L.length c ∧ Y.Rd w a L
theorem Lay.Row.sl (h : Y.Row w B v L) : Y.Sl w v L := by
 obtain ⟨a, c, hv, hac, hrd⟩ := h.rd
 refine ⟨a, c, hv, ⟨fun ha => ?_, fun ad ha => ?_, ?_⟩, hrd⟩
 ·refine ⟨?_, hac ha⟩
  rcases h.2 with ⟨h1, h2⟩ | ⟨g, cap, cur, h1, _⟩
  ·exact h2
  ·rw [hv, ha] at h1; injection h1 with h1; cases h1
 ·rcases h.2 with ⟨h1, h2⟩ | ⟨g, cap, cur, h1, _⟩
  ·rw [hv, ha] at h1; injection h1 with h1; cases h1
  ·rw [hv, ha] at h1; injection h1 with h1; injection h1 with h1; exact ⟨g, 0, h1⟩
 ·rcases h.2 with ⟨h1, h2⟩ | ⟨g, cap, cur, h1, _, _, h3, _⟩
  ·omega
  ·rw [hv] at h1; injection h1 with _ _ h1; rw [h1]; exact h3
theorem Lay.Sl.below (h : Y.Sl w v L) (hb : Below w.heap.size w w') : Y.Sl w' v L := by
 obtain ⟨a, c, h1, h2, h3⟩ := h
 exact ⟨a, c, h1, h2, h3.below hb⟩
theorem Lay.Sl.nil : Y.Sl w (.slice none 0 0) [] := ⟨none, 0, rfl, ⟨fun _ => ⟨rfl, rfl⟩, fun _ h => (by cases h), Nat.le_refl 0⟩, Lay.Rd.nil⟩
/-- an element that is read -/
theorem Lay.Sl.get {k : Nat} {x : α} (h : Y.Sl w v L) (hk : L[k]? = some x) : ∃ b off c, v = .slice (some ⟨b, off, none⟩) L.length c ∧ b < w.heap.size ∧ CellsAt w b (off + k * Y.m) (Y.cells x) := by
 obtain ⟨a, c, h1, _, h3⟩ := h
 obtain ⟨b, off, rfl, h4, h5⟩ := h3 k x hk
 exact ⟨b, off, c, h1, h4, h5⟩
end
set_option maxRecDepth 20000 in
set_option maxHeartbeats 2000000 in
theorem clone_byte {w : World} {v : Value} {L : List Int} (h : BYL.Sl w v L) (hl : L.length ≤ 900000) :
  Calls Try.prog 73 #[v] w fun e w' => ∃ v', e = .returned v' ∧ BYL.Row w' w.heap.size v' L ∧ Below w.heap.size w w' := by
 obtain ⟨a, c, rfl, ho, hrd⟩ := h
 cases a with
 | none =>
  obtain ⟨h0, rfl⟩ := ho.1 rfl
  obtain rfl : L = [] := List.length_eq_zero_iff.1 h0
  have qT : ∀ (w : World) (a : Option Addr) (n c : Nat), (binOp .eql 35 (.slice a n c) (.slice none 0 0)).run Try.prog w = .ok (.bool a.isNone) w := fun w a n c => Lib.run_eql_slice_nil w _ _ a n c 0 0 Try.underlying35
  go_enter Try.func73, Try.ntmps73
  go_wp2_with fail
  go_ret
  exact ⟨_, rfl, Lay.Row.nil _ _, Below.refl _ _⟩
 | some ad =>
  obtain ⟨b, off, rfl⟩ := ho.2.1 _ rfl
  have H0 := Lib.hid (Lay.Row.empty (Y := BYL) w)
  have HB := Lib.hid (Below.allocN w (.cells #[] 5))
  have HR := Lib.hid (hrd.below HB.out)
  have HL := Lib.hid hl
  clear hrd ho hl
  have qT : ∀ (w : World) (a : Option Addr) (n c : Nat), (binOp .eql 35 (.slice a n c) (.slice none 0 0)).run Try.prog w = .ok (.bool a.isNone) w := fun w a n c => Lib.run_eql_slice_nil w _ _ a n c 0 0 Try.underlying35
  go_enter Try.func73, Try.ntmps73
  go_wp2_with (first
   | (at_builtin; go_loud (refine BYL.pushes rfl (.tmp 5) (.tmp 6) rfl w.heap.size (.slice (some ⟨w.heap.size, 0, none⟩) 0 0) [] rfl H0.out (some ⟨b, off, none⟩) c L rfl (fun h => by cases h) HR.out (fun ad h => by injection h with h; exact ⟨b, off, h.symm⟩) (by have := HL.out; simp; omega) HB.out.size ?_)))
  intro v' w6 hr6 hg6 ho6
  have HR6 := Lib.hid hr6
  have HB6 := Lib.hid (grown_below hg6 HB.out (own_base H0.out))
  clear hr6 hg6 ho6
  go_wp2_with fail
  go_ret
  exact ⟨_, rfl, HR6.out, HB6.out⟩
set_option maxRecDepth 20000 in
set_option maxHeartbeats 2000000 in
theorem clone_lvl {w : World} {v : Value} {L : List Lv} (h : LVL.Sl w v L) (hl : L.length ≤ 900000) :
  Calls Try.prog 84 #[v] w fun e w' => ∃ v', e = .returned v' ∧ LVL.Row w' w.heap.size v' L ∧ Below w.heap.size w w' := by
 obtain ⟨a, c, rfl, ho, hrd⟩ := h
 cases a with
 | none =>
  obtain ⟨h0, rfl⟩ := ho.1 rfl
  obtain rfl : L = [] := List.length_eq_zero_iff.1 h0
  have qT : ∀ (w : World) (a : Option Addr) (n c : Nat), (binOp .eql 91 (.slice a n c) (.slice none 0 0)).run Try.prog w = .ok (.bool a.isNone) w := fun w a n c => Lib.run_eql_slice_nil w _ _ a n c 0 0 Try.underlying91
  go_enter Try.func84, Try.ntmps84
  go_wp2_with fail
  go_ret
  exact ⟨_, rfl, Lay.Row.nil _ _, Below.refl _ _⟩
 | some ad =>
  obtain ⟨b, off, rfl⟩ := ho.2.1 _ rfl
  have H0 := Lib.hid (Lay.Row.empty (Y := LVL) w)
  have HB := Lib.hid (Below.allocN w (.cells #[] 92))
  have HR := Lib.hid (hrd.below HB.out)
  have HL := Lib.hid hl
  clear hrd ho hl
  have qT : ∀ (w : World) (a : Option Addr) (n c : Nat), (binOp .eql 91 (.slice a n c) (.slice none 0 0)).run Try.prog w = .ok (.bool a.isNone) w := fun w a n c => Lib.run_eql_slice_nil w _ _ a n c 0 0 Try.underlying91
  go_enter Try.func84, Try.ntmps84
  go_wp2_with (first
   | (at_builtin; go_loud (refine LVL.pushes rfl (.tmp 5) (.tmp 6) rfl w.heap.size (.slice (some ⟨w.heap.size, 0, none⟩) 0 0) [] rfl H0.out (some ⟨b, off, none⟩) c L rfl (fun h => by cases h) HR.out (fun ad h => by injection h with h; exact ⟨b, off, h.symm⟩) (by have := HL.out; simp; omega) HB.out.size ?_)))
  intro v' w6 hr6 hg6 ho6
  have HR6 := Lib.hid hr6
  have HB6 := Lib.hid (grown_below hg6 HB.out (own_base H0.out))
  clear hr6 hg6 ho6
  go_wp2_with fail
  go_ret
  exact ⟨_, rfl, HR6.out, HB6.out⟩
set_option maxRecDepth 20000 in
set_option maxHeartbeats 2000000 in
theorem clone_pr {w : World} {v : Value} {L : List Pr} (h : PRL.Sl w v L) (hl : L.length ≤ 900000) :
  Calls Try.prog 83 #[v] w fun e w' => ∃ v', e = .returned v' ∧ PRL.Row w' w.heap.size v' L ∧ Below w.heap.size w w' := by
 obtain ⟨a, c, rfl, ho, hrd⟩ := h
 cases a with
 | none =>
  obtain ⟨h0, rfl⟩ := ho.1 rfl
  obtain rfl : L = [] := List.length_eq_zero_iff.1 h0
  have qT : ∀ (w : World) (a : Option Addr) (n c : Nat), (binOp .eql 48 (.slice a n c) (.slice none 0 0)).run Try.prog w = .ok (.bool a.isNone) w := fun w a n c => Lib.run_eql_slice_nil w _ _ a n c 0 0 Try.underlying48
  go_enter Try.func83, Try.ntmps83
  go_wp2_with fail
  go_ret
  exact ⟨_, rfl, Lay.Row.nil _ _, Below.refl _ _⟩
 | some ad =>
  obtain ⟨b, off, rfl⟩ := ho.2.1 _ rfl
  have H0 := Lib.hid (Lay.Row.empty (Y := PRL) w)
  have HB := Lib.hid (Below.allocN w (.cells #[] 95))
  have HR := Lib.hid (hrd.below HB.out)
  have HL := Lib.hid hl
  clear hrd ho hl
  have qT : ∀ (w : World) (a : Option Addr) (n c : Nat), (binOp .eql 48 (.slice a n c) (.slice none 0 0)).run Try.prog w = .ok (.bool a.isNone) w := fun w a n c => Lib.run_eql_slice_nil w _ _ a n c 0 0 Try.underlying48
  go_enter Try.func83, Try.ntmps83
  go_wp2_with (first
   | (at_builtin; go_loud (refine PRL.pushes rfl (.tmp 5) (.tmp 6) rfl w.heap.size (.slice (some ⟨w.heap.size, 0, none⟩) 0 0) [] rfl H0.out (some ⟨b, off, none⟩) c L rfl (fun h => by cases h) HR.out (fun ad h => by injection h with h; exact ⟨b, off, h.symm⟩) (by have := HL.out; simp; omega) HB.out.size ?_)))
  intro v' w6 hr6 hg6 ho6
  have HR6 := Lib.hid hr6
  have HB6 := Lib.hid (grown_below hg6 HB.out (own_base H0.out))
  clear hr6 hg6 ho6
  go_wp2_with fail
  go_ret
  exact ⟨_, rfl, HR6.out, HB6.out⟩
set_option maxRecDepth 20000 in
set_option maxHeartbeats 2000000 in
theorem clone_msg {w : World} {v : Value} {L : List Mg} (h : MSG.Sl w v L) (hl : L.length ≤ 900000) :
  Calls Try.prog 53 #[v] w fun e w' => ∃ v', e = .returned v' ∧ MSG.Row w' w.heap.size v' L ∧ Below w.heap.size w w' := by
 obtain ⟨a, c, rfl, ho, hrd⟩ := h
 cases a with
 | none =>
  obtain ⟨h0, rfl⟩ := ho.1 rfl
  obtain rfl : L = [] := List.length_eq_zero_iff.1 h0
  have qT : ∀ (w : World) (a : Option Addr) (n c : Nat), (binOp .eql 51 (.slice a n c) (.slice none 0 0)).run Try.prog w = .ok (.bool a.isNone) w := fun w a n c => Lib.run_eql_slice_nil w _ _ a n c 0 0 Try.underlying51
  go_enter Try.func53, Try.ntmps53
  go_wp2_with fail
  go_ret
  exact ⟨_, rfl, Lay.Row.nil _ _, Below.refl _ _⟩
 | some ad =>
  obtain ⟨b, off, rfl⟩ := ho.2.1 _ rfl
  have H0 := Lib.hid (Lay.Row.empty (Y := MSG) w)
  have HB := Lib.hid (Below.allocN w (.cells #[] 34))
  have HR := Lib.hid (hrd.below HB.out)
  have HL := Lib.hid hl
  clear hrd ho hl
  have qT : ∀ (w : World) (a : Option Addr) (n c : Nat), (binOp .eql 51 (.slice a n c) (.slice none 0 0)).run Try.prog w = .ok (.bool a.isNone) w := fun w a n c => Lib.run_eql_slice_nil w _ _ a n c 0 0 Try.underlying51
  go_enter Try.func53, Try.ntmps53
  go_wp2_with (first
   | (at_builtin; go_loud (refine MSG.pushes rfl (.tmp 5) (.tmp 6) rfl w.heap.size (.slice (some ⟨w.heap.size, 0, none⟩) 0 0) [] rfl H0.out (some ⟨b, off, none⟩) c L rfl (fun h => by cases h) HR.out (fun ad h => by injection h with h; exact ⟨b, off, h.symm⟩) (by have := HL.out; simp; omega) HB.out.size ?_)))
  intro v' w6 hr6 hg6 ho6
  have HR6 := Lib.hid hr6
  have HB6 := Lib.hid (grown_below hg6 HB.out (own_base H0.out))
  clear hr6 hg6 ho6
  go_wp2_with fail
  go_ret
  exact ⟨_, rfl, HR6.out, HB6.out⟩
end Go.Proofs.Ytmaijkoopjocdaa

/- Rows that are shifted: what two copies leave. No function of the program in sight. -/
namespace Go.Proofs.Ytmaijkoopjocdaa
open Go.RowKit

/-! ### two copies into a row -/
theorem ins_a {α : Type} {P X D cur : List α} {a : Nat} (hP : cur.take a = P) (ha : a + X.length + D.length ≤ cur.length) :
  ((cur.take (a + X.length) ++ D ++ cur.drop (a + X.length + D.length)).take a ++ X ++ (cur.take (a + X.length) ++ D ++ cur.drop (a + X.length + D.length)).drop (a + X.length)) = P ++ X ++ D ++ cur.drop (a + X.length + D.length) := by
 have h1 : (cur.take (a + X.length)).length = a + X.length := by rw [List.length_take]; omega
 have e1 : (cur.take (a + X.length) ++ D ++ cur.drop (a + X.length + D.length)).take a = P := by
  rw [List.append_assoc, List.take_append_of_le_length (by omega), List.take_take, Nat.min_eq_left (by omega), hP]
 have e2 : (cur.take (a + X.length) ++ D ++ cur.drop (a + X.length + D.length)).drop (a + X.length) = D ++ cur.drop (a + X.length + D.length) := by
  rw [List.append_assoc, List.drop_append, List.drop_eq_nil_of_le (by omega), h1, Nat.sub_self, List.nil_append]; rfl
 rw [e1, e2]
 simp
theorem ins_b {α : Type} {P X D cur : List α} {a : Nat} (hP : cur.take a = P) (ha : a + X.length + D.length ≤ cur.length) :
  ((cur.take a ++ X ++ cur.drop (a + X.length)).take (a + X.length) ++ D ++ (cur.take a ++ X ++ cur.drop (a + X.length)).drop (a + X.length + D.length)) = P ++ X ++ D ++ cur.drop (a + X.length + D.length) := by
 have h1 : (cur.take a ++ X).length = a + X.length := by rw [List.length_append, List.length_take]; omega
 have e1 : (cur.take a ++ X ++ cur.drop (a + X.length)).take (a + X.length) = P ++ X := by
  rw [List.take_append_of_le_length (by omega), List.take_of_length_le (by omega), hP]
 have e2 : (cur.take a ++ X ++ cur.drop (a + X.length)).drop (a + X.length + D.length) = cur.drop (a + X.length + D.length) := by
  rw [List.drop_append, List.drop_eq_nil_of_le (by omega), List.nil_append, h1, List.drop_drop]
  congr 1; omega
 rw [e1, e2]
theorem keeps_row (w : World) (g : Nat) (cs : Array Value) : Keeps (fun k => k = g) w (w.setRow g cs) := ⟨rfl, rfl, rfl, by simp, fun k _ h => setRow_other w g k cs h⟩
theorem Blk.row {w : World} {g : Nat} {t : TypeId} {cs : Array Value} (h : Blk w g t cs) (cs' : Array Value) : Blk (w.setRow g cs') g t cs' := setRow_heap w g cs cs' t (0, 0) h
theorem step_eq {w : World} {ops : Array Oper} {o : Oper} {a : Act} {K : Act → World → Prop} {Q : Exit → Act → World → Prop} {E : Prop} (hgd : o.guard = none) (s x : Operand) (t t' : TypeId)
  (ho : o.op = .call { callee := .builtin .append, args := #[s, x], argTypes := #[t, t'] }) (u v : Value) (hs : a.eval s = u) (hx : a.eval x = v) {v' : Value} {w' : World}
  (hr : (Builtin.append_ #[t, t'] o.type #[u, v]).run Try.prog w = .ok v' w') (h : K (a.put o.dst v') w') : if Region.wanted o (yielded ops a.tmps) = true then Oper.wp Try.prog o a w K Q else E := by
 have hw : Region.wanted o (yielded ops a.tmps) = true := by simp [Region.wanted, hgd]
 rw [if_pos hw]
 unfold Oper.wp execOp
 simp only [ho, resolve, invoke, builtin, Sem.run_bind, Sem.run_pure, Result.andThen_ok, List.map_toArray, List.map_cons, List.map_nil, hs, hx, hr]
 exact h
end Go.Proofs.Ytmaijkoopjocdaa

/- Bytes that are read: the walks of wire.NewReader, take, get, Byte, Long, End. -/
namespace Go.Proofs.Ytmaijkoopjocdaa
open Go.RowKit Go.Lib

/-- a reader of the call's own -/
structure RDR (W w : World) (pr : Nat) (s : RS) : Prop where
 box : ∃ a c, Blk w pr 129 #[.slice a s.bs.length c, .bool s.bad] ∧ SlOk a s.bs.length c ∧ s.bs.length ≤ c ∧ BYL.Rd w a s.bs ∧ (∀ b off, a = some ⟨b, off, none⟩ → Tyd w b 5)
 base : W.heap.size ≤ pr
 bel : Below W.heap.size W w
 ok : s.ok
 len : s.bs.length ≤ 900000
section
variable {W w w' : World} {pr : Nat} {s : RS}
theorem BYL_keep {w w' : World} {a : Option Addr} {L : List Int} {F : Nat → Prop} (h : BYL.Rd w a L) (hk : Keeps F w w') (hf : ∀ b off, a = some ⟨b, off, none⟩ → L ≠ [] → ¬ F b) : BYL.Rd w' a L := by
 intro j e hj
 obtain ⟨b, off, h1, h2, h3⟩ := h j e hj
 exact ⟨b, off, h1, Nat.lt_of_lt_of_le h2 hk.size, h3.keeps hk h2 (hf b off h1 (by rintro rfl; simp at hj))⟩
theorem Tyd.lt {w : World} {g : Nat} {t : TypeId} (h : Tyd w g t) : g < w.heap.size := by
 obtain ⟨cs, h⟩ := h
 exact Blk.lt h
theorem Tyd.keep {w w' : World} {g : Nat} {t : TypeId} {F : Nat → Prop} (h : Tyd w g t) (hk : Keeps F w w') (hf : ¬ F g) : Tyd w' g t := by
 obtain ⟨cs, h⟩ := h
 exact ⟨cs, Blk.keeps h hk hf⟩
theorem RDR.keep {F : Nat → Prop} (h : RDR W w pr s) (hk : Keeps F w w') (hp : ¬ F pr) (hf : ∀ b, Tyd w b 5 → ¬ F b) (hF : ∀ k, F k → W.heap.size ≤ k) : RDR W w' pr s := by
 obtain ⟨⟨a, c, h1, h2, hc, h3, h4⟩, h5, h6, h7, h8⟩ := h
 exact ⟨⟨a, c, h1.keeps hk hp, h2, hc, BYL_keep h3 hk fun b off e _ => hf b (h4 b off e), fun b off e => (h4 b off e).keep hk (hf b (h4 b off e))⟩, h5, h6.trans (hk.below hF h6.size), h7, h8⟩
theorem RDR.below (h : RDR W w pr s) (hb : Below w.heap.size w w') : RDR W w' pr s :=
 h.keep (F := fun _ => False) (Below.keeps hb) (fun h => h) (fun _ _ h => h) (fun _ h => h.elim)
theorem RDR.ne {a : Option Addr} {c : Nat} {bs : List Int} {v : Value} (h : Blk w pr 129 #[.slice a bs.length c, v]) (ht : ∀ b off, a = some ⟨b, off, none⟩ → Tyd w b 5) : ∀ b off, a = some ⟨b, off, none⟩ → b ≠ pr := fun b off e => (ht b off e).ne h.tyd (by decide)
theorem SlOk.drop {b off n c k : Nat} (hn : n ≤ c - k) : SlOk (if c = k then some (⟨b, off, none⟩ : Addr) else some ⟨b, off + k, none⟩) n (c - k) := by
 refine ⟨?_, ?_, hn⟩
 ·intro h; split at h <;> cases h
 ·intro ad h
  split at h <;> (injection h with h; subst h; exact ⟨_, _, rfl⟩)
theorem rd_take {a : Option Addr} {L : List Int} (h : BYL.Rd w a L) (k : Nat) : BYL.Rd w a (L.take k) := h.take k
theorem rd_drop {b off : Nat} {L : List Int} {c k : Nat} (h : BYL.Rd w (some ⟨b, off, none⟩) L) (hc : L.length ≤ c) : BYL.Rd w (if c = k then some ⟨b, off, none⟩ else some ⟨b, off + k, none⟩) (L.drop k) := by
 intro j e hj
 have hl := lt_of_get hj
 rw [List.length_drop] at hl
 rw [if_neg (by omega)]
 rw [List.getElem?_drop] at hj
 obtain ⟨b', off', h1, h2, h3⟩ := h _ e hj
 have e1 : b = b' ∧ off = off' := by injection h1 with h1; injection h1 with x y; exact ⟨x, y⟩
 obtain ⟨rfl, rfl⟩ := e1
 refine ⟨b, off + k, rfl, h2, ?_⟩
 rw [show off + k + j * BYL.m = off + (k + j) * BYL.m by show off + k + j * 1 = off + (k + j) * 1; omega]
 exact h3
set_option maxRecDepth 20000 in
set_option maxHeartbeats 4000000 in
theorem rtake_any (h : RDR W w pr s) (n : Nat) (hn : 1 ≤ n) (hn8 : n ≤ 8) :
  Calls Try.prog 89 #[.pointer (some ⟨pr, 0, none⟩), .int .i64 n] w fun e w' => ∃ v, e = .returned v ∧ BYL.Sl w' v (s.take n).1 ∧ RDR W w' pr (s.take n).2 ∧ Keeps (fun g => g = pr) w w' := by
 obtain ⟨bs, bad⟩ := s
 obtain ⟨⟨a, c, hb, ho, hlc, hrd, hty⟩, h5, h6, h7, h8⟩ := h
 dsimp only at *
 have hne := RDR.ne hb hty
 have c0 : w.cell? ⟨pr, 0, none⟩ = some (.slice a bs.length c) := hb.cell 0
 have c1 : w.cell? ⟨pr, 1, none⟩ = some (.bool bad) := hb.cell 1
 have fz : ∀ o, w.frozen? ⟨pr, o, none⟩ = false := fun o => hb.frozen o
 have hbad : RDR W (w.setCell ⟨pr, 1, none⟩ (.bool true)) pr ⟨bs, true⟩ := by
  have hk := keep1 w pr 1 (.bool true)
  exact ⟨⟨a, c, hb.set_ 1 (.bool true), ho, hlc, BYL_keep hrd hk fun b off e _ => hne b off e, fun b off e => (hty b off e).keep hk (hne b off e)⟩, h5, h6.setCell (p := ⟨pr, 1, none⟩) h5 _, h7, h8⟩
 have HBAD := Lib.hid hbad
 have HK : Hid (Keeps (fun g => g = pr) w (w.setCell ⟨pr, 1, none⟩ (.bool true))) := Lib.hid (keep1 w pr 1 (.bool true))
 clear hbad
 cases bad with
 | true =>
  have HT : Hid ((⟨bs, true⟩ : RS).take n = ([], ⟨bs, true⟩)) := Lib.hid (RS.bad_take rfl)
  rw [HT.out]
  clear hb ho hrd hne hty h5 h6 h7 h8
  go_enter Try.func89, Try.ntmps89
  go_wp2_with fail
  go_ret
  exact ⟨_, rfl, Lay.Sl.nil, HBAD.out, HK.out⟩
 | false =>
  by_cases hlt : bs.length < n
  ·have HT : Hid ((⟨bs, false⟩ : RS).take n = ([], ⟨bs, true⟩)) := Lib.hid (if_pos (.inr hlt))
   rw [HT.out]
   have hlt' : (bs.length : Int) < (n : Int) := by omega
   clear hb ho hrd hne hty h5 h6 h7 h8
   go_enter Try.func89, Try.ntmps89
   go_wp2_with fail
   go_ret
   exact ⟨_, rfl, Lay.Sl.nil, HBAD.out, HK.out⟩
  ·have HT : Hid ((⟨bs, false⟩ : RS).take n = (bs.take n, ⟨bs.drop n, false⟩)) := Lib.hid (if_neg (by rintro (h | h); cases h; exact hlt h))
   rw [HT.out]
   have hlt' : ¬ (bs.length : Int) < (n : Int) := by omega
   have z1 : n ≤ bs.length := by omega
   have z2 : n ≤ c := by omega
   cases a with
   | none =>
    have := (ho.1 rfl).1; omega
   | some ad =>
    obtain ⟨b, off, rfl⟩ := ho.2.1 ad rfl
    have H1 := Lib.hid hb
    have H2 := Lib.hid hrd
    have H4 := Lib.hid hlc
    have H3 := Lib.hid hne
    have HTY := Lib.hid hty
    have H5 := Lib.hid h5
    have H6 := Lib.hid h6
    have H7 := Lib.hid h7
    have H8 := Lib.hid h8
    clear hb ho hrd hne hty h5 h6 h7 h8 HBAD HK
    go_enter Try.func89, Try.ntmps89
    go_wp2_with fail
    all_goals (
     go_ret
     have hk := (keep1 w pr 1 (.bool false)).trans (keep1 _ pr 0 (.slice (if c = n then some (⟨b, off, none⟩ : Addr) else some ⟨b, off + n, none⟩) (bs.length - n) (c - n)))
     have hs := ((H1.out.set_ 1 (.bool false)).set_ 0 (.slice (if c = n then some (⟨b, off, none⟩ : Addr) else some ⟨b, off + n, none⟩) (bs.length - n) (c - n)))
     have hr := BYL_keep H2.out hk fun b off e _ => H3.out b off e
     have hbl := (H6.out.setCell (p := ⟨pr, 1, none⟩) H5.out (.bool false)).setCell (p := ⟨pr, 0, none⟩) H5.out (.slice (if c = n then some (⟨b, off, none⟩ : Addr) else some ⟨b, off + n, none⟩) (bs.length - n) (c - n))
     have hd : (bs.drop n).length = bs.length - n := List.length_drop
     have hbn : ∀ b' off', (if c = n then some (⟨b, off, none⟩ : Addr) else some ⟨b, off + n, none⟩) = some ⟨b', off', none⟩ → Tyd ((w.setCell ⟨pr, 1, none⟩ (.bool false)).setCell ⟨pr, 0, none⟩ (.slice (if c = n then some (⟨b, off, none⟩ : Addr) else some ⟨b, off + n, none⟩) (bs.length - n) (c - n))) b' 5 := by
      intro b' off' e
      split at e <;> (injection e with e; injection e with e1 e2; rw [← e1]; exact (HTY.out b off rfl).keep hk (H3.out b off rfl))
     have hok : RS.ok ⟨bs.drop n, false⟩ := fun z hz => H7.out z (List.mem_of_mem_drop hz)
     have hbx : RDR W _ pr ⟨bs.drop n, false⟩ := ⟨⟨_, _, by rw [hd]; exact hs, SlOk.drop (by dsimp only; omega), by dsimp only; omega, rd_drop hr H4.out, hbn⟩, H5.out, hbl, hok, by dsimp only; have := H8.out; omega⟩
     have htl : (bs.take n).length = n := by rw [List.length_take]; omega
     have hsl : BYL.Sl _ (.slice (some ⟨b, off, none⟩) n c) (bs.take n) := ⟨_, _, by rw [htl], ⟨fun h => (by cases h), fun ad h => ⟨b, off, by injection h with h; exact h.symm⟩, by omega⟩, hr.take n⟩
     by_cases hcn : c = n
     ·first
       | contradiction
       | (have e0 : c - n = 0 := by omega
          rw [if_pos hcn, e0] at hk hbx hsl; rw [hcn] at hsl; exact ⟨_, rfl, hsl, hbx, hk⟩)
     ·first
       | contradiction
       | (rw [if_neg hcn] at hk hbx hsl; exact ⟨_, rfl, hsl, hbx, hk⟩))
theorem or_step {k : Nat} (hk : k < 8) {y z : Int} (hy : 0 ≤ y) (hy2 : y < 256 ^ k) (hz : isByte z) : bits .or .u64 y (z * 256 ^ k) = y + z * 256 ^ k := by
 have e : (256 : Int) ^ k = 2 ^ (8 * k) := by rw [Int.pow_mul]; rfl
 unfold isByte at hz
 have hp : (0 : Int) < 2 ^ (8 * k) := Int.pow_pos (by decide)
 have h56 : (2 : Int) ^ (8 * k) ≤ 2 ^ 56 := by exact_mod_cast Nat.pow_le_pow_right (n := 2) (by decide) (show 8 * k ≤ 56 by omega)
 have hz1 : 0 ≤ z * 2 ^ (8 * k) := Int.mul_nonneg hz.1 (Int.le_of_lt hp)
 have hz2 : z * 2 ^ (8 * k) ≤ 255 * 2 ^ (8 * k) := Int.mul_le_mul_of_nonneg_right hz.2 (Int.le_of_lt hp)
 have h64 : (2 : Int) ^ 64 = 256 * 2 ^ 56 := by decide
 rw [e] at hy2 ⊢
 exact bits_join_low .u64 64 (by decide) wraps_u64 (8 * k) y (z * 2 ^ (8 * k)) hy hy2 (by omega) hz1 (Int.mul_emod_left _ _) (by omega)
theorem leZ_snoc : ∀ (l : List Int) (z : Int), leZ (l ++ [z]) = leZ l + z * 256 ^ l.length
 | [], z => by simp [leZ]
 | x :: t, z => by
  rw [List.cons_append, leZ, leZ_snoc t z, leZ, List.length_cons, Int.pow_succ, Int.mul_add, Int.add_assoc, show z * (256 ^ t.length * 256) = 256 * (z * 256 ^ t.length) by rw [← Int.mul_assoc, Int.mul_comm _ 256]]
set_option maxRecDepth 20000 in
set_option maxHeartbeats 4000000 in
theorem rget_any (h : RDR W w pr s) (n : Nat) (hn : 1 ≤ n) (hn8 : n ≤ 8) :
  Calls Try.prog 74 #[.pointer (some ⟨pr, 0, none⟩), .int .i64 n] w fun e w' => e = .returned (.int .u64 (s.num n).1) ∧ RDR W w' pr (s.num n).2 ∧ Keeps (fun g => g = pr) w w' := by
 have H := Lib.hid h
 have HN1 := Lib.hid hn
 have HN8 := Lib.hid hn8
 have hok := RS.take_ok (n := n) h.ok
 have hlen := RS.take_len n s
 have e1 : Hid ((s.num n).1 = leZ (s.take n).1) := Lib.hid rfl
 have e2 : Hid ((s.num n).2 = (s.take n).2) := Lib.hid rfl
 rw [e1.out, e2.out]
 have HT := Lib.hid (rtake_any h n hn hn8)
 clear e1 e2 h H HN1 HN8
 generalize (s.take n).1 = x at *
 generalize (s.take n).2 = s' at *
 have HO := Lib.hid hok.2
 have HL : Hid (x.length ≤ 8) := Lib.hid (by omega)
 clear hok hlen hn hn8
 go_enter Try.func74, Try.ntmps74
 go_wp2_with fail
 refine HT.out.mono ?_
 rintro e w1 ⟨v, rfl, hsl, hrd, hk⟩
 have HS := Lib.hid hsl
 have HR := Lib.hid hrd
 have HK := Lib.hid hk
 clear hsl hrd hk HT
 obtain ⟨a, c, rfl, _, hrd⟩ := HS.out
 have HRD := Lib.hid hrd
 clear hrd
 go_wp2_with fail
 go_loopw [5, 12] (fun y i w' => ∃ k : Nat, i = .int .i64 k ∧ y = .int .u64 (leZ (x.take k)) ∧ k ≤ x.length ∧ w1 = w') (fun _ i _ => x.length - (RowKit.intOf i).toNat)
 case atStart => exact ⟨0, rfl, rfl, Nat.zero_le _, rfl⟩
 case round =>
  obtain ⟨k, rfl, rfl, hk, rfl⟩ := hrel
  by_cases hlt : k < x.length
  ·have hlt' : (k : Int) < (x.length : Int) := by omega
   have hk8 : k < 8 := by have := HL.out; omega
   obtain ⟨z, hz⟩ : ∃ z, x[k]? = some z := ⟨_, List.getElem?_eq_getElem hlt⟩
   obtain ⟨g, off, rfl, _, hc⟩ := HRD.out k z hz
   have c0 : w1.cell? ⟨g, off + k, none⟩ = some (.int .u8 z) := by
    have := hc 0 _ rfl
    rwa [show off + k * BYL.m + 0 = off + k from by show off + k * 1 + 0 = off + k; omega] at this
   have hzb : isByte z := HO.out z (List.mem_of_getElem? hz)
   have htk : x.take (k + 1) = x.take k ++ [z] := by
    obtain ⟨h1, h2⟩ := get_of hz
    rw [List.take_succ_eq_append_getElem h1, h2]
   have htl : (x.take k).length = k := by rw [List.length_take]; omega
   have hrg := leZ_range (x.take k) (fun q hq => HO.out q (List.mem_of_mem_take hq))
   rw [htl] at hrg
   have HST : Hid (bits .or .u64 (leZ (x.take k)) (z * 256 ^ k) = leZ (x.take (k + 1))) := Lib.hid (by rw [or_step hk8 hrg.1 hrg.2 hzb, htk, leZ_snoc, htl])
   have HP : Hid ((2 : Int) ^ (8 * k) = 256 ^ k) := Lib.hid (by rw [Int.pow_mul]; rfl)
   have HST0 : Hid (IntKind.u64.wrap (z * 256 ^ k) = z * 256 ^ k) := Lib.hid (by
    have e : (2 : Int) ^ (8 * k) = 256 ^ k := by rw [Int.pow_mul]; rfl
    have h56 : (2 : Int) ^ (8 * k) ≤ 2 ^ 56 := by exact_mod_cast Nat.pow_le_pow_right (n := 2) (by decide) (show 8 * k ≤ 56 by omega)
    have hp : (0 : Int) < 2 ^ (8 * k) := Int.pow_pos (by decide)
    have hz1 : 0 ≤ z * 2 ^ (8 * k) := Int.mul_nonneg hzb.1 (Int.le_of_lt hp)
    have hz2 : z * 2 ^ (8 * k) ≤ 255 * 2 ^ (8 * k) := Int.mul_le_mul_of_nonneg_right hzb.2 (Int.le_of_lt hp)
    rw [← e]
    exact u64_wrap_id _ hz1 (by omega))
   have HZB := Lib.hid hzb
   have y1 : IntKind.i64.wrap (8 * (k : Int)) = 8 * (k : Int) := IntWalk.i64_in _ (by omega)
   have y2 : IntKind.u64.wrap z = z := u64_wrap_id z (by have := hzb.1; omega) (by have := hzb.2; omega)
   clear hc hz hzb htk htl hrg
   generalize leZ (x.take k) = yk at *
   go_wp2_with fail
   go_roundw
   case rel => exact ⟨k + 1, by go_num, by rw [HP.out, HST0.out, HST.out], hlt, by trivial⟩
   case measure => simp [RowKit.intOf]; omega
  ·clear HRD
   obtain rfl : k = x.length := by omega
   rw [List.take_length]
   go_wp2_with fail
   go_ret
   exact ⟨by trivial, HR.out, HK.out⟩
end
end Go.Proofs.Ytmaijkoopjocdaa

/- Bytes that are read and written: the walks of wire.NewReader, Byte, Long, End, NewWriter, put, Sum, Done, Crc. -/
namespace Go.Proofs.Ytmaijkoopjocdaa
open Go.RowKit Go.Lib

section
variable {W w w' : World} {pr : Nat} {s : RS}
set_option maxRecDepth 20000 in
set_option maxHeartbeats 1000000 in
theorem rbyte_any (h : RDR W w pr s) :
  Calls Try.prog 50 #[.pointer (some ⟨pr, 0, none⟩)] w fun e w' => e = .returned (.int .i64 (s.num 1).1) ∧ RDR W w' pr (s.num 1).2 ∧ Keeps (fun g => g = pr) w w' := by
 have HT := Lib.hid (rget_any h 1 (Nat.le_refl 1) (by decide))
 have hr := RS.byte_range h.ok
 generalize (s.num 1).1 = x at *
 generalize (s.num 1).2 = s' at *
 have y1 : IntKind.i64.wrap x = x := IntWalk.i64_in _ (by omega)
 clear h
 go_enter Try.func50, Try.ntmps50
 go_wp2_with fail
 refine HT.out.mono ?_
 rintro e w1 ⟨rfl, hrd, hk⟩
 have HR := Lib.hid hrd
 have HK := Lib.hid hk
 clear hrd hk HT
 go_wp2_with fail
 go_ret
 exact ⟨by trivial, HR.out, HK.out⟩
set_option maxRecDepth 20000 in
set_option maxHeartbeats 1000000 in
theorem rlong_any (h : RDR W w pr s) :
  Calls Try.prog 49 #[.pointer (some ⟨pr, 0, none⟩)] w fun e w' => e = .returned (.int .i64 s.long.1) ∧ RDR W w' pr s.long.2 ∧ Keeps (fun g => g = pr) w w' := by
 have HT := Lib.hid (rget_any h 8 (by decide) (Nat.le_refl 8))
 have e1 : Hid (s.long.1 = IntKind.i64.wrap (s.num 8).1) := Lib.hid rfl
 have e2 : Hid (s.long.2 = (s.num 8).2) := Lib.hid rfl
 rw [e1.out, e2.out]
 clear e1 e2
 generalize (s.num 8).1 = x at *
 generalize (s.num 8).2 = s' at *
 have HW : Hid (IntKind.i64.wrap x = wrap64 x) := Lib.hid (IntWalk.i64_left x)
 rw [HW.out]
 clear h
 go_enter Try.func49, Try.ntmps49
 go_wp2_with fail
 refine HT.out.mono ?_
 rintro e w1 ⟨rfl, hrd, hk⟩
 have HR := Lib.hid hrd
 have HK := Lib.hid hk
 clear hrd hk HT
 go_wp2_with fail
 go_ret
 exact ⟨by trivial, HR.out, HK.out⟩
def endP (s : RS) : Int := if s.bad = true then 10 else if s.bs = [] then 0 else 15
set_option maxRecDepth 20000 in
set_option maxHeartbeats 1000000 in
theorem rend_any (h : RDR W w pr s) :
  Calls Try.prog 51 #[.pointer (some ⟨pr, 0, none⟩)] w fun e w' => e = .returned (.int .i64 (endP s)) ∧ w = w' := by
 obtain ⟨bs, bad⟩ := s
 obtain ⟨a, c, hb, _, _, _, _⟩ := h.box
 dsimp only at hb
 have c0 : w.cell? ⟨pr, 0, none⟩ = some (.slice a bs.length c) := hb.cell 0
 have c1 : w.cell? ⟨pr, 1, none⟩ = some (.bool bad) := hb.cell 1
 clear hb h
 cases bad with
 | true =>
  go_enter Try.func51, Try.ntmps51
  go_wp2_with fail
  go_ret
  exact ⟨by rfl, by trivial⟩
 | false =>
  cases bs with
  | nil =>
   replace c0 : w.cell? ⟨pr, 0, none⟩ = some (.slice a 0 c) := c0
   go_enter Try.func51, Try.ntmps51
   go_wp2_with fail
   go_ret
   exact ⟨by rfl, by trivial⟩
  | cons x t =>
   obtain ⟨n, hn⟩ : ∃ n, (x :: t).length = n := ⟨_, rfl⟩
   rw [hn] at c0
   have hn0 : (0 : Int) < (n : Int) := by rw [← hn, List.length_cons]; omega
   clear hn
   go_enter Try.func51, Try.ntmps51
   go_wp2_with fail
   go_ret
   exact ⟨by rfl, by trivial⟩
set_option maxRecDepth 20000 in
set_option maxHeartbeats 1000000 in
theorem newr_any {v : Value} {bs : List Int} (h : BYL.Sl w v bs) (hl : bs.length ≤ 900000) (hok : ∀ z ∈ bs, isByte z) :
  Calls Try.prog 48 #[v] w fun e w' => ∃ pr, e = .returned (.pointer (some ⟨pr, 0, none⟩)) ∧ RDR w w' pr ⟨bs, false⟩ := by
 have HC := Lib.hid (clone_byte h hl)
 have HL := Lib.hid hl
 have HO := Lib.hid hok
 clear h hl hok
 go_enter Try.func48, Try.ntmps48
 go_wp2_with fail
 refine HC.out.mono ?_
 rintro e w1 ⟨v', rfl, hr, hb⟩
 have HR := Lib.hid hr
 have HB := Lib.hid hb
 clear hr hb HC
 obtain ⟨a, c, rfl⟩ := HR.out.form
 go_wp2_with fail
 go_ret
 refine ⟨_, rfl, ?_⟩
 have h1 := HR.out.below (Below.allocN w1 (.cells #[.slice a bs.length c, .bool false] 129))
 obtain ⟨a', c', e1, e2, e3⟩ := h1.sl
 injection e1 with e1 _ e4
 subst e1; subst e4
 refine ⟨⟨a, c, Blk.new w1 _ _, e2, ?_, e3, fun b off e => ?_⟩, HB.out.size, HB.out.trans ((Below.allocN w1 _).mono HB.out.size), HO.out, HL.out⟩
 ·rcases HR.out.2 with ⟨h2, h3⟩ | ⟨g, cap, cur, h2, h3, h4, h5, _⟩
  ·dsimp only; omega
  ·injection h2 with _ _ h2; subst h2; exact h5
 ·exact own_tyd h1 b (by rw [e]; simp [Value.ownBlock])
end
end Go.Proofs.Ytmaijkoopjocdaa

/- Bytes that are written, and their sum: the walks of wire.NewWriter, put, Sum, Done, Crc. -/
namespace Go.Proofs.Ytmaijkoopjocdaa
open Go.RowKit Go.Lib

/-- a number's lowest bytes, the lowest first -/
def leN (n : Int) : Nat → List Int
 | 0 => []
 | k + 1 => n % 256 :: leN (n / 256) k
theorem leN_len : ∀ (n : Int) (k : Nat), (leN n k).length = k
 | _, 0 => rfl
 | n, k + 1 => by rw [leN, List.length_cons, leN_len]
theorem leN_byte : ∀ (n : Int) (k : Nat), ∀ z ∈ leN n k, isByte z
 | _, 0, z, h => by simp [leN] at h
 | n, k + 1, z, h => by
  rcases List.mem_cons.1 h with rfl | h
  ·unfold isByte; omega
  ·exact leN_byte _ k z h
def shN (n : Int) (k : Nat) : Int := n / 256 ^ k
theorem leN_snoc : ∀ (n : Int) (k : Nat), leN n (k + 1) = leN n k ++ [shN n k % 256]
 | n, 0 => by simp [leN, shN]
 | n, k + 1 => by
  rw [leN, leN_snoc (n / 256) k, leN]
  unfold shN
  rw [List.cons_append, Int.ediv_ediv_of_nonneg (by decide), Int.pow_succ, Int.mul_comm 256]
theorem shN_succ (n : Int) (k : Nat) : shN n (k + 1) = shN n k / 256 := by
 unfold shN
 rw [Int.ediv_ediv_of_nonneg (Int.le_of_lt (Int.pow_pos (by decide))), Int.pow_succ]
theorem shN_nonneg {n : Int} (h : 0 ≤ n) (k : Nat) : 0 ≤ shN n k := Int.ediv_nonneg h (Int.le_of_lt (Int.pow_pos (by decide)))
theorem shN_le {n : Int} (h : 0 ≤ n) : ∀ k, shN n k ≤ n
 | 0 => by simp [shN]
 | k + 1 => by rw [shN_succ]; have := shN_le h k; have := shN_nonneg h k; omega
theorem le4_leN (c : Int) : le4 c = leN c 4 := by
 simp only [le4, leN, List.cons.injEq, and_true, true_and]
 refine ⟨?_, ?_⟩ <;> omega
/-- a writer of the call's own -/
structure WRT (W w : World) (pw : Nat) (L : List Int) : Prop where
 box : ∃ v, Blk w pw 140 #[v] ∧ BYL.Row w W.heap.size v L
 base : W.heap.size ≤ pw
 bel : Below W.heap.size W w
section
variable {W w w' : World} {pw : Nat} {L : List Int}
theorem WRT.below (h : WRT W w pw L) (hb : Below w.heap.size w w') : WRT W w' pw L := by
 obtain ⟨⟨v, h1, h2⟩, h3, h4⟩ := h
 exact ⟨⟨v, h1.below hb, h2.below hb⟩, h3, h4.trans (hb.mono h4.size)⟩
set_option maxRecDepth 20000 in
set_option maxHeartbeats 1000000 in
theorem neww_any (w : World) : Calls Try.prog 62 #[] w fun e w' => ∃ pw, e = .returned (.pointer (some ⟨pw, 0, none⟩)) ∧ WRT w w' pw [] := by
 go_enter Try.func62, Try.ntmps62
 go_wp2_with fail
 go_ret
 exact ⟨_, rfl, ⟨_, Blk.new w _ _, Lay.Row.nil _ _⟩, Nat.le_refl _, Below.allocN w _⟩
set_option maxRecDepth 20000 in
set_option maxHeartbeats 4000000 in
theorem put_any (h : WRT W w pw L) (n : Int) (hn0 : 0 ≤ n) (hn1 : n < 18446744073709551616) (k : Nat) (hk : k ≤ 8) (hl : L.length ≤ 900000) :
  Calls Try.prog 85 #[.pointer (some ⟨pw, 0, none⟩), .int .u64 n, .int .i64 k] w fun e w' => e = .returned (.tuple #[]) ∧ WRT W w' pw (L ++ leN n k) := by
 have H := Lib.hid h
 have HL := Lib.hid hl
 have HN := Lib.hid (And.intro hn0 hn1)
 clear h hl hn0 hn1
 go_enter Try.func85, Try.ntmps85
 go_wp2_with fail
 go_loopw [1, 7] (fun y i w' => ∃ j : Nat, i = .int .i64 j ∧ y = .int .u64 (shN n j) ∧ j ≤ k ∧ WRT W w' pw (L ++ leN n j)) (fun _ i _ => k - (RowKit.intOf i).toNat)
 case atStart => exact ⟨0, rfl, by rw [show shN n 0 = n by simp [shN]], Nat.zero_le _, by rw [show leN n 0 = [] from rfl, List.append_nil]; exact H.out⟩
 case round =>
  obtain ⟨j, rfl, rfl, hj, hw⟩ := hrel
  obtain ⟨wz, rfl⟩ : ∃ wo : World, wo = wr := ⟨_, rfl⟩
  have H1 := Lib.hid hw
  by_cases hlt : j < k
  ·have hlt' : (j : Int) < (k : Int) := by omega
   obtain ⟨v, hb, hr⟩ := hw.box
   obtain ⟨a, c, rfl⟩ := hr.form
   have HS : Hid (shN n (j + 1) = shN n j / 256) := Lib.hid (shN_succ n j)
   have HT : Hid (leN n (j + 1) = leN n j ++ [shN n j % 256]) := Lib.hid (leN_snoc n j)
   have q0 := shN_nonneg HN.out.1 j
   have q1 := shN_le HN.out.1 j
   have HJ : Hid ((leN n j).length = j) := Lib.hid (leN_len n j)
   have hq1 : shN n j < 18446744073709551616 := by have := HN.out.2; omega
   generalize shN n j = y at *
   have y8 : IntKind.u8.wrap y = y % 256 := IntKind.wrap_u8 y
   have hdv : y.fdiv 256 = y / 256 := Int.fdiv_eq_ediv_of_nonneg y (by decide)
   obtain ⟨M, hM⟩ : ∃ M, L ++ leN n j = M := ⟨_, rfl⟩
   rw [hM] at hr hb H1
   have HM := Lib.hid hM
   have HML : Hid (M.length ≤ 900008) := Lib.hid (by rw [← hM, List.length_append, HJ.out]; have := HL.out; omega)
   clear hM
   obtain ⟨m, hm⟩ : ∃ m, M.length = m := ⟨_, rfl⟩
   rw [hm] at hr hb
   have c0 : wz.cell? ⟨pw, 0, none⟩ = some (.slice a m c) := hb.cell 0
   have HB := Lib.hid hb
   have hbel := Below.allocN wz (.cells #[.int .u8 (y % 256)] 5)
   have HBA := Lib.hid hbel
   have HNB : Hid (Blk (wz.alloc (.cells #[.int .u8 (y % 256)] 5)) wz.heap.size 5 (byteC (y % 256)).toArray) := Lib.hid (Blk.new _ _ _)
   have HRW := Lib.hid (hr.below hbel)
   have HRO := Lib.hid hr
   clear hb hr hbel hw
   go_wp2_with (first
    | (at_builtin; go_loud (refine BYL.push rfl (.tmp 13) (.tmp 16) rfl W.heap.size (.slice a m c) M rfl HRW.out wz.heap.size (y % 256) rfl HNB.out.lt HNB.out.cellsAt (by have := HML.out; omega) (HBA.out.mono H1.out.bel.size |>.size |> Nat.le_trans H1.out.bel.size) ?_)))
   intro v' w6 hr6 hg6 ho6
   obtain ⟨a', c', hv⟩ := hr6.form
   rw [show (M ++ [y % 256]).length = m + 1 by rw [List.length_append, hm]; rfl] at hv
   subst hv
   have hbk := grow_blk HRO.out hg6 HB.out (by decide)
   have HBK := Lib.hid hbk
   have c6 : w6.cell? ⟨pw, 0, none⟩ = some (.slice a m c) := hbk.cell 0
   have fz : ∀ o, w6.frozen? ⟨pw, o, none⟩ = false := fun o => hbk.frozen o
   have HR6 := Lib.hid hr6
   have HB6 := Lib.hid (grow_below HRO.out hg6 H1.out.bel)
   clear hr6 hg6 ho6 hbk HNB HRW HBA c0
   go_wp2_with fail
   go_roundw
   case rel =>
    refine ⟨j + 1, by go_num, by rw [HS.out], hlt, ?_⟩
    rw [HT.out, ← List.append_assoc, HM.out]
    exact ⟨⟨_, HBK.out.set_ 0 _, store_own HR6.out HBK.out (by decide) 0 _⟩, H1.out.base, HB6.out.setCell (p := ⟨pw, 0, none⟩) H1.out.base _⟩
   case measure => simp [RowKit.intOf]; omega
  ·obtain rfl : j = k := by omega
   go_wp2_with fail
   go_end0
   exact ⟨by trivial, H1.out⟩
set_option maxRecDepth 20000 in
set_option maxHeartbeats 1000000 in
theorem sum_any (h : WRT W w pw L) (c : Int) (hc : u32r c) (hl : L.length ≤ 900000) :
  Calls Try.prog 63 #[.pointer (some ⟨pw, 0, none⟩), .int .u32 c] w fun e w' => e = .returned (.tuple #[]) ∧ WRT W w' pw (L ++ le4 c) := by
 have y1 : IntKind.u64.wrap c = c := u64_wrap_id c hc.1 (by have := hc.2; omega)
 have HT := Lib.hid (put_any h c hc.1 (by have := hc.2; omega) 4 (by decide) hl)
 rw [le4_leN]
 clear h hc hl
 go_enter Try.func63, Try.ntmps63
 go_wp2_with fail
 refine HT.out.mono ?_
 rintro e w1 ⟨rfl, hw⟩
 have HW := Lib.hid hw
 clear hw HT
 go_wp2_with fail
 go_end0
 exact ⟨by trivial, HW.out⟩
set_option maxRecDepth 20000 in
set_option maxHeartbeats 1000000 in
theorem done_any (h : WRT W w pw L) (hl : L.length ≤ 900000) :
  Calls Try.prog 65 #[.pointer (some ⟨pw, 0, none⟩)] w fun e w' => ∃ v', e = .returned v' ∧ BYL.Row w' w.heap.size v' L ∧ Below w.heap.size w w' := by
 obtain ⟨v, hb, hr⟩ := h.box
 have c0 : w.cell? ⟨pw, 0, none⟩ = some v := hb.cell 0
 have HC := Lib.hid (clone_byte hr.sl hl)
 obtain ⟨a, c, rfl⟩ := hr.form
 clear h hl hb hr
 go_enter Try.func65, Try.ntmps65
 go_wp2_with fail
 refine HC.out.mono ?_
 rintro e w1 ⟨v', rfl, hr, hb⟩
 have HR := Lib.hid hr
 have HB := Lib.hid hb
 clear hr hb HC
 go_wp2_with fail
 go_ret
 exact ⟨_, rfl, HR.out, HB.out⟩
end
end Go.Proofs.Ytmaijkoopjocdaa

/- The walks of wire.Crc and cornhillref4.Crc. -/
namespace Go.Proofs.Ytmaijkoopjocdaa
open Go.RowKit Go.Lib

def itC : Nat → Int → Int
 | 0, c => c
 | k + 1, c => crc1 (itC k c)
theorem itC_r {c : Int} (h : u32r c) : ∀ k, u32r (itC k c)
 | 0 => h
 | k + 1 => crc1_r (itC_r h k)
theorem crcB_it (c x : Int) : crcB c x = itC 8 (bits .xor .u32 c x) := rfl
theorem crcL_snoc (c : Int) (l : List Int) (x : Int) : crcL c (l ++ [x]) = crcB (crcL c l) x := by
 unfold crcL; rw [List.foldl_append]; rfl
theorem u32_and1 {c : Int} (h : u32r c) : bits .and .u32 c 1 = c % 2 :=
 bits_mask .u32 32 (by decide) wraps_u32 1 (by decide) c h.1 h.2
theorem crc_at {w : World} {v : Value} {bs : List Int} (h : BYL.Sl w v bs) {k : Nat} {z : Int} (hk : bs[k]? = some z) : ∃ b off c, v = .slice (some ⟨b, off, none⟩) bs.length c ∧ w.cell? ⟨b, off + k, none⟩ = some (.int .u8 z) := by
 obtain ⟨b, off, c, h1, _, h3⟩ := h.get hk
 refine ⟨b, off, c, h1, ?_⟩
 have := h3 0 _ rfl
 rwa [show off + k * BYL.m + 0 = off + k from by show off + k * 1 + 0 = off + k; omega] at this
theorem take_snoc {α : Type} {l : List α} {k : Nat} {x : α} (h : l[k]? = some x) : l.take (k + 1) = l.take k ++ [x] := by
 obtain ⟨h1, h2⟩ := get_of h
 rw [List.take_succ_eq_append_getElem h1, h2]
set_option maxRecDepth 20000 in
set_option maxHeartbeats 8000000 in
theorem crc_any {w : World} {v : Value} {bs : List Int} (h : BYL.Sl w v bs) (hl : bs.length ≤ 900000) (hok : ∀ z ∈ bs, isByte z) :
  Calls Try.prog 64 #[v] w fun e w' => e = .returned (.int .u32 (crcP bs)) ∧ w = w' := by
 have HS := Lib.hid h
 have HO := Lib.hid hok
 have HCR : Hid (∀ k, u32r (crcL 4294967295 (bs.take k))) := Lib.hid fun k => crcL_r (by unfold u32r; decide)
 have HP : Hid (crcP bs = bits .xor .u32 4294967295 (crcL 4294967295 (bs.take bs.length))) := Lib.hid (by rw [List.take_length]; rfl)
 rw [HP.out]
 clear HP
 obtain ⟨a, c, rfl, _, _⟩ := h
 clear hok
 go_enter Try.func64, Try.ntmps64
 go_wp2_with fail
 go_loopw [3, 9] (fun y i w' => ∃ k : Nat, i = .int .i64 k ∧ y = .int .u32 (crcL 4294967295 (bs.take k)) ∧ k ≤ bs.length ∧ w = w') (fun _ i _ => bs.length - (RowKit.intOf i).toNat)
 case atStart => exact ⟨0, rfl, rfl, Nat.zero_le _, rfl⟩
 case round =>
  obtain ⟨k, rfl, rfl, hk, rfl⟩ := hrel
  by_cases hlt : k < bs.length
  ·have hlt' : (k : Int) < (bs.length : Int) := by omega
   obtain ⟨z, hz⟩ : ∃ z, bs[k]? = some z := ⟨_, List.getElem?_eq_getElem hlt⟩
   have HTK : Hid (crcL 4294967295 (bs.take (k + 1)) = itC 8 (bits .xor .u32 (crcL 4294967295 (bs.take k)) z)) := Lib.hid (by rw [take_snoc hz, crcL_snoc, crcB_it])
   have hzb := HO.out z (List.mem_of_getElem? hz)
   have y1 : IntKind.u32.wrap z = z := u32_wrap_id z (by have := hzb.1; omega) (by have := hzb.2; omega)
   obtain ⟨b, off, c', he, c0⟩ := crc_at HS.out hz
   injection he with he _ he3
   subst he
   subst he3
   generalize crcL 4294967295 (bs.take k) = y at *
   have HX := Lib.hid (bits_u32r .xor y z)
   clear hz hzb
   go_wp2_with fail
   generalize bits .xor .u32 y z = x0 at *
   go_loopw [3, 17] (fun y i w' => ∃ j : Nat, i = .int .i64 j ∧ y = .int .u32 (itC j x0) ∧ j ≤ 8 ∧ w = w') (fun _ i _ => 8 - (RowKit.intOf i).toNat)
   case atStart => exact ⟨0, rfl, rfl, Nat.zero_le _, by trivial⟩
   case round =>
    obtain ⟨j, rfl, rfl, hj, rfl⟩ := hrel
    have hr := itC_r HX.out j
    have HI : Hid (itC (j + 1) x0 = crc1 (itC j x0)) := Lib.hid rfl
    have HT8 : Hid (j = 8 → crcL 4294967295 (bs.take (k + 1)) = itC j x0) := Lib.hid (by rintro rfl; exact HTK.out)
    generalize itC j x0 = t at *
    by_cases h8 : j < 8
    ·have h8' : (j : Int) < 8 := by omega
     have q1 : bits .and .u32 t 1 = t % 2 := u32_and1 hr
     have hdv : t.fdiv 2 = t / 2 := Int.fdiv_eq_ediv_of_nonneg t (by decide)
     by_cases ho : t % 2 = 1
     ·have ho' : (0 : Int) < t % 2 := by omega
      have HI2 : Hid (itC (j + 1) x0 = bits .xor .u32 (t / 2) 3988292384) := Lib.hid (by rw [HI.out]; exact if_pos ho)
      have HR := Lib.hid hr
      clear hr ho HI
      go_wp2_with fail
      go_roundw
      case rel => exact ⟨j + 1, by go_num, by rw [HI2.out], h8, by trivial⟩
      case measure => simp [RowKit.intOf]; omega
     ·have ho' : ¬ (0 : Int) < t % 2 := by omega
      have HI2 : Hid (itC (j + 1) x0 = t / 2) := Lib.hid (by rw [HI.out]; exact if_neg ho)
      have HR := Lib.hid hr
      clear hr ho HI
      go_wp2_with fail
      go_roundw
      case rel => exact ⟨j + 1, by go_num, by rw [HI2.out], h8, by trivial⟩
      case measure => simp [RowKit.intOf]; omega
    ·obtain rfl : j = 8 := by omega
     have HT2 : Hid (crcL 4294967295 (bs.take (k + 1)) = t) := Lib.hid (HT8.out rfl)
     clear HT8
     go_wp2_with fail
     go_roundw
     case rel => exact ⟨k + 1, by go_num, by rw [HT2.out], hlt, by trivial⟩
     case measure => simp [RowKit.intOf]; omega
  ·obtain rfl : k = bs.length := by omega
   go_wp2_with fail
   go_ret
   exact ⟨by trivial, by trivial⟩
end Go.Proofs.Ytmaijkoopjocdaa

/- The walks of cornhillref4.Crc, Byte, Long. -/
namespace Go.Proofs.Ytmaijkoopjocdaa
open Go.RowKit Go.Lib

set_option maxRecDepth 20000 in
set_option maxHeartbeats 8000000 in
theorem rcrc_any {w : World} {v : Value} {bs : List Int} (h : BYL.Sl w v bs) (hl : bs.length ≤ 900000) (hok : ∀ z ∈ bs, isByte z) :
  Calls Try.prog 39 #[v] w fun e w' => e = .returned (.int .u32 (crcP bs)) ∧ w = w' := by
 have HS := Lib.hid h
 have HO := Lib.hid hok
 have HCR : Hid (∀ k, u32r (crcL 4294967295 (bs.take k))) := Lib.hid fun k => crcL_r (by unfold u32r; decide)
 have HP : Hid (crcP bs = bits .xor .u32 (crcL 4294967295 bs) 4294967295) := Lib.hid (by rw [bits_xor_comm]; rfl)
 rw [HP.out]
 clear HP
 obtain ⟨a, c, rfl, _, _⟩ := h
 clear hok
 go_enter Try.func39, Try.ntmps39
 go_wp2_with fail
 go_loopw [3, 4] (fun y i w' => ∃ k : Nat, i = .int .i64 k ∧ y = .int .u32 (crcL 4294967295 (bs.take k)) ∧ k ≤ bs.length ∧ w = w') (fun _ i _ => bs.length - (RowKit.intOf i).toNat)
 case atStart => exact ⟨0, rfl, rfl, Nat.zero_le _, rfl⟩
 case round =>
  obtain ⟨k, rfl, rfl, hk, rfl⟩ := hrel
  by_cases hlt : k < bs.length
  ·have hlt' : (k : Int) < (bs.length : Int) := by omega
   obtain ⟨z, hz⟩ : ∃ z, bs[k]? = some z := ⟨_, List.getElem?_eq_getElem hlt⟩
   have HTK : Hid (crcL 4294967295 (bs.take (k + 1)) = itC 8 (bits .xor .u32 (crcL 4294967295 (bs.take k)) z)) := Lib.hid (by rw [take_snoc hz, crcL_snoc, crcB_it])
   have hzb := HO.out z (List.mem_of_getElem? hz)
   have y1 : IntKind.u32.wrap z = z := u32_wrap_id z (by have := hzb.1; omega) (by have := hzb.2; omega)
   obtain ⟨b, off, c', he, c0⟩ := crc_at HS.out hz
   injection he with he _ he3
   subst he
   subst he3
   generalize crcL 4294967295 (bs.take k) = y at *
   have HX := Lib.hid (bits_u32r .xor y z)
   clear hz hzb
   go_wp2_with fail
   generalize bits .xor .u32 y z = x0 at *
   go_loopw [3, 5] (fun y i w' => ∃ j : Nat, i = .int .i64 j ∧ y = .int .u32 (itC j x0) ∧ j ≤ 8 ∧ w = w') (fun _ i _ => 8 - (RowKit.intOf i).toNat)
   case atStart => exact ⟨0, rfl, rfl, Nat.zero_le _, by trivial⟩
   case round =>
    obtain ⟨j, rfl, rfl, hj, rfl⟩ := hrel
    have hr := itC_r HX.out j
    have HI : Hid (itC (j + 1) x0 = crc1 (itC j x0)) := Lib.hid rfl
    have HT8 : Hid (j = 8 → crcL 4294967295 (bs.take (k + 1)) = itC j x0) := Lib.hid (by rintro rfl; exact HTK.out)
    generalize itC j x0 = t at *
    by_cases h8 : j < 8
    ·have h8' : (j : Int) < 8 := by omega
     have q1 : bits .and .u32 t 1 = t % 2 := u32_and1 hr
     have hdv : t.fdiv 2 = t / 2 := Int.fdiv_eq_ediv_of_nonneg t (by decide)
     by_cases ho : t % 2 = 1
     ·have ho' : (t % 2 == 1) = true := by rw [ho]; rfl
      have HI2 : Hid (itC (j + 1) x0 = bits .xor .u32 (t / 2) 3988292384) := Lib.hid (by rw [HI.out]; exact if_pos ho)
      have HR := Lib.hid hr
      clear hr ho HI
      go_wp2_with fail
      go_roundw
      case rel => exact ⟨j + 1, by go_num, by rw [HI2.out], h8, by trivial⟩
      case measure => simp [RowKit.intOf]; omega
     ·have ho' : (t % 2 == 1) = false := by rw [beq_eq_false_iff_ne]; exact ho
      have HI2 : Hid (itC (j + 1) x0 = t / 2) := Lib.hid (by rw [HI.out]; exact if_neg ho)
      have HR := Lib.hid hr
      clear hr ho HI
      go_wp2_with fail
      go_roundw
      case rel => exact ⟨j + 1, by go_num, by rw [HI2.out], h8, by trivial⟩
      case measure => simp [RowKit.intOf]; omega
    ·obtain rfl : j = 8 := by omega
     have HT2 : Hid (crcL 4294967295 (bs.take (k + 1)) = t) := Lib.hid (HT8.out rfl)
     clear HT8
     go_wp2_with fail
     go_roundw
     case rel => exact ⟨k + 1, by go_num, by rw [HT2.out], hlt, by trivial⟩
     case measure => simp [RowKit.intOf]; omega
  ·obtain rfl : k = bs.length := by omega
   go_wp2_with fail
   go_ret
   exact ⟨by trivial, by trivial⟩
set_option maxRecDepth 20000 in
set_option maxHeartbeats 2000000 in
theorem wbyte_any {w : World} {v : Value} {L : List Int} (h : BYL.Sl w v L) (hl : L.length ≤ 900000) (n : Int) :
  Calls Try.prog 18 #[v, .int .i64 n] w fun e w' => ∃ v', e = .returned v' ∧ BYL.Row w' w.heap.size v' (L ++ [n % 256]) ∧ Below w.heap.size w w' := by
 obtain ⟨a, c, rfl, ho, hrd⟩ := h
 have HOK := Lib.hid ho
 have H0 := Lib.hid (Lay.Row.empty (Y := BYL) w)
 have HB := Lib.hid (Below.allocN w (.cells #[] 5))
 have HR := Lib.hid (hrd.below HB.out)
 have HL := Lib.hid hl
 have y8 : IntKind.u8.wrap n = n % 256 := IntKind.wrap_u8 n
 clear hrd ho hl
 go_enter Try.func18, Try.ntmps18
 go_wp2_with (first
  | (at_builtin; go_loud (refine BYL.pushes rfl (.tmp 5) (.tmp 6) rfl w.heap.size (.slice (some ⟨w.heap.size, 0, none⟩) 0 0) [] rfl H0.out a c L rfl (fun h => (HOK.out.1 h).2) HR.out HOK.out.2.1 (by have := HL.out; simp; omega) HB.out.size ?_)))
 intro v' w6 hr6 hg6 ho6
 obtain ⟨a', c', rfl⟩ := hr6.form
 have hb6 := grown_below hg6 HB.out (own_base H0.out)
 have hba := Below.allocN w6 (.cells #[.int .u8 (n % 256)] 5)
 have HR6 := Lib.hid (hr6.below hba)
 have HB6 := Lib.hid (hb6.trans (hba.mono hb6.size))
 have HNB : Hid (Blk (w6.alloc (.cells #[.int .u8 (n % 256)] 5)) w6.heap.size 5 (byteC (n % 256)).toArray) := Lib.hid (Blk.new _ _ _)
 clear hr6 hg6 ho6 hb6 hba H0 HB HR
 go_wp2_with (first
  | (at_builtin; go_loud (refine BYL.push rfl (.tmp 7) (.tmp 10) rfl w.heap.size _ L rfl HR6.out w6.heap.size (n % 256) rfl HNB.out.lt HNB.out.cellsAt (by have := HL.out; omega) HB6.out.size ?_)))
 intro v' w7 hr7 hg7 ho7
 have HR7 := Lib.hid hr7
 have HB7 := Lib.hid (grown_below hg7 HB6.out (own_base HR6.out))
 clear hr7 hg7 ho7 HR6 HNB HB6
 go_wp2_with fail
 go_ret
 exact ⟨_, rfl, HR7.out, HB7.out⟩
theorem i64u (n : Int) : IntKind.u64.wrap n = n % 18446744073709551616 := IntKind.wrap_u64 n
theorem sh_byte (u : Int) (j : Nat) : u / 2 ^ (8 * j) % 256 = shN u j % 256 := by
 unfold shN
 rw [Int.pow_mul]; rfl
set_option maxRecDepth 20000 in
set_option maxHeartbeats 4000000 in
theorem wlong_any {w : World} {v : Value} {L : List Int} (h : BYL.Sl w v L) (hl : L.length ≤ 900000) (n : Int) :
  Calls Try.prog 19 #[v, .int .i64 n] w fun e w' => ∃ v', e = .returned v' ∧ BYL.Row w' w.heap.size v' (L ++ leN (n % 18446744073709551616) 8) ∧ Below w.heap.size w w' := by
 obtain ⟨a, c, rfl, ho, hrd⟩ := h
 have HOK := Lib.hid ho
 have H0 := Lib.hid (Lay.Row.empty (Y := BYL) w)
 have HB := Lib.hid (Below.allocN w (.cells #[] 5))
 have HR := Lib.hid (hrd.below HB.out)
 have HL := Lib.hid hl
 obtain ⟨u, hu⟩ : ∃ u, n % 18446744073709551616 = u := ⟨_, rfl⟩
 have y64 := i64u n
 rw [hu] at y64 ⊢
 clear hrd ho hl hu
 go_enter Try.func19, Try.ntmps19
 go_wp2_with (first
  | (at_builtin; go_loud (refine BYL.pushes rfl (.tmp 7) (.tmp 8) rfl w.heap.size (.slice (some ⟨w.heap.size, 0, none⟩) 0 0) [] rfl H0.out a c L rfl (fun h => (HOK.out.1 h).2) HR.out HOK.out.2.1 (by have := HL.out; simp; omega) HB.out.size ?_)))
 intro v' w6 hr6 hg6 ho6
 have HR6 := Lib.hid hr6
 have HB6 := Lib.hid (grown_below hg6 HB.out (own_base H0.out))
 clear hr6 hg6 ho6 H0 HB HR
 go_wp2_with fail
 go_loopw [5, 6] (fun y i w' => ∃ j : Nat, i = .int .u64 (8 * (j : Int)) ∧ j ≤ 8 ∧ BYL.Row w' w.heap.size y (L ++ leN u j) ∧ Below w.heap.size w w') (fun _ i _ => 64 - (RowKit.intOf i).toNat)
 case atStart => exact ⟨0, rfl, Nat.zero_le _, by rw [show leN u 0 = [] from rfl, List.append_nil]; exact HR6.out, HB6.out⟩
 case round =>
  clear HR6 HB6
  obtain ⟨j, rfl, hj, hr, hb⟩ := hrel
  obtain ⟨wz, rfl⟩ : ∃ wo : World, wo = wr := ⟨_, rfl⟩
  obtain ⟨a1, c1, hv⟩ := hr.form
  obtain ⟨m, hm⟩ : ∃ m, (L ++ leN u j).length = m := ⟨_, rfl⟩
  rw [hm] at hv
  subst hv
  have HM0 := Lib.hid hm
  clear hm
  by_cases hlt : j < 8
  ·have hlt' : 8 * (j : Int) < 64 := by omega
   have HT : Hid (leN u (j + 1) = leN u j ++ [shN u j % 256]) := Lib.hid (leN_snoc u j)
   have HML : Hid ((L ++ leN u j).length ≤ 900008) := Lib.hid (by rw [List.length_append, leN_len]; have := HL.out; omega)
   have HS : Hid (shN u (j + 1) = shN u j / 256) := Lib.hid (shN_succ u j)
   have y8 := sh_byte u j
   have y64b : (8 * (j : Int) + 8) % 18446744073709551616 = 8 * (j : Int) + 8 := by omega
   obtain ⟨M, hM⟩ : ∃ M, L ++ leN u j = M := ⟨_, rfl⟩
   rw [hM] at hr HML
   have HM := Lib.hid hM
   clear hM
   have HRO := Lib.hid hr
   have HBO := Lib.hid hb
   generalize shN u j % 256 = x at *
   have hba := Below.allocN wz (.cells #[.int .u8 x] 5)
   have HRW := Lib.hid (hr.below hba)
   have HB6 := Lib.hid (hb.trans (hba.mono hb.size))
   have HNB : Hid (Blk (wz.alloc (.cells #[.int .u8 x] 5)) wz.heap.size 5 (byteC x).toArray) := Lib.hid (Blk.new _ _ _)
   clear hr hb hba
   go_wp2_with (first
    | (at_builtin; go_loud (refine BYL.push rfl (.tmp 14) (.tmp 20) rfl w.heap.size (.slice a1 m c1) M rfl HRW.out wz.heap.size x rfl HNB.out.lt HNB.out.cellsAt (by have := HML.out; omega) HB6.out.size ?_)))
   intro v' w6 hr6 hg6 ho6
   have HR6 := Lib.hid hr6
   have HB7 := Lib.hid (grown_below hg6 HB6.out (own_base HRW.out))
   clear hr6 hg6 ho6
   go_wp2_with fail
   go_roundw
   case rel => exact ⟨j + 1, by go_num, hlt, by rw [HT.out, ← List.append_assoc, HM.out]; exact HR6.out, HB7.out⟩
   case measure => simp [RowKit.intOf]; omega
  ·obtain rfl : j = 8 := by omega
   have HRO := Lib.hid hr
   have HBO := Lib.hid hb
   clear hr hb
   go_wp2_with fail
   go_ret
   exact ⟨_, rfl, HRO.out, HBO.out⟩
end Go.Proofs.Ytmaijkoopjocdaa
