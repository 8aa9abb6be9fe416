/- Merged: Idx Copy Fine Appl. -/
import Derived.Test.YtmaijkoopjocdaaGB
import Derived.Test.YtmaijkoopjocdaaGC
import Derived.Test.YtmaijkoopjocdaaGD
/- The walks of book.Better, feed.Fine, feed.Apply$1, Apply$2 and of slices.IndexFunc at levels. -/
namespace Go.Proofs.Ytmaijkoopjocdaa
open Go.RowKit Go.Lib

set_option maxHeartbeats 1000000 in
theorem better_any (side x y : Int) (w : World) :
  Calls Try.prog 79 #[.int .i64 side, .int .i64 x, .int .i64 y] w fun e w' => e = .returned (.bool (betterP side x y)) ∧ w = w' := by
 by_cases h : side = 1
 ·subst h
  go_enter Try.func79, Try.ntmps79
  go_wp2_with fail
  go_ret
  exact ⟨by rfl, by trivial⟩
 ·have hv : betterP side x y = decide (x < y) := if_neg h
  rw [hv]
  have h1 : (side == 1) = false := by rw [beq_eq_false_iff_ne]; exact h
  go_enter Try.func79, Try.ntmps79
  go_wp2_with fail
  go_ret
  exact ⟨by trivial, by trivial⟩
set_option maxHeartbeats 1000000 in
theorem rbetter_any (side x y : Int) (w : World) :
  Calls Try.prog 59 #[.int .i64 side, .int .i64 x, .int .i64 y] w fun e w' => e = .returned (.bool (betterP side x y)) ∧ w = w' := by
 unfold betterP
 by_cases h : side = 1
 ·subst h
  go_enter Try.func59, Try.ntmps59
  go_wp2_with fail
  go_ret
  exact ⟨by trivial, by trivial⟩
 ·have hb : (side == 1) = false := by rw [beq_eq_false_iff_ne]; exact h
  rw [if_neg h]
  go_enter Try.func59, Try.ntmps59
  go_wp2_with fail
  go_ret
  exact ⟨by trivial, by trivial⟩
def Lv.agg (x : Lv) : Value := .agg #[.int .i64 x.price, .int .i64 x.qty, .int .i64 x.count]
def Mg.agg (m : Mg) : Value := .agg #[.int .i64 m.seq, .int .i64 m.inst, .int .i64 m.side, .int .i64 m.price, .int .i64 m.qty, .int .i64 m.count, .bool m.imp]
set_option maxHeartbeats 1000000 in
theorem samep_any (x : Lv) (gm : Nat) (p : Int) (w : World) (hg : gm < w.heap.size) (hc : w.cell? ⟨gm, 3, none⟩ = some (.int .i64 p)) :
  Calls Try.prog 76 #[x.agg, .pointer (some ⟨gm, 0, none⟩)] w fun e w' => e = .returned (.bool (x.price == p)) ∧ Below w.heap.size w w' := by
 unfold Lv.agg
 have hc2 : (w.alloc (.cells #[.int .i64 x.price, .int .i64 x.qty, .int .i64 x.count] 92)).cell? ⟨gm, 3, none⟩ = some (.int .i64 p) := ((Below.allocN w _).cell (p := ⟨gm, 3, none⟩) hg).trans hc
 have HB := Lib.hid (Below.allocN w (.cells #[.int .i64 x.price, .int .i64 x.qty, .int .i64 x.count] 92))
 clear hc
 go_enter Try.func76, Try.ntmps76
 go_wp2_with fail
 go_ret
 exact ⟨by trivial, HB.out⟩
set_option maxHeartbeats 1000000 in
theorem betterp_any (x : Lv) (gm : Nat) (sd p : Int) (w : World) (hg : gm < w.heap.size) (hc2 : w.cell? ⟨gm, 2, none⟩ = some (.int .i64 sd)) (hc : w.cell? ⟨gm, 3, none⟩ = some (.int .i64 p)) :
  Calls Try.prog 78 #[x.agg, .pointer (some ⟨gm, 0, none⟩)] w fun e w' => e = .returned (.bool (betterP sd p x.price)) ∧ Below w.heap.size w w' := by
 unfold Lv.agg
 have hd2 : (w.alloc (.cells #[.int .i64 x.price, .int .i64 x.qty, .int .i64 x.count] 92)).cell? ⟨gm, 2, none⟩ = some (.int .i64 sd) := ((Below.allocN w _).cell (p := ⟨gm, 2, none⟩) hg).trans hc2
 have hd3 : (w.alloc (.cells #[.int .i64 x.price, .int .i64 x.qty, .int .i64 x.count] 92)).cell? ⟨gm, 3, none⟩ = some (.int .i64 p) := ((Below.allocN w _).cell (p := ⟨gm, 3, none⟩) hg).trans hc
 have HB := Lib.hid (Below.allocN w (.cells #[.int .i64 x.price, .int .i64 x.qty, .int .i64 x.count] 92))
 clear hc hc2
 go_enter Try.func78, Try.ntmps78
 go_wp2_with fail
 refine (better_any sd p x.price _).mono ?_
 rintro e w1 ⟨rfl, rfl⟩
 go_wp2_with fail
 go_ret
 exact ⟨by trivial, HB.out⟩
def idxV {α : Type} (f : α → Bool) (L : List α) : Int := match L.findIdx? f with | some k => k | none => -1
theorem idxV_at {α : Type} {f : α → Bool} {L : List α} {k : Nat} {x : α} (hx : L[k]? = some x) (h : ∀ (j : Nat) (y : α), j < k → L[j]? = some y → f y = false) (hf : f x = true) : idxV f L = k := by
 have : L.findIdx? f = some k := by
  rw [List.findIdx?_eq_some_iff_getElem]
  obtain ⟨h1, h2⟩ := get_of hx
  exact ⟨h1, by rw [h2]; exact hf, fun j hj => by have := h j _ hj (List.getElem?_eq_getElem (by omega)); simpa using this⟩
 unfold idxV
 rw [this]
theorem idxV_none {α : Type} {f : α → Bool} {L : List α} (h : ∀ (j : Nat) (y : α), L[j]? = some y → f y = false) : idxV f L = -1 := by
 have : L.findIdx? f = none := by
  rw [List.findIdx?_eq_none_iff]
  intro x hx
  obtain ⟨j, hj⟩ := List.mem_iff_getElem?.1 hx
  exact h j x hj
 unfold idxV
 rw [this]
set_option maxRecDepth 20000 in
set_option maxHeartbeats 2000000 in
theorem index_same {w : World} {v : Value} {L : List Lv} (h : LVL.Sl w v L) (hl : L.length ≤ 900000) (gm : Nat) (p : Int) (hg : gm < w.heap.size) (hc : w.cell? ⟨gm, 3, none⟩ = some (.int .i64 p)) :
  Calls Try.prog 75 #[v, .func (Fn.func 76) #[] #[.pointer (some ⟨gm, 0, none⟩)]] w fun e w' => e = .returned (.int .i64 (idxV (fun y => y.price == p) L)) ∧ Below w.heap.size w w' := by
 have HS := Lib.hid h
 obtain ⟨a, c, rfl, _, _⟩ := h
 have HG := Lib.hid hg
 have HC := Lib.hid hc
 clear hg hc
 go_enter Try.func75, Try.ntmps75
 go_wp2_with fail
 go_loopw [8] (fun i w' => ∃ k : Nat, i = .int .i64 k ∧ k ≤ L.length ∧ (∀ j y, j < k → L[j]? = some y → (fun y => y.price == p) y = false) ∧ Below w.heap.size w w') (fun i _ => L.length - (RowKit.intOf i).toNat)
 case atStart => exact ⟨0, rfl, Nat.zero_le _, fun j y hj => absurd hj (by omega), Below.refl _ _⟩
 case round =>
  obtain ⟨k, rfl, hk, hall, hb⟩ := hrel
  obtain ⟨wz, rfl⟩ : ∃ wo : World, wo = wr := ⟨_, rfl⟩
  have HA := Lib.hid hall
  have HB := Lib.hid hb
  have hgw : gm < wz.heap.size := Nat.lt_of_lt_of_le HG.out hb.size
  have hc3 : wz.cell? ⟨gm, 3, none⟩ = some (.int .i64 p) := (hb.cell (p := ⟨gm, 3, none⟩) HG.out).trans HC.out
  have hsl := HS.out.below hb
  clear hall hb
  by_cases hlt : k < L.length
  ·have hlt' : (k : Int) < (L.length : Int) := by omega
   obtain ⟨x, hx⟩ : ∃ x, L[k]? = some x := ⟨_, List.getElem?_eq_getElem hlt⟩
   obtain ⟨b, off, c', he, _, hcs⟩ := hsl.get hx
   injection he with he _ he3
   subst he
   subst he3
   have c0 : wz.cell? ⟨b, off + k * 3, none⟩ = some (.int .i64 x.price) := hcs 0 _ rfl
   have c1 : wz.cell? ⟨b, off + k * 3 + 1, none⟩ = some (.int .i64 x.qty) := hcs 1 _ rfl
   have c2 : wz.cell? ⟨b, off + k * 3 + 2, none⟩ = some (.int .i64 x.count) := hcs 2 _ rfl
   have HCL := Lib.hid (samep_any x gm p _ hgw hc3)
   have HX := Lib.hid hx
   unfold Lv.agg at HCL
   clear hcs hx hsl hc3 hgw
   go_wp2_with fail
   refine HCL.out.mono ?_
   rintro e w1 ⟨rfl, hb1⟩
   have HB1 := Lib.hid (HB.out.trans (hb1.mono HB.out.size))
   clear hb1 HCL c0 c1 c2
   by_cases ht : (fun y => y.price == p) x = true
   ·have ht2 := ht
    dsimp only at ht2
    have HV := Lib.hid (idxV_at HX.out HA.out ht)
    clear ht
    go_wp2_with fail
    go_ret
    exact ⟨by rw [HV.out]; try rfl, HB1.out⟩
   ·have ht1 : (fun y => y.price == p) x = false := by simpa using ht
    have ht2 := ht1
    dsimp only at ht2
    have HT := Lib.hid ht1
    clear ht ht1
    go_wp2_with fail
    go_roundw
    case rel =>
     refine ⟨k + 1, by go_num, hlt, fun j y hj hy => ?_, HB1.out⟩
     rcases Nat.lt_or_ge j k with h1 | h1
     ·exact HA.out j y h1 hy
     ·have : j = k := by omega
      subst this
      have h2 := HX.out
      rw [hy] at h2
      injection h2 with h2
      rw [h2]; exact HT.out
    case measure => simp [RowKit.intOf]; omega
  ·have HV : Hid (idxV (fun y => y.price == p) L = -1) := Lib.hid (idxV_none fun j y hy => HA.out j y (by have := lt_of_get hy; omega) hy)
   clear hsl hc3 hgw
   go_wp2_with fail
   go_ret
   exact ⟨by rw [HV.out]; try rfl, HB.out⟩
set_option maxRecDepth 20000 in
set_option maxHeartbeats 2000000 in
theorem index_better {w : World} {v : Value} {L : List Lv} (h : LVL.Sl w v L) (hl : L.length ≤ 900000) (gm : Nat) (sd p : Int) (hg : gm < w.heap.size) (hc2 : w.cell? ⟨gm, 2, none⟩ = some (.int .i64 sd)) (hc : w.cell? ⟨gm, 3, none⟩ = some (.int .i64 p)) :
  Calls Try.prog 75 #[v, .func (Fn.func 78) #[] #[.pointer (some ⟨gm, 0, none⟩)]] w fun e w' => e = .returned (.int .i64 (idxV (fun y => betterP sd p y.price) L)) ∧ Below w.heap.size w w' := by
 have HS := Lib.hid h
 obtain ⟨a, c, rfl, _, _⟩ := h
 have HG := Lib.hid hg
 have HC := Lib.hid hc
 have HC2 := Lib.hid hc2
 clear hg hc hc2
 go_enter Try.func75, Try.ntmps75
 go_wp2_with fail
 go_loopw [8] (fun i w' => ∃ k : Nat, i = .int .i64 k ∧ k ≤ L.length ∧ (∀ j y, j < k → L[j]? = some y → (fun y => betterP sd p y.price) y = false) ∧ Below w.heap.size w w') (fun i _ => L.length - (RowKit.intOf i).toNat)
 case atStart => exact ⟨0, rfl, Nat.zero_le _, fun j y hj => absurd hj (by omega), Below.refl _ _⟩
 case round =>
  obtain ⟨k, rfl, hk, hall, hb⟩ := hrel
  obtain ⟨wz, rfl⟩ : ∃ wo : World, wo = wr := ⟨_, rfl⟩
  have HA := Lib.hid hall
  have HB := Lib.hid hb
  have hgw : gm < wz.heap.size := Nat.lt_of_lt_of_le HG.out hb.size
  have hc3 : wz.cell? ⟨gm, 3, none⟩ = some (.int .i64 p) := (hb.cell (p := ⟨gm, 3, none⟩) HG.out).trans HC.out
  have hc2 : wz.cell? ⟨gm, 2, none⟩ = some (.int .i64 sd) := (hb.cell (p := ⟨gm, 2, none⟩) HG.out).trans HC2.out
  have hsl := HS.out.below hb
  clear hall hb
  by_cases hlt : k < L.length
  ·have hlt' : (k : Int) < (L.length : Int) := by omega
   obtain ⟨x, hx⟩ : ∃ x, L[k]? = some x := ⟨_, List.getElem?_eq_getElem hlt⟩
   obtain ⟨b, off, c', he, _, hcs⟩ := hsl.get hx
   injection he with he _ he3
   subst he
   subst he3
   have c0 : wz.cell? ⟨b, off + k * 3, none⟩ = some (.int .i64 x.price) := hcs 0 _ rfl
   have c1 : wz.cell? ⟨b, off + k * 3 + 1, none⟩ = some (.int .i64 x.qty) := hcs 1 _ rfl
   have c2 : wz.cell? ⟨b, off + k * 3 + 2, none⟩ = some (.int .i64 x.count) := hcs 2 _ rfl
   have HCL := Lib.hid (betterp_any x gm sd p _ hgw hc2 hc3)
   have HX := Lib.hid hx
   unfold Lv.agg at HCL
   clear hcs hx hsl hc3 hc2 hgw
   go_wp2_with fail
   refine HCL.out.mono ?_
   rintro e w1 ⟨rfl, hb1⟩
   have HB1 := Lib.hid (HB.out.trans (hb1.mono HB.out.size))
   clear hb1 HCL c0 c1 c2
   by_cases ht : (fun y => betterP sd p y.price) x = true
   ·have ht2 := ht
    dsimp only at ht2
    have HV := Lib.hid (idxV_at HX.out HA.out ht)
    clear ht
    go_wp2_with fail
    go_ret
    exact ⟨by rw [HV.out]; try rfl, HB1.out⟩
   ·have ht1 : (fun y => betterP sd p y.price) x = false := by simpa using ht
    have ht2 := ht1
    dsimp only at ht2
    have HT := Lib.hid ht1
    clear ht ht1
    go_wp2_with fail
    go_roundw
    case rel =>
     refine ⟨k + 1, by go_num, hlt, fun j y hj hy => ?_, HB1.out⟩
     rcases Nat.lt_or_ge j k with h1 | h1
     ·exact HA.out j y h1 hy
     ·have : j = k := by omega
      subst this
      have h2 := HX.out
      rw [hy] at h2
      injection h2 with h2
      rw [h2]; exact HT.out
    case measure => simp [RowKit.intOf]; omega
  ·have HV : Hid (idxV (fun y => betterP sd p y.price) L = -1) := Lib.hid (idxV_none fun j y hy => HA.out j y (by have := lt_of_get hy; omega) hy)
   clear hsl hc3 hc2 hgw
   go_wp2_with fail
   go_ret
   exact ⟨by rw [HV.out]; try rfl, HB.out⟩
end Go.Proofs.Ytmaijkoopjocdaa

/- The walk of feed.Copy. -/
namespace Go.Proofs.Ytmaijkoopjocdaa
open Go.RowKit Go.Lib

def Sh.own (s : Sh) : Option Nat := (Value.slice s.a s.n s.c).ownBlock
def Pr.sh (p : Pr) (s : Nat) : Sh := if s = 0 then p.s else p.t
/-- no two of the first t sides lie in one row -/
def Apart (P : List Pr) (t : Nat) : Prop := ∀ (j j' s s' : Nat) (p p' : Pr) (g : Nat), P[j]? = some p → P[j']? = some p' → s < 2 → s' < 2 → 2 * j + s < t → 2 * j' + s' < t → 2 * j + s ≠ 2 * j' + s' → (p.sh s).own = some g → (p'.sh s').own ≠ some g
/-- a view whose sides lie apart -/
def VOD (w : World) (B : Nat) (v : Value) (V : Vw) : Prop :=
 ∃ P : List Pr, PRL.Row w B v P ∧ P.length = V.length ∧ (∀ (j : Nat) (p : Pr) (x : Sd × Sd), P[j]? = some p → V[j]? = some x → ShO LVL w B p.s x.1 ∧ ShO LVL w B p.t x.2) ∧ Apart P (2 * V.length)
theorem VOD.vo {w : World} {B : Nat} {v : Value} {V : Vw} (h : VOD w B v V) : VO PRL LVL w B v V := by
 obtain ⟨P, h1, h2, h3, _⟩ := h
 exact ⟨P, h1, h2, h3⟩
/-- where a copy stands: what has been laid anew, and what has not -/
structure CpI (W w : World) (gv gr : Nat) (v : Value) (V : Vw) (n k : Nat) : Prop where
 box : Blk w gv 50 #[v]
 res : Blk w gr 50 #[.slice none 0 0]
 row : ∃ P : List Pr, PRL.Row w W.heap.size v P ∧ P.length = V.length ∧ (∀ (j : Nat) (p : Pr) (x : Sd × Sd), P[j]? = some p → V[j]? = some x → ShO LVL w (if j < n ∨ j = n ∧ 0 < k then W.heap.size else 0) p.s x.1 ∧ ShO LVL w (if j < n ∨ j = n ∧ 1 < k then W.heap.size else 0) p.t x.2) ∧ Apart P (2 * n + k)
 bel : Below W.heap.size W w
 gv0 : W.heap.size ≤ gv
 gr0 : W.heap.size ≤ gr
section
variable {W w w' : World} {gv gr : Nat} {v : Value} {V : Vw} {n k : Nat}
theorem CpI.form (h : CpI W w gv gr v V n k) : ∃ a c, v = .slice a V.length c := by
 obtain ⟨P, h1, h2, _⟩ := h.row
 obtain ⟨a, c, e⟩ := h1.form
 exact ⟨a, c, by rw [e, h2]⟩
theorem CpI.next (h : CpI W w gv gr v V n 2) : CpI W w gv gr v V (n + 1) 0 := by
 obtain ⟨h1, h2, ⟨P, h3, h4, h5, h9⟩, h6, h7, h8⟩ := h
 refine ⟨h1, h2, ⟨P, h3, h4, fun j p x hp hx => ?_, by rw [show 2 * (n + 1) + 0 = 2 * n + 2 by omega]; exact h9⟩, h6, h7, h8⟩
 have := h5 j p x hp hx
 have e1 : (j < n ∨ j = n ∧ 0 < 2) = (j < n + 1 ∨ j = n + 1 ∧ 0 < 0) := by simp; omega
 have e2 : (j < n ∨ j = n ∧ 1 < 2) = (j < n + 1 ∨ j = n + 1 ∧ 1 < 0) := by simp; omega
 simp only [e1, e2] at this
 exact this
theorem CpI.below (h : CpI W w gv gr v V n k) (hb : Below w.heap.size w w') : CpI W w' gv gr v V n k := by
 obtain ⟨h1, h2, ⟨P, h3, h4, h5, h9⟩, h6, h7, h8⟩ := h
 exact ⟨h1.below hb, h2.below hb, ⟨P, h3.below hb, h4, fun j p x hp hx => ⟨(h5 j p x hp hx).1.below hb, (h5 j p x hp hx).2.below hb⟩, h9⟩, h6.trans (hb.mono h6.size), h7, h8⟩
theorem Lay.Row.far {α : Type} {Y : Lay α} {B : Nat} {u : Value} {L : List α} (h : Y.Row w B u L) {g : Nat} {t : TypeId} (ht : Tyd w g t) (hne : Y.t ≠ t) (i : Nat) (x : Value) : Y.Row (w.setCell ⟨g, i, none⟩ x) B u L :=
 own_keep h (keep1 w g i x) fun k hk e => (own_tyd h k hk).ne ht hne e
theorem ShO.far {Y : Lay Lv} {B : Nat} {s : Sh} {d : Sd} (h : ShO Y w B s d) {g : Nat} {t : TypeId} (ht : Tyd w g t) (hne : Y.t ≠ t) (i : Nat) (x : Value) : ShO Y (w.setCell ⟨g, i, none⟩ x) B s d := ⟨h.n, h.row.far ht hne i x, h.im, h.has⟩
/-- one side laid anew -/
theorem CpI.store {w0 : World} {go cap : Nat} {x : Sd × Sd} {a1 : Option Addr} {c1 : Nat} (h0 : CpI W w0 gv gr (.slice (some ⟨go, 0, none⟩) V.length cap) V n k) (hb : Below w0.heap.size w0 w) (hx : V[n]? = some x) (hk : k < 2)
  (hr0 : LVL.Row w w0.heap.size (.slice a1 (if k = 0 then x.1 else x.2).lv.length c1) (if k = 0 then x.1 else x.2).lv) :
  CpI W (w.setCell ⟨go, n * 10 + k * 5, none⟩ (.slice a1 (if k = 0 then x.1 else x.2).lv.length c1)) gv gr (.slice (some ⟨go, 0, none⟩) V.length cap) V n (k + 1) := by
 have hr := hr0.base (B' := W.heap.size) h0.bel.size
 obtain ⟨g1, g2, ⟨P, g3, g4, g5, h9⟩, g6, h7, h8⟩ := h0
 have hfr : ∀ (j s : Nat) (q : Pr) (g : Nat), P[j]? = some q → s < 2 → (q.sh s).own = some g → g < w0.heap.size := by
  intro j s q g hq hs hg
  have hjl := lt_of_get hq
  obtain ⟨y, hy⟩ : ∃ y, V[j]? = some y := ⟨_, List.getElem?_eq_getElem (by omega)⟩
  have := g5 j q y hq hy
  unfold Pr.sh at hg
  split at hg
  ·exact own_lt this.1.row g (by have e := this.1.n; unfold Sh.own at hg; exact hg)
  ·exact own_lt this.2.row g (by unfold Sh.own at hg; exact hg)
 have hnf : ∀ g, (Value.slice a1 (if k = 0 then x.1 else x.2).lv.length c1).ownBlock = some g → w0.heap.size ≤ g := own_base hr0
 have h1 := g1.below hb
 have h2 := g2.below hb
 have h3 := g3.below hb
 have h4 := g4
 have h5 : ∀ (j : Nat) (p : Pr) (x : Sd × Sd), P[j]? = some p → V[j]? = some x → ShO LVL w (if j < n ∨ j = n ∧ 0 < k then W.heap.size else 0) p.s x.1 ∧ ShO LVL w (if j < n ∨ j = n ∧ 1 < k then W.heap.size else 0) p.t x.2 := fun j p x hp hx => ⟨(g5 j p x hp hx).1.below hb, (g5 j p x hp hx).2.below hb⟩
 have h6 := g6.trans (hb.mono g6.size)
 clear g1 g2 g3 g4 g5 g6
 have hn := lt_of_get hx
 obtain ⟨p, hp⟩ : ∃ p, P[n]? = some p := ⟨_, List.getElem?_eq_getElem (by omega)⟩
 have htg : Tyd w go PRL.t := own_tyd h3 go rfl
 have hg0 : W.heap.size ≤ go := own_base h3 go rfl
 have hp5 := h5 n p x hp hx
 have hb1 := h1.far (p := ⟨go, n * 10 + k * 5, none⟩) (h1.tyd.ne htg (by decide)) (.slice a1 (if k = 0 then x.1 else x.2).lv.length c1)
 have hb2 := h2.far (p := ⟨go, n * 10 + k * 5, none⟩) (h2.tyd.ne htg (by decide)) (.slice a1 (if k = 0 then x.1 else x.2).lv.length c1)
 have hbl := h6.setCell (p := ⟨go, n * 10 + k * 5, none⟩) hg0 (.slice a1 (if k = 0 then x.1 else x.2).lv.length c1)
 have hset : ∀ (j : Nat) (q q' : Pr), (P.set n q)[j]? = some q' → (j = n ∧ q' = q) ∨ (j ≠ n ∧ P[j]? = some q') := by
  intro j q q' h
  rw [List.getElem?_set] at h
  split at h
  ·rename_i e
   split at h
   ·injection h with h; exact .inl ⟨e.symm, h.symm⟩
   ·cases h
  ·rename_i e; exact .inr ⟨fun e' => e e'.symm, h⟩
 have hap : ∀ (p' : Pr), (p'.sh k).own = (Value.slice a1 (if k = 0 then x.1 else x.2).lv.length c1).ownBlock → (∀ s, s < 2 → s ≠ k → p'.sh s = p.sh s) → Apart (P.set n p') (2 * n + (k + 1)) := by
  intro p' e1 e2 j j' s s' q q' g hq hq' hs hs' ht ht' hne hg hg'
  have hold : ∀ (j s : Nat) (q : Pr) (g : Nat), (P.set n p')[j]? = some q → s < 2 → (q.sh s).own = some g → (j = n ∧ s = k) ∨ (∃ q0, P[j]? = some q0 ∧ (q0.sh s).own = some g) := by
   intro j s q g hq hs hg
   rcases hset j _ q hq with ⟨rfl, rfl⟩ | ⟨_, hq⟩
   ·by_cases hsk : s = k
    ·exact .inl ⟨rfl, hsk⟩
    ·exact .inr ⟨p, hp, by rw [← e2 s hs hsk]; exact hg⟩
   ·exact .inr ⟨q, hq, hg⟩
  rcases hold j s q g hq hs hg with ⟨rfl, rfl⟩ | ⟨q0, a1', a2⟩
  ·rcases hold j' s' q' g hq' hs' hg' with ⟨rfl, rfl⟩ | ⟨q1, b1, b2⟩
   ·exact hne rfl
   ·rcases hset j _ q hq with ⟨_, rfl⟩ | ⟨hx, _⟩
    ·have := hnf g (by rw [← e1]; exact hg); have := hfr j' s' q1 g b1 hs' b2; omega
    ·exact hx rfl
  ·rcases hold j' s' q' g hq' hs' hg' with ⟨rfl, rfl⟩ | ⟨q1, b1, b2⟩
   ·rcases hset j' _ q' hq' with ⟨_, rfl⟩ | ⟨hx, _⟩
    ·have := hnf g (by rw [← e1]; exact hg'); have := hfr j s q0 g a1' hs a2; omega
    ·exact hx rfl
   ·by_cases hjk : 2 * j + s < 2 * n + k
    ·by_cases hjk' : 2 * j' + s' < 2 * n + k
     ·exact h9 j j' s s' q0 q1 g a1' b1 hs hs' hjk hjk' hne a2 b2
     ·have e3 : j' = n ∧ s' = k := by omega
      obtain ⟨rfl, rfl⟩ := e3
      rcases hset j' _ q' hq' with ⟨_, rfl⟩ | ⟨hx, _⟩
      ·have := hnf g (by rw [← e1]; exact hg'); have := hfr j s q0 g a1' hs a2; omega
      ·exact hx rfl
    ·have e3 : j = n ∧ s = k := by omega
     obtain ⟨rfl, rfl⟩ := e3
     rcases hset j _ q hq with ⟨_, rfl⟩ | ⟨hx, _⟩
     ·have := hnf g (by rw [← e1]; exact hg); have := hfr j' s' q1 g b1 hs' b2; omega
     ·exact hx rfl
 rcases (show k = 0 ∨ k = 1 by omega) with rfl | rfl
 ·simp only [if_true] at hap
  simp only [if_true] at hr hb1 hb2 hbl ⊢
  rw [show n * 10 + 0 * 5 = n * 10 + 0 by omega] at hb1 hb2 hbl ⊢
  have hst := h3.set_ (e' := ⟨⟨a1, x.1.lv.length, c1, p.s.im, p.s.has⟩, p.t⟩) (k := 0) (u := .slice a1 x.1.lv.length c1) hp (by decide) rfl
  refine ⟨hb1, hb2, ⟨_, hst, by rw [List.length_set]; exact h4, fun j q y hq hy => ?_, hap _ rfl (fun s hs hsk => by unfold Pr.sh; rw [if_neg hsk, if_neg hsk])⟩, hbl, h7, h8⟩
  have ha : ∀ {B s d}, ShO LVL w B s d → ShO LVL (w.setCell ⟨go, n * 10 + 0, none⟩ (.slice a1 x.1.lv.length c1)) B s d := fun h => h.far htg (by decide) _ _
  rcases hset j _ q hq with ⟨rfl, rfl⟩ | ⟨hne, hq⟩
  ·rw [hx] at hy; injection hy with hy; subst hy
   have h52 := hp5.2
   rw [if_neg (by omega)] at h52
   rw [if_pos (by omega), if_neg (by omega)]
   exact ⟨⟨rfl, hr.far htg (by decide) _ _, hp5.1.im, hp5.1.has⟩, ha h52⟩
  ·have hh := h5 j q y hq hy
   have e1 : (j < n ∨ j = n ∧ 0 < 0) = (j < n ∨ j = n ∧ 0 < 0 + 1) := by simp; omega
   have e2 : (j < n ∨ j = n ∧ 1 < 0) = (j < n ∨ j = n ∧ 1 < 0 + 1) := by simp
   simp only [← e1, ← e2]
   exact ⟨ha hh.1, ha hh.2⟩
 ·simp only [show ¬ ((1 : Nat) = 0) by decide, if_false] at hap
  simp only [show ¬ ((1 : Nat) = 0) by decide, if_false] at hr hb1 hb2 hbl ⊢
  rw [show n * 10 + 1 * 5 = n * 10 + 5 by omega] at hb1 hb2 hbl ⊢
  have hst := h3.set_ (e' := ⟨p.s, ⟨a1, x.2.lv.length, c1, p.t.im, p.t.has⟩⟩) (k := 5) (u := .slice a1 x.2.lv.length c1) hp (by decide) rfl
  refine ⟨hb1, hb2, ⟨_, hst, by rw [List.length_set]; exact h4, fun j q y hq hy => ?_, hap _ rfl (fun s hs hsk => by unfold Pr.sh; rw [if_pos (by omega), if_pos (by omega)])⟩, hbl, h7, h8⟩
  have ha : ∀ {B s d}, ShO LVL w B s d → ShO LVL (w.setCell ⟨go, n * 10 + 5, none⟩ (.slice a1 x.2.lv.length c1)) B s d := fun h => h.far htg (by decide) _ _
  rcases hset j _ q hq with ⟨rfl, rfl⟩ | ⟨hne, hq⟩
  ·rw [hx] at hy; injection hy with hy; subst hy
   have h51 := hp5.1
   rw [if_pos (by omega)] at h51
   rw [if_pos (by omega), if_pos (by omega)]
   exact ⟨ha h51, rfl, hr.far htg (by decide) _ _, hp5.2.im, hp5.2.has⟩
  ·have hh := h5 j q y hq hy
   have e1 : (j < n ∨ j = n ∧ 0 < 1) = (j < n ∨ j = n ∧ 0 < 1 + 1) := by simp
   have e2 : (j < n ∨ j = n ∧ 1 < 1) = (j < n ∨ j = n ∧ 1 < 1 + 1) := by simp; omega
   simp only [← e1, ← e2]
   exact ⟨ha hh.1, ha hh.2⟩
theorem CpI.fz {go cap : Nat} (h : CpI W w gv gr (.slice (some ⟨go, 0, none⟩) V.length cap) V n k) (hn : n < V.length) (o : Nat) : w.frozen? ⟨go, o, none⟩ = false := by
 obtain ⟨h1, h2, ⟨P, h3, h4, h5, _⟩, h6, h7, h8⟩ := h
 obtain ⟨g', cap', cur, e4, _, hbk⟩ := h3.blk (by intro h0; rw [h0] at h4; simp at h4; omega)
 injection e4 with e4; injection e4 with e4; injection e4 with e4
 subst e4
 exact hbk.frozen _
/-- what is read of a side -/
theorem CpI.side {x : Sd × Sd} (h : CpI W w gv gr v V n k) (hx : V[n]? = some x) (hk : k < 2) : ∃ go cap a1 c1, v = .slice (some ⟨go, 0, none⟩) V.length cap ∧ w.cell? ⟨go, n * 10 + k * 5, none⟩ = some (.slice a1 (if k = 0 then x.1 else x.2).lv.length c1) ∧ LVL.Sl w (.slice a1 (if k = 0 then x.1 else x.2).lv.length c1) (if k = 0 then x.1 else x.2).lv ∧ w.frozen? ⟨go, n * 10 + k * 5, none⟩ = false := by
 obtain ⟨h1, h2, ⟨P, h3, h4, h5, _⟩, h6, h7, h8⟩ := h
 have hn := lt_of_get hx
 obtain ⟨p, hp⟩ : ∃ p, P[n]? = some p := ⟨_, List.getElem?_eq_getElem (by omega)⟩
 obtain ⟨go, cap, e1, e2, e3⟩ := h3.at_ n p hp
 obtain ⟨g', cap', cur, e4, _, hbk⟩ := h3.blk (by intro h0; rw [h0] at hp; simp at hp)
 have hgg : g' = go := by rw [e1] at e4; injection e4 with e4; injection e4 with e4; injection e4 with e4; exact e4.symm
 subst hgg
 have hs := h5 n p x hp hx
 rcases (show k = 0 ∨ k = 1 by omega) with rfl | rfl
 ·refine ⟨g', cap, p.s.a, p.s.c, by rw [e1, h4], ?_, ?_, hbk.frozen _⟩
  ·have := e3 0 _ rfl
   rw [if_pos rfl, ← hs.1.n, show n * 10 + 0 * 5 = n * PRL.m + 0 from rfl]
   exact this
  ·rw [if_pos rfl]
   have := hs.1.row.sl
   rw [hs.1.n] at this
   exact this
 ·refine ⟨g', cap, p.t.a, p.t.c, by rw [e1, h4], ?_, ?_, hbk.frozen _⟩
  ·have := e3 5 _ rfl
   rw [if_neg (by decide), ← hs.2.n, show n * 10 + 1 * 5 = n * PRL.m + 5 from rfl]
   exact this
  ·rw [if_neg (by decide)]
   have := hs.2.row.sl
   rw [hs.2.n] at this
   exact this
set_option maxRecDepth 20000 in
set_option maxHeartbeats 8000000 in
theorem copy_any {w : World} {B : Nat} {v : Value} {V : Vw} (h : VO PRL LVL w B v V) (hl : V.length ≤ 255) {K : Nat} (hK : LenV V K) (hK2 : K ≤ 900000) :
  Calls Try.prog 61 #[.agg #[v]] w fun e w' => ∃ v', e = .returned (.agg #[v']) ∧ VOD w' w.heap.size v' V ∧ Below w.heap.size w w' := by
 obtain ⟨a, c, rfl⟩ := h.form
 have hz : ∀ (w : World) (o : Obj), (w.alloc o).heap.size = w.heap.size + 1 := fun w o => by simp
 have hb1 := (Below.allocN w (.cells #[.slice a V.length c] 50)).trans ((Below.allocN (w.alloc (.cells #[.slice a V.length c] 50)) (.cells #[.slice none 0 0] 50)).mono (by simp))
 have hg1 : Blk ((w.alloc (.cells #[.slice a V.length c] 50)).alloc (.cells #[.slice none 0 0] 50)) w.heap.size 50 #[.slice a V.length c] := (Blk.new w _ _).alloc _
 have hg2 : Blk ((w.alloc (.cells #[.slice a V.length c] 50)).alloc (.cells #[.slice none 0 0] 50)) (w.heap.size + 1) 50 #[.slice none 0 0] := by rw [← hz w (.cells #[.slice a V.length c] 50)]; exact Blk.new _ _ _
 obtain ⟨P, hP, hPl, hPs⟩ := h.below hb1
 have HB1 := Lib.hid hb1
 have HG1 := Lib.hid hg1
 have HG2 := Lib.hid hg2
 have HPS := Lib.hid hPs
 have HPL := Lib.hid hPl
 have HKK := Lib.hid hK
 have HCL := Lib.hid (clone_pr hP.sl (by omega))
 clear h hz hb1 hg1 hg2 hPs hP hPl hK
 go_enter Try.func61, Try.ntmps61
 go_upto_region 1 with (fail)
 obtain ⟨w1, hw1⟩ : ∃ w1, (w.alloc (.cells #[.slice a V.length c] 50)).alloc (.cells #[.slice none 0 0] 50) = w1 := ⟨_, rfl⟩
 obtain ⟨gv, hgv⟩ : ∃ gv, w.heap.size = gv := ⟨_, rfl⟩
 obtain ⟨gr, hgr⟩ : ∃ gr, w.heap.size + 1 = gr := ⟨_, rfl⟩
 rw [hw1] at HB1 HG1 HG2 HCL HPS ⊢
 rw [hgr] at HG2
 rw [hgv] at HG1
 rw [hgr, hgv]
 have N1 : Hid (gv ≠ gr) := Lib.hid (by omega)
 have N2 : Hid (w.heap.size ≤ gv) := Lib.hid (by omega)
 have N3 : Hid (w.heap.size ≤ gr) := Lib.hid (by omega)
 clear hw1 hgv hgr
 have b0 : w1.cell? ⟨gv, 0, none⟩ = some (.slice a V.length c) := HG1.out.cell 0
 go_wp2_with fail
 refine HCL.out.mono ?_
 rintro e w2 ⟨v', rfl, hr, hb⟩
 obtain ⟨a2, c2, hv⟩ := hr.form
 rw [HPL.out] at hv
 subst hv
 have hg2 := HG1.out.below hb
 have hc0 : CpI w (w2.setCell ⟨gv, 0, none⟩ (.slice a2 V.length c2)) gv gr (.slice a2 V.length c2) V 0 0 := by
  refine ⟨by have := hg2.set_ 0 (.slice a2 V.length c2); exact this, (HG2.out.below hb).far (p := ⟨gv, 0, none⟩) (Ne.symm N1.out) _, ⟨P, ?_, HPL.out, fun j p x hp hx => ?_, fun j j' s s' p p' g _ _ _ _ h _ => absurd h (by omega)⟩, (HB1.out.trans (hb.mono HB1.out.size)).setCell (p := ⟨gv, 0, none⟩) N2.out _, N2.out, N3.out⟩
  ·exact (hr.base HB1.out.size).far hg2.tyd (by decide) 0 _
  ·have hs := HPS.out j p x hp hx
   rw [if_neg (by omega), if_neg (by omega)]
   exact ⟨((hs.1.below hb).base (Nat.zero_le _)).far hg2.tyd (by decide) 0 _, ((hs.2.below hb).base (Nat.zero_le _)).far hg2.tyd (by decide) 0 _⟩
 have C0 := Lib.hid hc0
 have b2 : w2.cell? ⟨gv, 0, none⟩ = some (.slice a V.length c) := hg2.cell 0
 have fz2 : w2.frozen? ⟨gv, 0, none⟩ = false := hg2.frozen 0
 clear hr hb hg2 hc0 HCL b0 HPS HG1 HG2 HB1
 go_upto_region 2 with (fail)
 clear b2 fz2
 generalize w2.setCell ⟨gv, 0, none⟩ (.slice a2 V.length c2) = w3 at *
 have b3 : w3.cell? ⟨gv, 0, none⟩ = some (.slice a2 V.length c2) := C0.out.box.cell 0
 go_wp2_with fail
 go_loopw [12] (fun i w' => ∃ n : Nat, i = .int .i64 n ∧ n ≤ V.length ∧ CpI w w' gv gr (.slice a2 V.length c2) V n 0) (fun i _ => V.length - (RowKit.intOf i).toNat)
 case atStart => exact ⟨0, rfl, Nat.zero_le _, C0.out⟩
 case round =>
  clear C0 b3
  obtain ⟨n, rfl, hn, hC⟩ := hrel
  obtain ⟨wz, rfl⟩ : ∃ wo : World, wo = wr := ⟨_, rfl⟩
  have C1 := Lib.hid hC
  clear hC
  by_cases hlt : n < V.length
  ·have hlt' : (n : Int) < (V.length : Int) := by omega
   obtain ⟨x, hx⟩ : ∃ x, V[n]? = some x := ⟨_, List.getElem?_eq_getElem hlt⟩
   have HX := Lib.hid hx
   clear hx
   go_wp2_with fail
   go_loopw [15] (fun i w' => ∃ k : Nat, i = .int .i64 k ∧ k ≤ 2 ∧ CpI w w' gv gr (.slice a2 V.length c2) V n k) (fun i _ => 2 - (RowKit.intOf i).toNat)
   case atStart => exact ⟨0, rfl, Nat.zero_le _, C1.out⟩
   case round =>
    clear C1
    obtain ⟨k, rfl, hk, hC⟩ := hrel
    obtain ⟨wy, rfl⟩ : ∃ wo : World, wo = wr := ⟨_, rfl⟩
    have C2 := Lib.hid hC
    by_cases hk2 : k < 2
    ·have hk2' : (k : Int) < 2 := by omega
     obtain ⟨go, cap, a1, c1, he, hcs, hsl, hfz⟩ := hC.side HX.out hk2
     injection he with he _ he2
     subst he
     subst he2
     have hKx : (if k = 0 then x.1 else x.2).lv.length ≤ K := by
      have := HKK.out x (List.mem_of_getElem? HX.out)
      split
      ·exact this.1
      ·exact this.2
     have hS : wy.cell? ⟨gv, 0, none⟩ = some (.slice (some ⟨go, 0, none⟩) V.length c2) ∧ wy.cell? ⟨go, n * 10 + k * 5, none⟩ = some (.slice a1 (if k = 0 then x.1 else x.2).lv.length c1) := ⟨hC.box.cell 0, hcs⟩
     have HCL2 := Lib.hid (clone_lvl (hsl.below (Below.drewN_of wy 1)) (by omega))
     have HS := Lib.hid hS
     obtain ⟨L, hL⟩ : ∃ L, (if k = 0 then x.1 else x.2).lv = L := ⟨_, rfl⟩
     rw [hL] at hS HCL2 hsl hcs
     have HLL := Lib.hid hL
     rw [hL] at HS
     clear hL hcs hsl hfz hC hKx
     go_upto_region 8 with (fail)
     refine wp_region_E (S := fun w' => w'.cell? ⟨gv, 0, none⟩ = some (.slice (some ⟨go, 0, none⟩) V.length c2) ∧ w'.cell? ⟨go, n * 10 + k * 5, none⟩ = some (.slice a1 L.length c1)) (by kernel_rfl) hS (fun hHeld => ?_)
     refine wpE_tk 0 (oi := ?o1) (v := ?v1) ?h1 (by kernel_rfl) ?q1 ?y1 (by assumption) ?_
     case h1 => (simp only [List.getElem?_toArray]; rfl)
     case q1 => exact fun _ _ _ h => h
     case y1 => exact Or.inl ⟨by rfl, by (intro w hSw; (try dsimp only at hSw); go_simp; try with_reducible rfl)⟩
     try simp only [Act.put, sA, sB, sC]
     refine wpE_tk 1 (oi := ?o2) (v := ?v2) ?h2 (by kernel_rfl) ?q2 ?y2 (by assumption) ?_
     case h2 => (simp only [List.getElem?_toArray]; rfl)
     case q2 => exact fun _ _ _ h => h
     case y2 => exact Or.inl ⟨by rfl, by (intro w hSw; (try dsimp only at hSw); go_simp; try with_reducible rfl)⟩
     try simp only [Act.put, sA, sB, sC]
     refine wpE_tk 2 (oi := ?o3) (v := ?v3) ?h3 (by kernel_rfl) ?q3 ?y3 (by assumption) ?_
     case h3 => (simp only [List.getElem?_toArray]; rfl)
     case q3 => exact fun _ _ _ h => h
     case y3 => exact Or.inl ⟨by rfl, by (intro w hSw; (try dsimp only at hSw); go_simp; try with_reducible rfl)⟩
     try simp only [Act.put, sA, sB, sC]
     refine wpE_tk 3 (oi := ?o4) (v := ?v4) ?h4 (by kernel_rfl) ?q4 ?y4 (by assumption) ?_
     case h4 => (simp only [List.getElem?_toArray]; rfl)
     case q4 => exact fun _ _ _ h => h
     case y4 => exact Or.inl ⟨by rfl, by (intro w hSw; (try dsimp only at hSw); go_simp; try with_reducible rfl)⟩
     try simp only [Act.put, sA, sB, sC]
     refine wpE_tk 4 (oi := ?o5) (v := ?v5) ?h5 (by kernel_rfl) ?q5 ?y5 (by assumption) ?_
     case h5 => (simp only [List.getElem?_toArray]; rfl)
     case q5 => exact fun _ _ _ h => h
     case y5 => exact Or.inl ⟨by rfl, by (intro w hSw; (try dsimp only at hSw); go_simp; try with_reducible rfl)⟩
     try simp only [Act.put, sA, sB, sC]
     refine wpE_tk 5 (oi := ?o6) (v := ?v6) ?h6 (by kernel_rfl) ?q6 ?y6 (by assumption) ?_
     case h6 => (simp only [List.getElem?_toArray]; rfl)
     case q6 => exact fun _ _ _ h => h
     case y6 => exact Or.inl ⟨by rfl, by (intro w hSw; (try dsimp only at hSw); go_simp; try with_reducible rfl)⟩
     try simp only [Act.put, sA, sB, sC]
     refine wpE_tk 6 (oi := ?o7) (v := ?v7) ?h7 (by kernel_rfl) ?q7 ?y7 (by assumption) ?_
     case h7 => (simp only [List.getElem?_toArray]; rfl)
     case q7 => exact fun _ _ _ h => h
     case y7 => exact Or.inl ⟨by rfl, by (intro w hSw; (try dsimp only at hSw); go_simp; try with_reducible rfl)⟩
     try simp only [Act.put, sA, sB, sC]
     refine wpE_tk 7 (oi := ?o8) (v := ?v8) ?h8 (by kernel_rfl) ?q8 ?y8 (by assumption) ?_
     case h8 => (simp only [List.getElem?_toArray]; rfl)
     case q8 => exact fun _ _ _ h => h
     case y8 => exact Or.inl ⟨by rfl, by (intro w hSw; (try dsimp only at hSw); go_simp; try with_reducible rfl)⟩
     try simp only [Act.put, sA, sB, sC]
     refine wpE_tk 8 (oi := ?o9) (v := ?v9) ?h9 (by kernel_rfl) ?q9 ?y9 (by assumption) ?_
     case h9 => (simp only [List.getElem?_toArray]; rfl)
     case q9 => exact fun _ _ _ h => h
     case y9 => exact Or.inl ⟨by rfl, by (intro w hSw; (try dsimp only at hSw); go_simp; try with_reducible rfl)⟩
     try simp only [Act.put, sA, sB, sC]
     refine wpE_tk 9 (oi := ?o10) (v := ?v10) ?h10 (by kernel_rfl) ?q10 ?y10 (by assumption) ?_
     case h10 => (simp only [List.getElem?_toArray]; rfl)
     case q10 => exact fun _ _ _ h => h
     case y10 => exact Or.inl ⟨by rfl, by (intro w hSw; (try dsimp only at hSw); go_simp; try with_reducible rfl)⟩
     try simp only [Act.put, sA, sB, sC]
     refine wpE_tk 10 (oi := ?o11) (v := ?v11) ?h11 (by kernel_rfl) ?q11 ?y11 (by assumption) ?_
     case h11 => (simp only [List.getElem?_toArray]; rfl)
     case q11 => exact fun _ _ _ h => h
     case y11 => exact Or.inl ⟨by rfl, by (intro w hSw; (try dsimp only at hSw); go_simp; try with_reducible rfl)⟩
     try simp only [Act.put, sA, sB, sC]
     refine wpE_tk 11 (oi := ?o12) (v := ?v12) ?h12 (by kernel_rfl) ?q12 ?y12 (by assumption) ?_
     case h12 => (simp only [List.getElem?_toArray]; rfl)
     case q12 => exact fun _ _ _ h => h
     case y12 => exact Or.inl ⟨by rfl, by (intro w hSw; (try dsimp only at hSw); go_simp; try with_reducible rfl)⟩
     try simp only [Act.put, sA, sB, sC]
     refine wpE_tk 13 (oi := ?o13) (v := ?v13) ?h13 (by kernel_rfl) ?q13 ?y13 (by assumption) ?_
     case h13 => (simp only [List.getElem?_toArray]; rfl)
     case q13 => exact fun _ _ _ h => h
     case y13 => exact Or.inl ⟨by rfl, by (intro w hSw; (try dsimp only at hSw); go_simp; try with_reducible rfl)⟩
     try simp only [Act.put, sA, sB, sC]
     refine wpE_one (i := 12) (o := ?o16) ?ho16 (by kernel_rfl) (fun K hK => ?_)
     case ho16 => (simp only [List.getElem?_toArray]; rfl)
     go_simp
     refine HCL2.out.mono ?_
     rintro e w4 ⟨v', rfl, hr, hb⟩
     obtain ⟨a3, c3, rfl⟩ := hr.form
     have hb4 := (Below.drewN_of wy 1).trans (hb.mono (Nat.le_refl _))
     have C4 := Lib.hid (C2.out.below hb4)
     have R4 := Lib.hid (show LVL.Row w4 wy.heap.size (.slice a3 L.length c3) L from hr)
     have HB4 := Lib.hid hb4
     have C2' := C2
     have hS4 : w4.cell? ⟨gv, 0, none⟩ = some (.slice (some ⟨go, 0, none⟩) V.length c2) ∧ w4.cell? ⟨go, n * 10 + k * 5, none⟩ = some (.slice a1 L.length c1) := by
      refine ⟨C4.out.box.cell 0, ?_⟩
      have hlt4 : go < wy.heap.size := own_lt C2.out.row.choose_spec.1 go rfl
      exact (hb4.cell (p := ⟨go, n * 10 + k * 5, none⟩) hlt4).trans HS.out.2
     refine hK.out _ _ hS4 (fun hHeld => ?_)
     clear hK K hr hb hb4 hS hS4 HCL2 C2 HS
     refine wpE_tk 14 (oi := ?o14) (v := ?v14) ?h14 (by kernel_rfl) ?q14 ?y14 (by assumption) ?_
     case h14 => (simp only [List.getElem?_toArray]; rfl)
     case q14 => exact fun _ _ _ h => h
     case y14 => exact Or.inl ⟨by rfl, by (intro w hSw; (try dsimp only at hSw); go_simp; try with_reducible rfl)⟩
     try simp only [Act.put, sA, sB, sC]
     refine wpE_tk 15 (oi := ?o15) (v := ?v15) ?h15 (by kernel_rfl) ?q15 ?y15 (by assumption) ?_
     case h15 => (simp only [List.getElem?_toArray]; rfl)
     case q15 => exact fun _ _ _ h => h
     case y15 => exact Or.inl ⟨by rfl, by (intro w hSw; (try dsimp only at hSw); go_simp; try with_reducible rfl)⟩
     try simp only [Act.put, sA, sB, sC]
     refine wpE_last (i := 16) (o := ?o17) ?ho17 (by kernel_rfl) (by kernel_rfl) (by kernel_rfl) (fun K hK => ?_)
     case ho17 => (simp only [List.getElem?_toArray]; rfl)
     have fz4 : w4.frozen? ⟨go, n * 10 + k * 5, none⟩ = false := C4.out.fz hlt _
     go_simp
     refine hK.out _ _ ?_
     rw [← HLL.out] at R4 hHeld ⊢
     have C5 := Lib.hid (C2'.out.store HB4.out HX.out hk2 R4.out)
     clear hK K hHeld fz4 C4 R4 C2' HB4
     go_wp2_with fail
     go_roundw
     case rel => exact ⟨k + 1, by go_num, by omega, C5.out⟩
     case measure => simp [RowKit.intOf]; omega
    ·obtain rfl : k = 2 := by omega
     have C3 := Lib.hid hC.next
     clear hC C2
     go_wp2_with fail
     go_roundw
     case rel => exact ⟨n + 1, by go_num, hlt, C3.out⟩
     case measure => simp [RowKit.intOf]; omega
  ·obtain rfl : n = V.length := by omega
   have hC := C1.out
   have c0 : wz.cell? ⟨gv, 0, none⟩ = some (.slice a2 V.length c2) := hC.box.cell 0
   have r0 : wz.cell? ⟨gr, 0, none⟩ = some (.slice none 0 0) := hC.res.cell 0
   have fz : wz.frozen? ⟨gr, 0, none⟩ = false := hC.res.frozen 0
   have hz : Blk (wz.setCell ⟨gr, 0, none⟩ (.slice a2 V.length c2)) gr 50 #[.slice a2 V.length c2] := hC.res.set_ 0 _
   have hbz := hC.bel.setCell (p := ⟨gr, 0, none⟩) N3.out (.slice a2 V.length c2)
   have hvo : VOD (wz.setCell ⟨gr, 0, none⟩ (.slice a2 V.length c2)) w.heap.size (.slice a2 V.length c2) V := by
    obtain ⟨P, h3, h4, h5, h9⟩ := hC.row
    refine ⟨P, h3.far hC.res.tyd (by decide) 0 _, h4, fun j p x hp hx => ?_, h9⟩
    have hs := h5 j p x hp hx
    have hj := lt_of_get hx
    rw [if_pos (.inl hj), if_pos (.inl hj)] at hs
    exact ⟨hs.1.far hC.res.tyd (by decide) 0 _, hs.2.far hC.res.tyd (by decide) 0 _⟩
   have HZ := Lib.hid hz
   have HBZ := Lib.hid hbz
   have HVO := Lib.hid hvo
   clear hC hz hbz hvo C1
   go_wp2_with fail
   clear c0 r0 fz
   generalize wz.setCell ⟨gr, 0, none⟩ (.slice a2 V.length c2) = wf at *
   have k0 : wf.cell? ⟨gr, 0, none⟩ = some (.slice a2 V.length c2) := HZ.out.cell 0
   refine bodyPost_ret (v := .agg #[.slice a2 V.length c2]) (by simp [results, Try.results61, go_sem, k0]) rfl ⟨_, rfl, HVO.out, HBZ.out⟩
end
end Go.Proofs.Ytmaijkoopjocdaa

/- The walk of feed.Fine. -/
namespace Go.Proofs.Ytmaijkoopjocdaa
open Go.RowKit Go.Lib

def fineC (n : Nat) (m : Mg) : Int := if m.inst < 0 ∨ (n : Int) ≤ m.inst then 20 else if ¬ (m.side = 1 ∨ m.side = 2) then 21 else if m.qty < 0 ∨ m.count < 0 ∨ ¬ (m.qty = 0 ↔ m.count = 0) then 24 else 0
theorem fineC_iff {n : Nat} {m : Mg} : fineC n m = 0 ↔ fineP n m = true := by
 unfold fineC
 rw [fine_iff]
 constructor
 ·intro h
  split at h
  ·cases h
  ·split at h
   ·cases h
   ·split at h
    ·cases h
    ·rename_i h1 h2 h3
     have h2' := Decidable.not_not.1 h2
     have a1 : ¬ m.inst < 0 := fun x => h1 (.inl x)
     have a2 : ¬ (n : Int) ≤ m.inst := fun x => h1 (.inr x)
     have a3 : ¬ m.qty < 0 := fun x => h3 (.inl x)
     have a4 : ¬ m.count < 0 := fun x => h3 (.inr (.inl x))
     exact ⟨by omega, by omega, h2', by omega, by omega, Decidable.not_not.1 fun x => h3 (.inr (.inr x))⟩
 ·intro h
  rw [if_neg (by rintro (x | x); have := h.i0; omega; have := h.i1; omega), if_neg (fun x => x h.sd), if_neg (by rintro (x | x | x); have := h.q0; omega; have := h.c0; omega; exact x h.qc)]
set_option maxRecDepth 20000 in
set_option maxHeartbeats 8000000 in
theorem fine_any (n : Nat) (m : Mg) (w : World) :
  Calls Try.prog 21 #[.int .i64 n, m.agg] w fun e w' => e = .returned (.int .i64 (fineC n m)) ∧ Below w.heap.size w w' := by
 unfold Mg.agg
 have HV : Hid (fineC n m = if m.inst < 0 ∨ (n : Int) ≤ m.inst then 20 else if ¬ (m.side = 1 ∨ m.side = 2) then 21 else if m.qty < 0 ∨ m.count < 0 ∨ ¬ (m.qty = 0 ↔ m.count = 0) then 24 else 0) := Lib.hid rfl
 rw [HV.out]
 have HB := Lib.hid (Below.allocN w (.cells #[.int .i64 m.seq, .int .i64 m.inst, .int .i64 m.side, .int .i64 m.price, .int .i64 m.qty, .int .i64 m.count, .bool m.imp] 34))
 clear HV
 obtain ⟨q, i, d, p, t, c, f⟩ := m
 dsimp only at *
 by_cases h1 : i < 0
 ·rw [if_pos (.inl h1)]
  go_enter Try.func21, Try.ntmps21
  go_wp2_with fail
  go_ret
  exact ⟨by trivial, HB.out⟩
 ·by_cases h2 : (n : Int) ≤ i
  ·rw [if_pos (.inr h2)]
   go_enter Try.func21, Try.ntmps21
   go_wp2_with fail
   go_ret
   exact ⟨by trivial, HB.out⟩
  ·rw [if_neg (by rintro (x | x); exact h1 x; exact h2 x)]
   by_cases h3 : d = 1
   ·rw [if_neg (fun x => x (.inl h3))]
    subst h3
    by_cases h5 : t < 0
    ·rw [if_pos (.inl h5)]
     go_enter Try.func21, Try.ntmps21
     go_wp2_with fail
     go_ret
     exact ⟨by trivial, HB.out⟩
    ·by_cases h6 : c < 0
     ·rw [if_pos (.inr (.inl h6))]
      go_enter Try.func21, Try.ntmps21
      go_wp2_with fail
      go_ret
      exact ⟨by trivial, HB.out⟩
     ·by_cases h7 : t = 0
      ·have h7b : (t == 0) = true := by rw [h7]; rfl
       by_cases h8 : c = 0
       ·have h8b : (c == 0) = true := by rw [h8]; rfl
        rw [if_neg (by rintro (x | x | x); exact h5 x; exact h6 x; exact x (by simp [h7, h8]))]
        clear h7 h8
        go_enter Try.func21, Try.ntmps21
        go_wp2_with fail
        go_ret
        exact ⟨by trivial, HB.out⟩
       ·have h8b : (c == 0) = false := by rw [beq_eq_false_iff_ne]; exact h8
        rw [if_pos (.inr (.inr (by rw [h7]; intro y; exact h8 (y.1 rfl))))]
        clear h7 h8
        go_enter Try.func21, Try.ntmps21
        go_wp2_with fail
        go_ret
        exact ⟨by trivial, HB.out⟩
      ·have h7b : (t == 0) = false := by rw [beq_eq_false_iff_ne]; exact h7
       by_cases h8 : c = 0
       ·have h8b : (c == 0) = true := by rw [h8]; rfl
        rw [if_pos (.inr (.inr (by rw [h8]; intro y; exact h7 (y.2 rfl))))]
        clear h7 h8
        go_enter Try.func21, Try.ntmps21
        go_wp2_with fail
        go_ret
        exact ⟨by trivial, HB.out⟩
       ·have h8b : (c == 0) = false := by rw [beq_eq_false_iff_ne]; exact h8
        rw [if_neg (by rintro (x | x | x); exact h5 x; exact h6 x; exact x (by constructor <;> intro y; exact absurd y h7; exact absurd y h8))]
        clear h7 h8
        go_enter Try.func21, Try.ntmps21
        go_wp2_with fail
        go_ret
        exact ⟨by trivial, HB.out⟩
   ·have h3b : (d != 1) = true := by simpa using h3
    by_cases h4 : d = 2
    ·rw [if_neg (fun x => x (.inr h4))]
     subst h4
     clear h3 h3b
     by_cases h5 : t < 0
     ·rw [if_pos (.inl h5)]
      go_enter Try.func21, Try.ntmps21
      go_wp2_with fail
      go_ret
      exact ⟨by trivial, HB.out⟩
     ·by_cases h6 : c < 0
      ·rw [if_pos (.inr (.inl h6))]
       go_enter Try.func21, Try.ntmps21
       go_wp2_with fail
       go_ret
       exact ⟨by trivial, HB.out⟩
      ·by_cases h7 : t = 0
       ·have h7b : (t == 0) = true := by rw [h7]; rfl
        by_cases h8 : c = 0
        ·have h8b : (c == 0) = true := by rw [h8]; rfl
         rw [if_neg (by rintro (x | x | x); exact h5 x; exact h6 x; exact x (by simp [h7, h8]))]
         clear h7 h8
         go_enter Try.func21, Try.ntmps21
         go_wp2_with fail
         go_ret
         exact ⟨by trivial, HB.out⟩
        ·have h8b : (c == 0) = false := by rw [beq_eq_false_iff_ne]; exact h8
         rw [if_pos (.inr (.inr (by rw [h7]; intro y; exact h8 (y.1 rfl))))]
         clear h7 h8
         go_enter Try.func21, Try.ntmps21
         go_wp2_with fail
         go_ret
         exact ⟨by trivial, HB.out⟩
       ·have h7b : (t == 0) = false := by rw [beq_eq_false_iff_ne]; exact h7
        by_cases h8 : c = 0
        ·have h8b : (c == 0) = true := by rw [h8]; rfl
         rw [if_pos (.inr (.inr (by rw [h8]; intro y; exact h7 (y.2 rfl))))]
         clear h7 h8
         go_enter Try.func21, Try.ntmps21
         go_wp2_with fail
         go_ret
         exact ⟨by trivial, HB.out⟩
        ·have h8b : (c == 0) = false := by rw [beq_eq_false_iff_ne]; exact h8
         rw [if_neg (by rintro (x | x | x); exact h5 x; exact h6 x; exact x (by constructor <;> intro y; exact absurd y h7; exact absurd y h8))]
         clear h7 h8
         go_enter Try.func21, Try.ntmps21
         go_wp2_with fail
         go_ret
         exact ⟨by trivial, HB.out⟩
    ·have h4b : (d != 2) = true := by simpa using h4
     rw [if_pos (by rintro (x | x); exact h3 x; exact h4 x)]
     clear h3 h4
     go_enter Try.func21, Try.ntmps21
     go_wp2_with fail
     go_ret
     exact ⟨by trivial, HB.out⟩
end Go.Proofs.Ytmaijkoopjocdaa

/- A view whose one side is turned: what feed.Apply's stores leave. -/
namespace Go.Proofs.Ytmaijkoopjocdaa
open Go.RowKit Go.Lib

def Pr.put (p : Pr) (s : Nat) (x : Sh) : Pr := if s = 0 then ⟨x, p.t⟩ else ⟨p.s, x⟩
def sdOf (x : Sd × Sd) (s : Nat) : Sd := if s = 0 then x.1 else x.2
def sdPut (x : Sd × Sd) (s : Nat) (d : Sd) : Sd × Sd := if s = 0 then (d, x.2) else (x.1, d)
theorem Pr.put_put (p : Pr) (s : Nat) (x y : Sh) : (p.put s x).put s y = p.put s y := by unfold Pr.put; split <;> rfl
theorem Pr.put_sh (p : Pr) (s : Nat) (x : Sh) : (p.put s x).sh s = x := by unfold Pr.put Pr.sh; split <;> rfl
theorem Pr.put_ne (p : Pr) {s t : Nat} (hs : s < 2) (ht : t < 2) (h : t ≠ s) (x : Sh) : (p.put s x).sh t = p.sh t := by
 unfold Pr.put Pr.sh
 rcases (show s = 0 ∨ s = 1 by omega) with rfl | rfl
 ·rw [if_pos rfl, if_neg h, if_neg h]
 ·obtain rfl : t = 0 := by omega
  rfl
section
variable {w w' : World} {B go cap i s : Nat} {P : List Pr} {p : Pr} {V : Vw}
theorem set_self {α : Type} {L : List α} {i : Nat} {x : α} (h : L[i]? = some x) (y : α) : (L.set i y)[i]? = some y := by
 rw [List.getElem?_set_self (by have := lt_of_get h; exact this)]
/-- one cell of a side stored -/
theorem Row.putF (h : PRL.Row w B (.slice (some ⟨go, 0, none⟩) V.length cap) P) (hp : P[i]? = some p) (hs : s < 2) {f : Nat} (hf : f < 5) {x : Sh} {u : Value} (he : x.cells = (p.sh s).cells.set f u) :
  PRL.Row (w.setCell ⟨go, i * 10 + s * 5 + f, none⟩ u) B (.slice (some ⟨go, 0, none⟩) V.length cap) (P.set i (p.put s x)) := by
 rw [show i * 10 + s * 5 + f = i * PRL.m + (s * 5 + f) by show _ = i * 10 + (s * 5 + f); omega]
 refine h.set_ hp (by show s * 5 + f < 10; omega) ?_
 have e : ∀ q : Pr, PRL.cells q = q.s.cells ++ q.t.cells := fun _ => rfl
 have l5 : ∀ y : Sh, y.cells.length = 5 := fun _ => rfl
 rw [e, e]
 rcases (show s = 0 ∨ s = 1 by omega) with rfl | rfl
 ·show x.cells ++ p.t.cells = _
  rw [List.set_append_left _ _ (by rw [l5]; omega), he, show 0 * 5 + f = f by omega]; rfl
 ·show p.s.cells ++ x.cells = _
  rw [List.set_append_right _ _ (by rw [l5]; omega), he, l5, show 1 * 5 + f - 5 = f by omega]; rfl
/-- an implied level stored -/
theorem Row.putI (h : PRL.Row w B (.slice (some ⟨go, 0, none⟩) V.length cap) P) (hp : P[i]? = some p) (hs : s < 2) (l : Lv) :
  PRL.Row (((w.setCell ⟨go, i * 10 + s * 5 + 1, none⟩ (.int .i64 l.price)).setCell ⟨go, i * 10 + s * 5 + 1 + 1, none⟩ (.int .i64 l.qty)).setCell ⟨go, i * 10 + s * 5 + 1 + 2, none⟩ (.int .i64 l.count)) B (.slice (some ⟨go, 0, none⟩) V.length cap) (P.set i (p.put s ⟨(p.sh s).a, (p.sh s).n, (p.sh s).c, l, (p.sh s).has⟩)) := by
 have h1 := Row.putF h hp hs (f := 1) (by decide) (x := ⟨(p.sh s).a, (p.sh s).n, (p.sh s).c, ⟨l.price, (p.sh s).im.qty, (p.sh s).im.count⟩, (p.sh s).has⟩) (u := .int .i64 l.price) rfl
 have h2 := Row.putF h1 (set_self hp _) hs (f := 2) (by decide) (x := ⟨(p.sh s).a, (p.sh s).n, (p.sh s).c, ⟨l.price, l.qty, (p.sh s).im.count⟩, (p.sh s).has⟩) (u := .int .i64 l.qty) (by rw [Pr.put_sh]; rfl)
 rw [List.set_set, Pr.put_put] at h2
 have h3 := Row.putF h2 (set_self hp _) hs (f := 3) (by decide) (x := ⟨(p.sh s).a, (p.sh s).n, (p.sh s).c, l, (p.sh s).has⟩) (u := .int .i64 l.count) (by rw [Pr.put_sh]; rfl)
 rw [List.set_set, Pr.put_put] at h3
 exact h3
theorem keep3 (w : World) (go o : Nat) (a b c : Value) : Keeps (fun g => g = go) w (((w.setCell ⟨go, o + 1, none⟩ a).setCell ⟨go, o + 1 + 1, none⟩ b).setCell ⟨go, o + 1 + 2, none⟩ c) :=
 ((keep1 w go _ a).trans (keep1 _ go _ b)).trans (keep1 _ go _ c)
/-- the cells of a side -/
theorem side_cells (h : PRL.Row w B (.slice (some ⟨go, 0, none⟩) V.length cap) P) (hp : P[i]? = some p) (hs : s < 2) {f : Nat} {u : Value} (he : (p.sh s).cells[f]? = some u) : w.cell? ⟨go, i * 10 + s * 5 + f, none⟩ = some u := by
 obtain ⟨g', cap', e1, _, e3⟩ := h.at_ i p hp
 have hgg : g' = go := by injection e1 with e1; injection e1 with e1; injection e1 with e1; exact e1.symm
 subst hgg
 have hf : f < 5 := by have := lt_of_get he; exact this
 have := e3 (s * 5 + f) u (by
  have e : PRL.cells p = p.s.cells ++ p.t.cells := rfl
  have l5 : ∀ y : Sh, y.cells.length = 5 := fun _ => rfl
  rw [e]
  rcases (show s = 0 ∨ s = 1 by omega) with rfl | rfl
  ·rw [List.getElem?_append_left (by rw [l5]; omega), show 0 * 5 + f = f by omega]; exact he
  ·rw [List.getElem?_append_right (by rw [l5]; omega), l5, show 1 * 5 + f - 5 = f by omega]; exact he)
 rw [show i * 10 + s * 5 + f = i * PRL.m + (s * 5 + f) by show _ = i * 10 + (s * 5 + f); omega]
 exact this
/-- the end of a turn: one side is another, the rest lies as it lay -/
theorem VOD.fin {x : Sd × Sd} {sh : Sh} {d : Sd} {F : Nat → Prop} (hl : P.length = V.length) (hsh : ∀ (j : Nat) (p : Pr) (x : Sd × Sd), P[j]? = some p → V[j]? = some x → ShO LVL w B p.s x.1 ∧ ShO LVL w B p.t x.2) (hap : Apart P (2 * V.length))
  (hp : P[i]? = some p) (hx : V[i]? = some x) (hs : s < 2) (hk : Keeps F w w') (hF : ∀ g, Tyd w g LVL.t → F g → (p.sh s).own = some g)
  (hr : PRL.Row w' B (.slice (some ⟨go, 0, none⟩) V.length cap) (P.set i (p.put s sh))) (hd : ShO LVL w' B sh d) : VO PRL LVL w' B (.slice (some ⟨go, 0, none⟩) V.length cap) (V.set i (sdPut x s d)) := by
 have hil := lt_of_get hx
 have keepS : ∀ (j t : Nat) (q : Pr) (y : Sd × Sd), P[j]? = some q → V[j]? = some y → t < 2 → 2 * j + t ≠ 2 * i + s → ShO LVL w' B (q.sh t) (sdOf y t) := by
  intro j t q y hq hy ht hne
  have hjl := lt_of_get hy
  have hh : ShO LVL w B (q.sh t) (sdOf y t) := by
   have := hsh j q y hq hy
   unfold Pr.sh sdOf
   split
   ·exact this.1
   ·exact this.2
  refine ⟨hh.n, own_keep hh.row hk fun g hg hf => ?_, hh.im, hh.has⟩
  have h1 := hF g (own_tyd hh.row g hg) hf
  exact hap j i t s q p g hq hp ht hs (by omega) (by omega) hne (by unfold Sh.own; exact hg) h1
 refine ⟨P.set i (p.put s sh), hr, by rw [List.length_set, List.length_set]; exact hl, fun j q y hq hy => ?_⟩
 by_cases hj : j = i
 ·subst hj
  rw [set_self hp] at hq
  rw [set_self hx] at hy
  injection hq with hq
  injection hy with hy
  subst hq; subst hy
  rcases (show s = 0 ∨ s = 1 by omega) with rfl | rfl
  ·exact ⟨hd, keepS j 1 p x hp hx (by decide) (by omega)⟩
  ·exact ⟨keepS j 0 p x hp hx (by decide) (by omega), hd⟩
 ·rw [List.getElem?_set_ne (Ne.symm hj)] at hq hy
  exact ⟨keepS j 0 q y hq hy (by decide) (by omega), keepS j 1 q y hq hy (by decide) (by omega)⟩
theorem app_set {m : Mg} {x : Sd × Sd} (hi : m.inst = i) (hs : m.side = (s : Int) + 1) (hs2 : s < 2) (hx : V[i]? = some x) : appV m V = V.set i (sdPut x s ((sdOf x s).app m)) := by
 unfold appV
 rw [hi, Int.toNat_natCast]
 apply List.ext_getElem?
 intro j
 rw [List.getElem?_modify]
 by_cases hj : i = j
 ·subst hj
  rw [set_self hx, hx]
  simp only [if_true, Option.map_eq_map, Option.map_some]
  unfold appP sdPut sdOf
  rcases (show s = 0 ∨ s = 1 by omega) with rfl | rfl
  ·rw [if_pos (by omega)]; rfl
  ·rw [if_neg (by omega)]; rfl
 ·rw [List.getElem?_set_ne hj]
  simp only [hj, if_false]
  cases V[j]? <;> rfl
/-- where Apply stands behind its copy -/
structure AP (w0 w : World) (gv gm gr gl go cap : Nat) (V : Vw) (P : List Pr) (q p t c : Int) (i s : Nat) (im : Bool) : Prop where
 bv : Blk w gv 50 #[.slice (some ⟨go, 0, none⟩) V.length cap]
 bm : Blk w gm 34 #[.int .i64 q, .int .i64 i, .int .i64 ((s : Int) + 1), .int .i64 p, .int .i64 t, .int .i64 c, .bool im]
 br : Blk w gr 50 #[.slice none 0 0]
 bl : Blk w gl 92 #[.int .i64 p, .int .i64 t, .int .i64 c]
 row : PRL.Row w w0.heap.size (.slice (some ⟨go, 0, none⟩) V.length cap) P
 sh : ∀ (j : Nat) (p : Pr) (x : Sd × Sd), P[j]? = some p → V[j]? = some x → ShO LVL w w0.heap.size p.s x.1 ∧ ShO LVL w w0.heap.size p.t x.2
 bel : Below w0.heap.size w0 w
theorem AP.below {w0 w w' : World} {gv gm gr gl go cap : Nat} {V : Vw} {P : List Pr} {q p t c : Int} {i s : Nat} {im : Bool} (h : AP w0 w gv gm gr gl go cap V P q p t c i s im) (hb : Below w.heap.size w w') : AP w0 w' gv gm gr gl go cap V P q p t c i s im :=
 ⟨h.bv.below hb, h.bm.below hb, h.br.below hb, h.bl.below hb, h.row.below hb, fun j p x hp hx => ⟨(h.sh j p x hp hx).1.below hb, (h.sh j p x hp hx).2.below hb⟩, h.bel.trans (hb.mono h.bel.size)⟩
theorem AP.fz {w0 w : World} {gv gm gr gl go cap : Nat} {V : Vw} {P : List Pr} {q p t c : Int} {i s : Nat} {im : Bool} (h : AP w0 w gv gm gr gl go cap V P q p t c i s im) {pp : Pr} (hp : P[i]? = some pp) (o : Nat) : w.frozen? ⟨go, o, none⟩ = false := by
 obtain ⟨g', cap', cur, e4, _, hbk⟩ := h.row.blk (by intro h0; rw [h0] at hp; simp at hp)
 injection e4 with e4; injection e4 with e4; injection e4 with e4
 subst e4
 exact hbk.frozen _
theorem Row.fzG {w : World} {B go n cap i : Nat} {P : List Pr} {pp : Pr} (h : PRL.Row w B (.slice (some ⟨go, 0, none⟩) n cap) P) (hp : P[i]? = some pp) (o : Nat) : w.frozen? ⟨go, o, none⟩ = false := by
 obtain ⟨g', cap', cur, e4, _, hbk⟩ := h.blk (by intro h0; rw [h0] at hp; simp at hp)
 injection e4 with e4; injection e4 with e4; injection e4 with e4
 subst e4
 exact hbk.frozen _
theorem AP.shs {w0 w : World} {gv gm gr gl go cap : Nat} {V : Vw} {P : List Pr} {q p t c : Int} {i s : Nat} {im : Bool} (h : AP w0 w gv gm gr gl go cap V P q p t c i s im) {pp : Pr} {x : Sd × Sd} (hp : P[i]? = some pp) (hx : V[i]? = some x) : ShO LVL w w0.heap.size (pp.sh s) (sdOf x s) := by
 have := h.sh i pp x hp hx
 unfold Pr.sh sdOf
 split
 ·exact this.1
 ·exact this.2
/-- the whole turn, told of the view: what the stores left, and the result's box behind it -/
theorem AP.done {w0 w w' : World} {gv gm gr gl go cap : Nat} {V : Vw} {P : List Pr} {q p t c : Int} {i s : Nat} {im : Bool} (h : AP w0 w gv gm gr gl go cap V P q p t c i s im) {pp : Pr} {x : Sd × Sd} (hl : P.length = V.length) (hap : Apart P (2 * V.length)) (hp : P[i]? = some pp) (hx : V[i]? = some x) (hs : s < 2) {F : Nat → Prop} (hk : Keeps F w w') (hF : ∀ g, Tyd w g LVL.t → F g → (pp.sh s).own = some g)
  {sh : Sh} {d : Sd} (hr : PRL.Row w' w0.heap.size (.slice (some ⟨go, 0, none⟩) V.length cap) (P.set i (pp.put s sh))) (hd : ShO LVL w' w0.heap.size sh d) (hbr : Tyd w' gr 50) (hm : (sdOf x s).app ⟨q, i, (s : Int) + 1, p, t, c, im⟩ = d) (u : Value) :
  VO PRL LVL (w'.setCell ⟨gr, 0, none⟩ u) w0.heap.size (.slice (some ⟨go, 0, none⟩) V.length cap) (appV ⟨q, i, (s : Int) + 1, p, t, c, im⟩ V) := by
 rw [app_set (m := ⟨q, i, (s : Int) + 1, p, t, c, im⟩) rfl rfl hs hx, hm]
 have h1 := VOD.fin (w' := w') (F := F) hl h.sh hap hp hx hs hk hF hr hd
 exact h1.keep (keep1 w' gr 0 u) (fun g hg e => hg.ne hbr (by decide) e) (fun g hg e => hg.ne hbr (by decide) e)
theorem lvl_at {w : World} {B g n cap k : Nat} {L : List Lv} {z : Lv} (h : LVL.Row w B (.slice (some ⟨g, 0, none⟩) n cap) L) (hz : L[k]? = some z) : w.cell? ⟨g, k * 3, none⟩ = some (.int .i64 z.price) ∧ w.cell? ⟨g, k * 3 + 1, none⟩ = some (.int .i64 z.qty) ∧ w.cell? ⟨g, k * 3 + 2, none⟩ = some (.int .i64 z.count) ∧ ∀ o, w.frozen? ⟨g, o, none⟩ = false := by
 obtain ⟨g1, cap1, e1, _, hc⟩ := h.at_ k z hz
 obtain ⟨g2, cap2, cur, e2, _, hbk⟩ := h.blk (by intro h0; rw [h0] at hz; simp at hz)
 have h1 : g1 = g := by injection e1 with e1; injection e1 with e1; injection e1 with e1; exact e1.symm
 have h2 : g2 = g := by injection e2 with e2; injection e2 with e2; injection e2 with e2; exact e2.symm
 subst h1
 rw [h2] at hbk
 have hc3 : CellsAt w g1 (k * 3) [.int .i64 z.price, .int .i64 z.qty, .int .i64 z.count] := hc
 refine ⟨?_, hc3 1 _ rfl, hc3 2 _ rfl, fun o => hbk.frozen o⟩
 have := hc3 0 _ rfl
 rwa [Nat.add_zero] at this
theorem lvl_set {w : World} {B g n cap k : Nat} {L : List Lv} {z : Lv} (h : LVL.Row w B (.slice (some ⟨g, 0, none⟩) n cap) L) (hz : L[k]? = some z) (l : Lv) :
  LVL.Row (((w.setCell ⟨g, k * 3, none⟩ (.int .i64 l.price)).setCell ⟨g, k * 3 + 1, none⟩ (.int .i64 l.qty)).setCell ⟨g, k * 3 + 2, none⟩ (.int .i64 l.count)) B (.slice (some ⟨g, 0, none⟩) n cap) (L.set k l) := by
 have h1 := h.set_ (e' := ⟨l.price, z.qty, z.count⟩) (k := 0) (u := .int .i64 l.price) hz (by decide) rfl
 have h2 := h1.set_ (e' := ⟨l.price, l.qty, z.count⟩) (k := 1) (u := .int .i64 l.qty) (set_self hz _) (by decide) rfl
 rw [List.set_set] at h2
 have h3 := h2.set_ (e' := l) (k := 2) (u := .int .i64 l.count) (set_self hz _) (by decide) rfl
 rw [List.set_set] at h3
 have e0 : k * LVL.m + 0 = k * 3 := by show k * 3 + 0 = k * 3; omega
 have e1 : k * LVL.m + 1 = k * 3 + 1 := rfl
 have e2 : k * LVL.m + 2 = k * 3 + 2 := rfl
 rw [e0, e1, e2] at h3
 exact h3
theorem keep3b (w : World) (g o : Nat) (a b c : Value) : Keeps (fun k => k = g) w (((w.setCell ⟨g, o, none⟩ a).setCell ⟨g, o + 1, none⟩ b).setCell ⟨g, o + 2, none⟩ c) :=
 ((keep1 w g _ a).trans (keep1 _ g _ b)).trans (keep1 _ g _ c)
theorem put_same {P : List Pr} {i s : Nat} {pp : Pr} (h : P[i]? = some pp) : P.set i (pp.put s (pp.sh s)) = P := by
 have e : pp.put s (pp.sh s) = pp := by unfold Pr.put Pr.sh; split <;> rfl
 rw [e]
 apply List.ext_getElem?
 intro j
 by_cases hj : i = j
 ·subst hj; rw [set_self h, h]
 ·rw [List.getElem?_set_ne hj]
end
end Go.Proofs.Ytmaijkoopjocdaa
