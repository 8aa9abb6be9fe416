/- The walk of cornhilllaw21.in: a view of the program's as the document's. -/
import Derived.Test.YtmaijkoopjocdaaGO
import Derived.Test.YtmaijkoopjocdaaGQ
namespace Go.Proofs.Ytmaijkoopjocdaa
open Go.RowKit Go.Lib

structure InI (w wr : World) (gi g2 g3 n : Nat) (a : Option Addr) (c : Nat) (v : Value) (acc : Vw) : Prop where
 bi : Blk wr gi 50 #[.slice a n c]
 b2 : Blk wr g2 44 #[.slice none 0 0]
 b3 : Blk wr g3 44 #[v]
 vo : VO RPR RLV wr w.heap.size v acc
 bel : Below w.heap.size w wr
 n2 : w.heap.size ≤ g2
 n3 : w.heap.size ≤ g3
 n23 : g2 ≠ g3
structure InS (w wr : World) (gi g2 g3 n : Nat) (a : Option Addr) (c : Nat) (v : Value) (acc : Vw) (g5 : Nat) (x y : Sh) : Prop where
 i : InI w wr gi g2 g3 n a c v acc
 bo : Blk wr g5 82 #[.slice x.a x.n x.c, .int .i64 x.im.price, .int .i64 x.im.qty, .int .i64 x.im.count, .bool x.has, .slice y.a y.n y.c, .int .i64 y.im.price, .int .i64 y.im.qty, .int .i64 y.im.count, .bool y.has]
 ap : ∀ g, v.ownBlock = some g → g ≠ g5
 n5 : w.heap.size ≤ g5
structure LnI (wz w : World) (g5 g7 : Nat) (x y : Sh) (s7 : Sh) (v : Value) (M : List Lv) : Prop where
 bo : Blk w g5 82 #[.slice x.a x.n x.c, .int .i64 x.im.price, .int .i64 x.im.qty, .int .i64 x.im.count, .bool x.has, .slice y.a y.n y.c, .int .i64 y.im.price, .int .i64 y.im.qty, .int .i64 y.im.count, .bool y.has]
 b7 : Blk w g7 94 #[.slice s7.a s7.n s7.c, .int .i64 s7.im.price, .int .i64 s7.im.qty, .int .i64 s7.im.count, .bool s7.has]
 row : RLV.Row w wz.heap.size v M
 kp : Keeps (fun g => g = g5) wz w
section
variable {w wr wr' : World} {gi g2 g3 n : Nat} {a : Option Addr} {c : Nat} {v : Value} {acc : Vw} {g5 : Nat} {x y x' y' : Sh}
theorem InI.keep {F : Nat → Prop} (h : InI w wr gi g2 g3 n a c v acc) (hk : Keeps F wr wr') (hF : ∀ g, F g → w.heap.size ≤ g) (hi : ¬ F gi) (h2 : ¬ F g2) (h3 : ¬ F g3) (hv : ∀ g, v.ownBlock = some g → ¬ F g) (hl : ∀ g, Tyd wr g RLV.t → ¬ F g) : InI w wr' gi g2 g3 n a c v acc :=
 ⟨h.bi.keeps hk hi, h.b2.keeps hk h2, h.b3.keeps hk h3, h.vo.keep2 hk hv hl, h.bel.trans (hk.below hF h.bel.size), h.n2, h.n3, h.n23⟩
theorem InI.below (h : InI w wr gi g2 g3 n a c v acc) (hb : Below wr.heap.size wr wr') : InI w wr' gi g2 g3 n a c v acc :=
 h.keep (F := fun _ => False) (Below.keeps hb) (fun _ x => x.elim) (fun x => x) (fun x => x) (fun x => x) (fun _ _ x => x) (fun _ _ x => x)
theorem InS.below (h : InS w wr gi g2 g3 n a c v acc g5 x y) (hb : Below wr.heap.size wr wr') : InS w wr' gi g2 g3 n a c v acc g5 x y := ⟨h.i.below hb, h.bo.below hb, h.ap, h.n5⟩
theorem InS.put (h : InS w wr gi g2 g3 n a c v acc g5 x y) (hk : Keeps (fun g => g = g5) wr wr')
  (hb : Blk wr' g5 82 #[.slice x'.a x'.n x'.c, .int .i64 x'.im.price, .int .i64 x'.im.qty, .int .i64 x'.im.count, .bool x'.has, .slice y'.a y'.n y'.c, .int .i64 y'.im.price, .int .i64 y'.im.qty, .int .i64 y'.im.count, .bool y'.has]) : InS w wr' gi g2 g3 n a c v acc g5 x' y' :=
 ⟨h.i.keep hk (fun g e => by have e2 : g = g5 := e; rw [e2]; exact h.n5) (fun e => h.i.bi.tyd.ne h.bo.tyd (by decide) e) (fun e => h.i.b2.tyd.ne h.bo.tyd (by decide) e) (fun e => h.i.b3.tyd.ne h.bo.tyd (by decide) e) (fun g hg e => h.ap g hg e) (fun g hg e => hg.ne h.bo.tyd (by decide) e), hb, h.ap, h.n5⟩
theorem ShO.inS {s : Sh} {d : Sd} (h : ShO RLV wr w.heap.size s d) (hs : InS w wr gi g2 g3 n a c v acc g5 x y) (hk : Keeps (fun g => g = g5) wr wr') : ShO RLV wr' w.heap.size s d :=
 h.keep hk fun g hg e => hg.ne hs.bo.tyd (by decide) e
/-- behind the pair's append -/
theorem InS.grow {wb w5 : World} {P : List Pr} {v' : Value} {d1 d2 : Sd} (h : InS w wr gi g2 g3 n a c v acc g5 x y) (hb : Below wr.heap.size wr wb) (hP : RPR.Row wb w.heap.size v P) (hl : P.length = acc.length) (hs : ∀ (j : Nat) (p : Pr) (x : Sd × Sd), P[j]? = some p → acc[j]? = some x → ShO RLV wb w.heap.size p.s x.1 ∧ ShO RLV wb w.heap.size p.t x.2)
  (h1 : ShO RLV wr w.heap.size x d1) (h2 : ShO RLV wr w.heap.size y d2) (hr : RPR.Row w5 w.heap.size v' (P ++ [⟨x, y⟩])) (hg : wb.grownBy w5 v.ownBlock) :
  InI w (w5.setCell ⟨g3, 0, none⟩ v') gi g2 g3 n a c v' (acc ++ [(d1, d2)]) ∧ w5.cell? ⟨g3, 0, none⟩ = some v ∧ w5.frozen? ⟨g3, 0, none⟩ = false := by
 have hk := grown_keeps hg
 have hty : ∀ g, v.ownBlock = some g → Tyd wb g RPR.t := fun g hg => own_tyd hP g hg
 have hbs : ∀ g, v.ownBlock = some g → w.heap.size ≤ g := own_base hP
 have i1 := h.i.below hb
 have l5 : ∀ {s : Sh} {d : Sd}, ShO RLV wb w.heap.size s d → ShO RLV w5 w.heap.size s d := fun hh => hh.keep hk (fun g hg e => (hty _ e).ne hg (by decide) rfl)
 have vo5 : VO RPR RLV w5 w.heap.size v' (acc ++ [(d1, d2)]) := VO.rsnoc hr hl (fun j p x hp hx => ⟨l5 (hs j p x hp hx).1, l5 (hs j p x hp hx).2⟩) (l5 (h1.below hb)) (l5 (h2.below hb))
 have bi5 := i1.bi.keeps hk (fun e => (hty _ e).ne i1.bi.tyd (by decide) rfl)
 have b25 := i1.b2.keeps hk (fun e => (hty _ e).ne i1.b2.tyd (by decide) rfl)
 have b35 := i1.b3.keeps hk (fun e => (hty _ e).ne i1.b3.tyd (by decide) rfl)
 have bel5 := i1.bel.trans (hk.below hbs i1.bel.size)
 have hk6 := keep1 w5 g3 0 v'
 have hb6 := b35.set_ 0 v'
 simp only [List.setIfInBounds_toArray, List.set_cons_zero] at hb6
 exact ⟨⟨bi5.keeps hk6 (fun e => bi5.tyd.ne b35.tyd (by decide) e), b25.keeps hk6 h.i.n23, hb6, vo5.keep hk6 (fun g hg e => hg.ne b35.tyd (by decide) e) (fun g hg e => hg.ne b35.tyd (by decide) e), bel5.setCell (p := ⟨g3, 0, none⟩) h.i.n3 _, h.i.n2, h.i.n3, h.i.n23⟩, b35.cell 0, b35.frozen 0⟩
set_option maxRecDepth 20000 in
set_option maxHeartbeats 32000000 in
theorem in_any {B : Nat} {V : Vw} (h : VO PRL LVL w B (.slice a V.length c) V) (hl : V.length ≤ 255) (hK : LenV V 800000) :
  Calls Try.prog 35 #[.agg #[.slice a V.length c]] w fun e w' => ∃ v', e = .returned (.agg #[v']) ∧ VO RPR RLV w' w.heap.size v' V ∧ Below w.heap.size w w' := by
 have hz : ∀ (w : World) (o : Obj), (w.alloc o).heap.size = w.heap.size + 1 := fun w o => by simp
 have hb1 := (Below.allocN w (.cells #[.slice a V.length c] 50))
 have hb2 := hb1.trans ((Below.allocN (w.alloc (.cells #[.slice a V.length c] 50)) (.cells #[.slice none 0 0] 44)).mono hb1.size)
 have hb3 := hb2.trans ((Below.allocN ((w.alloc (.cells #[.slice a V.length c] 50)).alloc (.cells #[.slice none 0 0] 44)) (.cells #[.slice none 0 0] 44)).mono hb2.size)
 have I0 : Hid (InI w (((w.alloc (.cells #[.slice a V.length c] 50)).alloc (.cells #[.slice none 0 0] 44)).alloc (.cells #[.slice none 0 0] 44)) w.heap.size (w.heap.size + 1) (w.heap.size + 1 + 1) V.length a c (.slice none 0 0) []) := Lib.hid
  ⟨((Blk.new w _ _).alloc _).alloc _, by
   have := (Blk.new (w.alloc (.cells #[.slice a V.length c] 50)) 44 #[.slice none 0 0]).alloc (.cells #[.slice none 0 0] 44)
   rwa [hz] at this, by
   have := Blk.new ((w.alloc (.cells #[.slice a V.length c] 50)).alloc (.cells #[.slice none 0 0] 44)) 44 #[.slice none 0 0]
   rwa [hz, hz] at this, VO.nil _ _, hb3, by omega, by omega, by omega⟩
 have HSRC := Lib.hid h
 have HK := Lib.hid hK
 have HZ := Lib.hid hz
 clear hb1 hb2 hb3 h hK hz
 go_enter Try.func35, Try.ntmps35
 go_upto_region 2 with (fail)
 obtain ⟨g3, hg3⟩ : ∃ g, w.heap.size + 1 + 1 = g := ⟨_, rfl⟩
 rw [hg3] at I0 ⊢
 obtain ⟨g2, hg2⟩ : ∃ g, w.heap.size + 1 = g := ⟨_, rfl⟩
 rw [hg2] at I0 ⊢
 obtain ⟨gi, hgi⟩ : ∃ g, w.heap.size = g := ⟨_, rfl⟩
 have I1 : Hid (InI w _ gi g2 g3 V.length a c (.slice none 0 0) []) := Lib.hid (by have := I0.out; rwa [show InI w (((w.alloc (.cells #[.slice a V.length c] 50)).alloc (.cells #[.slice none 0 0] 44)).alloc (.cells #[.slice none 0 0] 44)) w.heap.size g2 g3 V.length a c (.slice none 0 0) [] = InI w (((w.alloc (.cells #[.slice a V.length c] 50)).alloc (.cells #[.slice none 0 0] 44)).alloc (.cells #[.slice none 0 0] 44)) gi g2 g3 V.length a c (.slice none 0 0) [] by rw [hgi]] at this)
 rw [show (Value.pointer (some ⟨w.heap.size, 0, none⟩)) = .pointer (some ⟨gi, 0, none⟩) by rw [hgi]]
 clear I0 hg3 hg2 hgi
 generalize ((w.alloc (.cells #[.slice a V.length c] 50)).alloc (.cells #[.slice none 0 0] 44)).alloc (.cells #[.slice none 0 0] 44) = w1 at *
 go_wp2_with fail
 go_loopw [4] (fun i w' => ∃ (k : Nat) (v : Value), i = .int .i64 k ∧ k ≤ V.length ∧ InI w w' gi g2 g3 V.length a c v (V.take k)) (fun i _ => V.length - (RowKit.intOf i).toNat)
 case atStart => exact ⟨0, _, rfl, Nat.zero_le _, I1.out⟩
 case round =>
  clear I1
  obtain ⟨k, v, rfl, hk, hI⟩ := hrel
  obtain ⟨wz, rfl⟩ : ∃ wo : World, wo = wr := ⟨_, rfl⟩
  have I1 := Lib.hid hI
  clear hI
  have i0 : wz.cell? ⟨gi, 0, none⟩ = some (.slice a V.length c) := I1.out.bi.cell 0
  by_cases hlt : k < V.length
  ·have hlt' : (k : Int) < (V.length : Int) := by omega
   obtain ⟨xx, hx⟩ : ∃ x, V[k]? = some x := ⟨_, List.getElem?_eq_getElem hlt⟩
   obtain ⟨d1, d2⟩ := xx
   have HX := Lib.hid hx
   have HTK : Hid (V.take (k + 1) = V.take k ++ [(d1, d2)]) := Lib.hid (take_snoc hx)
   have HTL : Hid ((V.take k).length = k) := Lib.hid (by rw [List.length_take]; omega)
   have HL1 := Lib.hid (HK.out (d1, d2) (List.mem_of_getElem? hx))
   clear hx
   have hba := Below.allocN wz (.cells zeroPr.cells.toArray 82)
   have hgo : Blk (wz.alloc (.cells zeroPr.cells.toArray 82)) wz.heap.size 82 zeroPr.cells.toArray := Blk.new _ _ _
   have hw0 : InS w (wz.alloc (.cells zeroPr.cells.toArray 82)) gi g2 g3 V.length a c v (V.take k) wz.heap.size zeroSh zeroSh := ⟨I1.out.below hba, hgo, fun g hg e => by obtain ⟨P, hP, _⟩ := I1.out.vo; have := own_lt hP g hg; omega, I1.out.bel.size⟩
   have W0 := Lib.hid hw0
   clear hba hgo hw0
   unfold zeroPr Pr.cells zeroSh zeroLv at W0
   dsimp only at W0
   go_upto_region 6 with (fail)
   obtain ⟨g5, hg5⟩ : ∃ g, wz.heap.size = g := ⟨_, rfl⟩
   rw [hg5] at W0 ⊢
   clear hg5 i0 I1
   generalize wz.alloc _ = w9 at *
   go_wp2_with fail
   go_loopw [6] (fun i w' => ∃ (j : Nat) (x y : Sh), i = .int .i64 j ∧ InS w w' gi g2 g3 V.length a c v (V.take k) g5 x y ∧
    ((j = 0 ∧ x = zeroSh ∧ y = zeroSh) ∨ (j = 1 ∧ y = zeroSh ∧ ShO RLV w' w.heap.size x d1) ∨ (j = 2 ∧ ShO RLV w' w.heap.size x d1 ∧ ShO RLV w' w.heap.size y d2))) (fun i _ => 2 - (RowKit.intOf i).toNat)
   case atStart => exact ⟨0, _, _, rfl, W0.out, .inl ⟨rfl, rfl, rfl⟩⟩
   case round =>
    clear W0
    obtain ⟨j, x, y, rfl, hW, hc⟩ := hrel
    obtain ⟨wv, rfl⟩ : ∃ wo : World, wo = wr := ⟨_, rfl⟩
    rcases hc with ⟨rfl, rfl, rfl⟩ | ⟨rfl, rfl, hs1⟩ | ⟨rfl, hs1, hs2⟩
    ·have W1 := Lib.hid hW
     clear hW
     obtain ⟨gb, cap, pp, he, hgb, hcx, hq1, hq2⟩ := (HSRC.out.below W1.out.i.bel).get HX.out
     injection he with he1 _ he3
     subst he1
     subst he3
     have i0 : wv.cell? ⟨gi, 0, none⟩ = some (.slice (some ⟨gb, 0, none⟩) V.length c) := W1.out.i.bi.cell 0
     obtain ⟨⟨a1, n1, e1, ⟨p1, q1, r1⟩, f1⟩, ⟨a2, n2, e2, ⟨p2, q2, r2⟩, f2⟩⟩ := pp
     have x0 : wv.cell? ⟨gb, k * 10, none⟩ = some (.slice a1 n1 e1) := hcx 0 _ rfl
     have x1 : wv.cell? ⟨gb, k * 10 + 1, none⟩ = some (.int .i64 p1) := hcx 1 _ rfl
     have x2 : wv.cell? ⟨gb, k * 10 + 2, none⟩ = some (.int .i64 q1) := hcx 2 _ rfl
     have x3 : wv.cell? ⟨gb, k * 10 + 3, none⟩ = some (.int .i64 r1) := hcx 3 _ rfl
     have x4 : wv.cell? ⟨gb, k * 10 + 4, none⟩ = some (.bool f1) := hcx 4 _ rfl
     have HQ := Lib.hid hq1
     have HKL : Hid (d1.lv.length ≤ 800000) := Lib.hid HL1.out.1
     clear hcx hq1 hq2
     go_upto_region 10 with (fail)
     obtain ⟨g7, hg7⟩ : ∃ g, wv.heap.size = g := ⟨_, rfl⟩
     have hb5 := Below.allocN wv (.cells #[.slice a1 n1 e1, .int .i64 p1, .int .i64 q1, .int .i64 r1, .bool f1] 94)
     have W5 := Lib.hid (W1.out.below hb5)
     have B7 : Hid (Blk (wv.alloc (.cells #[.slice a1 n1 e1, .int .i64 p1, .int .i64 q1, .int .i64 r1, .bool f1] 94)) wv.heap.size 94 #[.slice a1 n1 e1, .int .i64 p1, .int .i64 q1, .int .i64 r1, .bool f1]) := Lib.hid (Blk.new _ _ _)
     have HQ5 := Lib.hid (HQ.out.below hb5)
     rw [hg7] at B7 ⊢
     clear hb5 hg7 i0 x0 x1 x2 x3 x4 HQ W1
     generalize wv.alloc (.cells #[.slice a1 n1 e1, .int .i64 p1, .int .i64 q1, .int .i64 r1, .bool f1] 94) = w5 at *
     obtain ⟨h1, h2, h3, h4⟩ := HQ5.out
     obtain ⟨L, ⟨ip, iq, ic⟩, hs⟩ := d1
     dsimp only at h1 h2 h3 h4 HKL
     injection h3 with t1 t2 t3
     subst h1; subst h4; subst t1; subst t2; subst t3
     have HLR := Lib.hid h2
     clear h2 HQ5
     have HLV := Lib.hid (llevel_any ⟨p1, q1, r1⟩ w5)
     unfold Lv.agg at HLV
     try dsimp only at HLV
     have s1 : w5.cell? ⟨g7, 1, none⟩ = some (.int .i64 p1) := B7.out.cell 1
     have s2 : w5.cell? ⟨g7, 2, none⟩ = some (.int .i64 q1) := B7.out.cell 2
     have s3 : w5.cell? ⟨g7, 3, none⟩ = some (.int .i64 r1) := B7.out.cell 3
     go_wp2_with fail
     refine HLV.out.mono ?_
     rintro e w6 ⟨rfl, hb6⟩
     have W6 := Lib.hid (W5.out.below hb6)
     have B76 := Lib.hid (B7.out.below hb6)
     have HLR6 := Lib.hid (HLR.out.below hb6)
     clear hb6 HLV W5 B7 HLR s1 s2 s3
     have o1 : w6.cell? ⟨g5, 1, none⟩ = some (.int .i64 0) := W6.out.bo.cell 1
     have o2 : w6.cell? ⟨g5, 2, none⟩ = some (.int .i64 0) := W6.out.bo.cell 2
     have o3 : w6.cell? ⟨g5, 3, none⟩ = some (.int .i64 0) := W6.out.bo.cell 3
     have o4 : w6.cell? ⟨g5, 4, none⟩ = some (.bool false) := W6.out.bo.cell 4
     have zf : ∀ o, w6.frozen? ⟨g5, o, none⟩ = false := fun o => W6.out.bo.frozen o
     have s4 : w6.cell? ⟨g7, 4, none⟩ = some (.bool f1) := B76.out.cell 4
     have e75 : (g7 = g5) = False := eq_false (fun e => B76.out.tyd.ne W6.out.bo.tyd (by decide) e)
     have e57 : (g5 = g7) = False := eq_false (fun e => B76.out.tyd.ne W6.out.bo.tyd (by decide) e.symm)
     have hk7 : Keeps (fun g => g = g5) w6 ((((w6.setCell ⟨g5, 1, none⟩ (.int .i64 p1)).setCell ⟨g5, 2, none⟩ (.int .i64 q1)).setCell ⟨g5, 3, none⟩ (.int .i64 r1)).setCell ⟨g5, 4, none⟩ (.bool f1)) := (((keep1 w6 g5 1 (.int .i64 p1)).trans (keep1 _ g5 2 (.int .i64 q1))).trans (keep1 _ g5 3 (.int .i64 r1))).trans (keep1 _ g5 4 (.bool f1))
     have hbo7 := (((W6.out.bo.set_ 1 (.int .i64 p1)).set_ 2 (.int .i64 q1)).set_ 3 (.int .i64 r1)).set_ 4 (.bool f1)
     simp only [List.setIfInBounds_toArray, List.set_cons_zero, List.set_cons_succ] at hbo7
     have W7 : Hid (InS w ((((w6.setCell ⟨g5, 1, none⟩ (.int .i64 p1)).setCell ⟨g5, 2, none⟩ (.int .i64 q1)).setCell ⟨g5, 3, none⟩ (.int .i64 r1)).setCell ⟨g5, 4, none⟩ (.bool f1)) gi g2 g3 V.length (some ⟨gb, 0, none⟩) c v (V.take k) g5 ⟨none, 0, 0, ⟨p1, q1, r1⟩, f1⟩ zeroSh) := Lib.hid (W6.out.put hk7 hbo7)
     have B77 := Lib.hid (B76.out.keeps hk7 (fun e => B76.out.tyd.ne W6.out.bo.tyd (by decide) e))
     have HLR7 := Lib.hid (HLR6.out.keep hk7 (fun g hg e => hg.ne W6.out.bo.tyd (by decide) e))
     clear hk7 hbo7
     go_upto_region 12 with (fail)
     clear o1 o2 o3 o4 zf s4 W6 B76 HLR6
     generalize ((((w6.setCell ⟨g5, 1, none⟩ (.int .i64 p1)).setCell ⟨g5, 2, none⟩ (.int .i64 q1)).setCell ⟨g5, 3, none⟩ (.int .i64 r1)).setCell ⟨g5, 4, none⟩ (.bool f1)) = w7 at *
     have s0 : w7.cell? ⟨g7, 0, none⟩ = some (.slice a1 L.length e1) := B77.out.cell 0
     go_wp2_with fail
     clear s0
     go_loopw [8] (fun i w' => ∃ (q : Nat) (av : Option Addr) (cv : Nat), i = .int .i64 q ∧ q ≤ L.length ∧ LnI w7 w' g5 g7 ⟨av, q, cv, ⟨p1, q1, r1⟩, f1⟩ zeroSh ⟨a1, L.length, e1, ⟨p1, q1, r1⟩, f1⟩ (.slice av q cv) (L.take q)) (fun i _ => L.length - (RowKit.intOf i).toNat)
     case atStart => exact ⟨0, none, 0, rfl, Nat.zero_le _, ⟨W7.out.bo, B77.out, by rw [List.take_zero]; exact Lay.Row.nil _ _, Keeps.refl _ _⟩⟩
     case round =>
      obtain ⟨q, av, cv, rfl, hq, hN⟩ := hrel
      obtain ⟨wz, rfl⟩ : ∃ wo : World, wo = wr := ⟨_, rfl⟩
      have N1 := Lib.hid hN
      clear hN
      have s0 : wz.cell? ⟨g7, 0, none⟩ = some (.slice a1 L.length e1) := N1.out.b7.cell 0
      by_cases hlt2 : q < L.length
      ·have hlt2' : (q : Int) < (L.length : Int) := by omega
       have hklo := HKL.out
       obtain ⟨z, hz⟩ : ∃ z, L[q]? = some z := ⟨_, List.getElem?_eq_getElem hlt2⟩
       have HTZ : Hid (L.take (q + 1) = L.take q ++ [z]) := Lib.hid (take_snoc hz)
       have HLQ : Hid ((L.take q).length = q) := Lib.hid (by rw [List.length_take]; omega)
       have HLRz := Lib.hid (HLR7.out.keep N1.out.kp (fun g hg e => hg.ne W7.out.bo.tyd (by decide) e))
       obtain ⟨gl, cap2, he, _, _⟩ := HLRz.out.at_ q z hz
       injection he with he1 _ he3
       subst he1
       subst he3
       have HC : Hid (∀ wx, Keeps (fun g => g = g5) wz wx → wx.cell? ⟨gl, q * 3, none⟩ = some (.int .i64 z.price) ∧ wx.cell? ⟨gl, q * 3 + 1, none⟩ = some (.int .i64 z.qty) ∧ wx.cell? ⟨gl, q * 3 + 2, none⟩ = some (.int .i64 z.count)) := Lib.hid (fun wx hk => by
        have hr := HLRz.out.keep hk (fun g hg e => hg.ne N1.out.bo.tyd (by decide) e)
        obtain ⟨x0, x1, x2, _⟩ := lvl_at hr hz
        exact ⟨x0, x1, x2⟩)
       have HLV := Lib.hid (llevel_any z (wz.drewN 1))
       unfold Lv.agg at HLV
       clear hz
       go_upto_region 15 with (fail)
       refine wp_region_E (S := fun w' => w'.cell? ⟨g5, 0, none⟩ = some (.slice av q cv) ∧ w'.cell? ⟨g7, 0, none⟩ = some (.slice (some ⟨gl, 0, none⟩) L.length e1) ∧ w'.cell? ⟨gl, q * 3, none⟩ = some (.int .i64 z.price) ∧ w'.cell? ⟨gl, q * 3 + 1, none⟩ = some (.int .i64 z.qty) ∧ w'.cell? ⟨gl, q * 3 + 2, none⟩ = some (.int .i64 z.count)) (by kernel_rfl) ⟨N1.out.bo.cell 0, N1.out.b7.cell 0, HC.out _ (Keeps.refl _ _).drew⟩ (fun hHeld => ?_)
       refine wpE_tk 0 (oi := ?o1) (v := ?v1) ?h1 (by kernel_rfl) ?q1 ?y1 (by assumption) ?_
       case h1 => (simp only [List.getElem?_toArray]; rfl)
       case q1 => exact fun _ _ _ h => h
       case y1 => exact Or.inl ⟨by rfl, by (intro w hSw; (try dsimp only at hSw); go_simp; try with_reducible rfl)⟩
       try simp only [Act.put, sA, sB, sC]
       refine wpE_tk 1 (oi := ?o2) (v := ?v2) ?h2 (by kernel_rfl) ?q2 ?y2 (by assumption) ?_
       case h2 => (simp only [List.getElem?_toArray]; rfl)
       case q2 => exact fun _ _ _ h => h
       case y2 => exact Or.inl ⟨by rfl, by (intro w hSw; (try dsimp only at hSw); go_simp; try with_reducible rfl)⟩
       try simp only [Act.put, sA, sB, sC]
       refine wpE_tk 2 (oi := ?o3) (v := ?v3) ?h3 (by kernel_rfl) ?q3 ?y3 (by assumption) ?_
       case h3 => (simp only [List.getElem?_toArray]; rfl)
       case q3 => exact fun _ _ _ h => h
       case y3 => exact Or.inl ⟨by rfl, by (intro w hSw; (try dsimp only at hSw); go_simp; try with_reducible rfl)⟩
       try simp only [Act.put, sA, sB, sC]
       refine wpE_tk 3 (oi := ?o4) (v := ?v4) ?h4 (by kernel_rfl) ?q4 ?y4 (by assumption) ?_
       case h4 => (simp only [List.getElem?_toArray]; rfl)
       case q4 => exact fun _ _ _ h => h
       case y4 => exact Or.inl ⟨by rfl, by (intro w hSw; (try dsimp only at hSw); go_simp; try with_reducible rfl)⟩
       try simp only [Act.put, sA, sB, sC]
       refine wpE_tk 4 (oi := ?o5) (v := ?v5) ?h5 (by kernel_rfl) ?q5 ?y5 (by assumption) ?_
       case h5 => (simp only [List.getElem?_toArray]; rfl)
       case q5 => exact fun _ _ _ h => h
       case y5 => exact Or.inl ⟨by rfl, by (intro w hSw; (try dsimp only at hSw); go_simp; try with_reducible rfl)⟩
       try simp only [Act.put, sA, sB, sC]
       refine wpE_tk 5 (oi := ?o6) (v := ?v6) ?h6 (by kernel_rfl) ?q6 ?y6 (by assumption) ?_
       case h6 => (simp only [List.getElem?_toArray]; rfl)
       case q6 => exact fun _ _ _ h => h
       case y6 => exact Or.inl ⟨by rfl, by (intro w hSw; (try dsimp only at hSw); go_simp; try with_reducible rfl)⟩
       try simp only [Act.put, sA, sB, sC]
       refine wpE_tk 6 (oi := ?o7) (v := ?v7) ?h7 (by kernel_rfl) ?q7 ?y7 (by assumption) ?_
       case h7 => (simp only [List.getElem?_toArray]; rfl)
       case q7 => exact fun _ _ _ h => h
       case y7 => exact Or.inl ⟨by rfl, by (intro w hSw; (try dsimp only at hSw); go_simp; try with_reducible rfl)⟩
       try simp only [Act.put, sA, sB, sC]
       refine wpE_tk 7 (oi := ?o8) (v := ?v8) ?h8 (by kernel_rfl) ?q8 ?y8 (by assumption) ?_
       case h8 => (simp only [List.getElem?_toArray]; rfl)
       case q8 => exact fun _ _ _ h => h
       case y8 => exact Or.inl ⟨by rfl, by (intro w hSw; (try dsimp only at hSw); go_simp; try with_reducible rfl)⟩
       try simp only [Act.put, sA, sB, sC]
       refine wpE_tk 8 (oi := ?o9) (v := ?v9) ?h9 (by kernel_rfl) ?q9 ?y9 (by assumption) ?_
       case h9 => (simp only [List.getElem?_toArray]; rfl)
       case q9 => exact fun _ _ _ h => h
       case y9 => exact Or.inl ⟨by rfl, by (intro w hSw; (try dsimp only at hSw); go_simp; try with_reducible rfl)⟩
       try simp only [Act.put, sA, sB, sC]
       refine wpE_tk 9 (oi := ?o10) (v := ?v10) ?h10 (by kernel_rfl) ?q10 ?y10 (by assumption) ?_
       case h10 => (simp only [List.getElem?_toArray]; rfl)
       case q10 => exact fun _ _ _ h => h
       case y10 => exact Or.inl ⟨by rfl, by (intro w hSw; (try dsimp only at hSw); go_simp; try with_reducible rfl)⟩
       try simp only [Act.put, sA, sB, sC]
       refine wpE_one (i := 10) (o := ?o25) ?ho25 (by kernel_rfl) (fun K hK => ?_)
       case ho25 => (simp only [List.getElem?_toArray]; rfl)
       go_simp
       refine HLV.out.mono ?_
       rintro e w3 ⟨rfl, hb3⟩
       have hb3' := (Below.drewN_of wz 1).trans hb3
       have N3 : Hid (LnI w7 w3 g5 g7 ⟨av, q, cv, ⟨p1, q1, r1⟩, f1⟩ zeroSh ⟨some ⟨gl, 0, none⟩, L.length, e1, ⟨p1, q1, r1⟩, f1⟩ (.slice av q cv) (L.take q)) := Lib.hid ⟨N1.out.bo.below hb3', N1.out.b7.below hb3', N1.out.row.below hb3', N1.out.kp.trans (Below.keeps hb3')⟩
       have K3 : Hid (Keeps (fun g => g = g5) wz w3) := Lib.hid (Below.keeps hb3')
       refine hK.out _ _ ⟨N3.out.bo.cell 0, N3.out.b7.cell 0, HC.out _ K3.out⟩ (fun hHeld => ?_)
       clear hK K hb3 hb3' HLV
       have hba := Below.allocN w3 (.cells #[.int .i64 z.price, .int .i64 z.qty, .int .i64 z.count] 79)
       have N4 : Hid (LnI w7 _ g5 g7 ⟨av, q, cv, ⟨p1, q1, r1⟩, f1⟩ zeroSh ⟨some ⟨gl, 0, none⟩, L.length, e1, ⟨p1, q1, r1⟩, f1⟩ (.slice av q cv) (L.take q)) := Lib.hid ⟨N3.out.bo.below hba, N3.out.b7.below hba, N3.out.row.below hba, N3.out.kp.trans (Below.keeps hba)⟩
       have K4 := Lib.hid (K3.out.trans (Below.keeps (F := fun g => g = g5) hba))
       have HN4 : Hid (Blk (w3.alloc (.cells #[.int .i64 z.price, .int .i64 z.qty, .int .i64 z.count] 79)) w3.heap.size 79 z.cells.toArray) := Lib.hid (Blk.new _ _ _)
       obtain ⟨gx, hgx⟩ : ∃ gx, w3.heap.size = gx := ⟨_, rfl⟩
       refine wpE_one (i := 11) (o := ?o26) ?ho26 (by kernel_rfl) (fun K hK => ?_)
       case ho26 => (simp only [List.getElem?_toArray]; rfl)
       go_simp
       refine hK.out _ _ ⟨N4.out.bo.cell 0, N4.out.b7.cell 0, HC.out _ K4.out⟩ (fun hHeld => ?_)
       rw [hgx] at HN4
       clear hgx hK K hba N3 K3
       generalize w3.alloc (.cells #[.int .i64 z.price, .int .i64 z.qty, .int .i64 z.count] 79) = w4 at *
       refine wpE_one (i := 12) (o := ?o27) ?ho27 (by kernel_rfl) (fun K hK => ?_)
       case ho27 => (simp only [List.getElem?_toArray]; rfl)
       refine RLV.step (by rfl) (.tmp 49) (.tmp 56) (by rfl) w7.heap.size (.slice av q cv) (L.take q) (by rfl) N4.out.row gx z (by rfl) HN4.out.lt HN4.out.cellsAt (by have := HLQ.out; have := HKL.out; omega) N4.out.kp.size ?_
       intro v' w5' hr5 hg5 _
       obtain ⟨a5, c5, hv5⟩ := hr5.form
       rw [← HTZ.out, List.length_take, Nat.min_eq_left (by omega)] at hv5
       rw [← HTZ.out] at hr5
       subst hv5
       have hk5 := grown_keeps hg5
       have hty : ∀ g, (Value.slice av q cv).ownBlock = some g → Tyd w4 g RLV.t := fun g hg => own_tyd N4.out.row g hg
       have hbs : ∀ g, (Value.slice av q cv).ownBlock = some g → w7.heap.size ≤ g := own_base N4.out.row
       have BO5 := Lib.hid (N4.out.bo.keeps hk5 (fun e => (hty _ e).ne N4.out.bo.tyd (by decide) rfl))
       have B75 := Lib.hid (N4.out.b7.keeps hk5 (fun e => (hty _ e).ne N4.out.b7.tyd (by decide) rfl))
       have KP5 := Lib.hid (N4.out.kp.step hk5 (fun i hi hg => absurd (hbs i hg) (by omega)))
       have RW5 := Lib.hid hr5
       have C5 : Hid (w5'.cell? ⟨gl, q * 3, none⟩ = some (.int .i64 z.price) ∧ w5'.cell? ⟨gl, q * 3 + 1, none⟩ = some (.int .i64 z.qty) ∧ w5'.cell? ⟨gl, q * 3 + 2, none⟩ = some (.int .i64 z.count)) := Lib.hid (by
        have hr := HLRz.out.keep K4.out (fun g hg e => hg.ne N1.out.bo.tyd (by decide) e)
        have hr2 := hr.keep hk5 (fun g hg e => (hty _ e).ne hg (by decide) rfl)
        have hz : L[q]? = some z := by
         have := HTZ.out
         have h2 : (L.take (q + 1))[q]? = L[q]? := by rw [List.getElem?_take, if_pos (by omega)]
         rw [← h2, this, List.getElem?_append_right (by rw [HLQ.out]; omega), HLQ.out, Nat.sub_self]; rfl
        obtain ⟨x0, x1, x2, _⟩ := lvl_at hr2 hz
        exact ⟨x0, x1, x2⟩)
       refine hK.out _ _ ⟨BO5.out.cell 0, B75.out.cell 0, C5.out⟩ (fun hHeld => ?_)
       clear hK K hr5 hg5 hk5 hty hbs N4 K4 HN4
       refine wpE_tk 13 (oi := ?o11) (v := ?v11) ?h11 (by kernel_rfl) ?q11 ?y11 (by assumption) ?_
       case h11 => (simp only [List.getElem?_toArray]; rfl)
       case q11 => exact fun _ _ _ h => h
       case y11 => exact Or.inl ⟨by rfl, by (intro w hSw; (try dsimp only at hSw); go_simp; try with_reducible rfl)⟩
       try simp only [Act.put, sA, sB, sC]
       refine wpE_tk 14 (oi := ?o12) (v := ?v12) ?h12 (by kernel_rfl) ?q12 ?y12 (by assumption) ?_
       case h12 => (simp only [List.getElem?_toArray]; rfl)
       case q12 => exact fun _ _ _ h => h
       case y12 => exact Or.inl ⟨by rfl, by (intro w hSw; (try dsimp only at hSw); go_simp; try with_reducible rfl)⟩
       try simp only [Act.put, sA, sB, sC]
       refine wpE_last (i := 15) (o := ?o31) ?ho31 (by kernel_rfl) (by kernel_rfl) (by kernel_rfl) (fun K hK => ?_)
       case ho31 => (simp only [List.getElem?_toArray]; rfl)
       have k5 : w5'.cell? ⟨g5, 0, none⟩ = some (.slice av q cv) := BO5.out.cell 0
       have z5 : w5'.frozen? ⟨g5, 0, none⟩ = false := BO5.out.frozen 0
       go_simp
       refine hK.out _ _ ?_
       have hk6 := keep1 w5' g5 0 (.slice a5 (q + 1) c5)
       have hb6 := BO5.out.set_ 0 (.slice a5 (q + 1) c5)
       simp only [List.setIfInBounds_toArray, List.set_cons_zero] at hb6
       have N6 : Hid (LnI w7 (w5'.setCell ⟨g5, 0, none⟩ (.slice a5 (q + 1) c5)) g5 g7 ⟨a5, q + 1, c5, ⟨p1, q1, r1⟩, f1⟩ zeroSh ⟨some ⟨gl, 0, none⟩, L.length, e1, ⟨p1, q1, r1⟩, f1⟩ (.slice a5 (q + 1) c5) (L.take (q + 1))) := Lib.hid
        ⟨hb6, B75.out.keeps hk6 (fun e => B75.out.tyd.ne BO5.out.tyd (by decide) e), RW5.out.keep hk6 (fun g hg e => hg.ne BO5.out.tyd (by decide) e), KP5.out.trans hk6⟩
       clear hK K hHeld k5 z5 hk6 hb6 N1 BO5 B75 KP5 RW5 C5
       go_wp2_with fail
       go_roundw
       case rel => exact ⟨q + 1, a5, c5, by go_num, hlt2, N6.out⟩
       case measure => simp [RowKit.intOf]; omega
      ·have hql : q = L.length := by omega
       subst hql
       have WE : Hid (InS w wz gi g2 g3 V.length (some ⟨gb, 0, none⟩) c v (V.take k) g5 ⟨av, L.length, cv, ⟨p1, q1, r1⟩, f1⟩ zeroSh) := Lib.hid (W7.out.put N1.out.kp N1.out.bo)
       have SE : Hid (ShO RLV wz w.heap.size ⟨av, L.length, cv, ⟨p1, q1, r1⟩, f1⟩ ⟨L, ⟨p1, q1, r1⟩, f1⟩) := Lib.hid ⟨rfl, by have := N1.out.row; rw [List.take_length] at this; exact this.base W7.out.i.bel.size, rfl, rfl⟩
       clear N1 W7 B77 HLR7
       go_wp2_with fail
       go_roundw
       case rel => exact ⟨1, _, _, by go_num, WE.out, .inr (.inl ⟨rfl, rfl, SE.out⟩)⟩
       case measure => simp [RowKit.intOf]
    ·have W1 := Lib.hid hW
     clear hW
     have S1 := Lib.hid hs1
     clear hs1
     obtain ⟨gb, cap, pp, he, hgb, hcx, hq1, hq2⟩ := (HSRC.out.below W1.out.i.bel).get HX.out
     injection he with he1 _ he3
     subst he1
     subst he3
     have i0 : wv.cell? ⟨gi, 0, none⟩ = some (.slice (some ⟨gb, 0, none⟩) V.length c) := W1.out.i.bi.cell 0
     obtain ⟨⟨a2, n2, e2, ⟨p2, q2, r2⟩, f2⟩, ⟨a1, n1, e1, ⟨p1, q1, r1⟩, f1⟩⟩ := pp
     have x0 : wv.cell? ⟨gb, k * 10 + 5, none⟩ = some (.slice a1 n1 e1) := hcx 5 _ rfl
     have x1 : wv.cell? ⟨gb, k * 10 + 6, none⟩ = some (.int .i64 p1) := hcx 6 _ rfl
     have x2 : wv.cell? ⟨gb, k * 10 + 7, none⟩ = some (.int .i64 q1) := hcx 7 _ rfl
     have x3 : wv.cell? ⟨gb, k * 10 + 8, none⟩ = some (.int .i64 r1) := hcx 8 _ rfl
     have x4 : wv.cell? ⟨gb, k * 10 + 9, none⟩ = some (.bool f1) := hcx 9 _ rfl
     have HQ := Lib.hid hq2
     have HKL : Hid (d2.lv.length ≤ 800000) := Lib.hid HL1.out.2
     clear hcx hq1 hq2
     go_upto_region 10 with (fail)
     obtain ⟨g7, hg7⟩ : ∃ g, wv.heap.size = g := ⟨_, rfl⟩
     have hb5 := Below.allocN wv (.cells #[.slice a1 n1 e1, .int .i64 p1, .int .i64 q1, .int .i64 r1, .bool f1] 94)
     have W5 := Lib.hid (W1.out.below hb5)
     have B7 : Hid (Blk (wv.alloc (.cells #[.slice a1 n1 e1, .int .i64 p1, .int .i64 q1, .int .i64 r1, .bool f1] 94)) wv.heap.size 94 #[.slice a1 n1 e1, .int .i64 p1, .int .i64 q1, .int .i64 r1, .bool f1]) := Lib.hid (Blk.new _ _ _)
     have HQ5 := Lib.hid (HQ.out.below hb5)
     have S5 := Lib.hid (S1.out.below hb5)
     rw [hg7] at B7 ⊢
     clear hb5 hg7 i0 x0 x1 x2 x3 x4 HQ W1 S1
     generalize wv.alloc (.cells #[.slice a1 n1 e1, .int .i64 p1, .int .i64 q1, .int .i64 r1, .bool f1] 94) = w5 at *
     obtain ⟨h1, h2, h3, h4⟩ := HQ5.out
     obtain ⟨L, ⟨ip, iq, ic⟩, hs⟩ := d2
     dsimp only at h1 h2 h3 h4 HKL
     injection h3 with t1 t2 t3
     subst h1; subst h4; subst t1; subst t2; subst t3
     have HLR := Lib.hid h2
     clear h2 HQ5
     have HLV := Lib.hid (llevel_any ⟨p1, q1, r1⟩ w5)
     unfold Lv.agg at HLV
     try dsimp only at HLV
     have s1 : w5.cell? ⟨g7, 1, none⟩ = some (.int .i64 p1) := B7.out.cell 1
     have s2 : w5.cell? ⟨g7, 2, none⟩ = some (.int .i64 q1) := B7.out.cell 2
     have s3 : w5.cell? ⟨g7, 3, none⟩ = some (.int .i64 r1) := B7.out.cell 3
     go_wp2_with fail
     refine HLV.out.mono ?_
     rintro e w6 ⟨rfl, hb6⟩
     have W6 := Lib.hid (W5.out.below hb6)
     have B76 := Lib.hid (B7.out.below hb6)
     have HLR6 := Lib.hid (HLR.out.below hb6)
     have S6 := Lib.hid (S5.out.below hb6)
     clear hb6 HLV W5 B7 HLR s1 s2 s3 S5
     have o1 : w6.cell? ⟨g5, 6, none⟩ = some (.int .i64 0) := W6.out.bo.cell 6
     have o2 : w6.cell? ⟨g5, 7, none⟩ = some (.int .i64 0) := W6.out.bo.cell 7
     have o3 : w6.cell? ⟨g5, 8, none⟩ = some (.int .i64 0) := W6.out.bo.cell 8
     have o4 : w6.cell? ⟨g5, 9, none⟩ = some (.bool false) := W6.out.bo.cell 9
     have zf : ∀ o, w6.frozen? ⟨g5, o, none⟩ = false := fun o => W6.out.bo.frozen o
     have s4 : w6.cell? ⟨g7, 4, none⟩ = some (.bool f1) := B76.out.cell 4
     have e75 : (g7 = g5) = False := eq_false (fun e => B76.out.tyd.ne W6.out.bo.tyd (by decide) e)
     have e57 : (g5 = g7) = False := eq_false (fun e => B76.out.tyd.ne W6.out.bo.tyd (by decide) e.symm)
     have hk7 : Keeps (fun g => g = g5) w6 ((((w6.setCell ⟨g5, 6, none⟩ (.int .i64 p1)).setCell ⟨g5, 7, none⟩ (.int .i64 q1)).setCell ⟨g5, 8, none⟩ (.int .i64 r1)).setCell ⟨g5, 9, none⟩ (.bool f1)) := (((keep1 w6 g5 6 (.int .i64 p1)).trans (keep1 _ g5 7 (.int .i64 q1))).trans (keep1 _ g5 8 (.int .i64 r1))).trans (keep1 _ g5 9 (.bool f1))
     have hbo7 := (((W6.out.bo.set_ 6 (.int .i64 p1)).set_ 7 (.int .i64 q1)).set_ 8 (.int .i64 r1)).set_ 9 (.bool f1)
     simp only [List.setIfInBounds_toArray, List.set_cons_zero, List.set_cons_succ] at hbo7
     have W7 : Hid (InS w ((((w6.setCell ⟨g5, 6, none⟩ (.int .i64 p1)).setCell ⟨g5, 7, none⟩ (.int .i64 q1)).setCell ⟨g5, 8, none⟩ (.int .i64 r1)).setCell ⟨g5, 9, none⟩ (.bool f1)) gi g2 g3 V.length (some ⟨gb, 0, none⟩) c v (V.take k) g5 x ⟨none, 0, 0, ⟨p1, q1, r1⟩, f1⟩) := Lib.hid (W6.out.put hk7 hbo7)
     have B77 := Lib.hid (B76.out.keeps hk7 (fun e => B76.out.tyd.ne W6.out.bo.tyd (by decide) e))
     have HLR7 := Lib.hid (HLR6.out.keep hk7 (fun g hg e => hg.ne W6.out.bo.tyd (by decide) e))
     have S7 := Lib.hid (S6.out.inS W6.out hk7)
     clear hk7 hbo7
     go_upto_region 12 with (fail)
     clear o1 o2 o3 o4 zf s4 W6 B76 HLR6 S6
     generalize ((((w6.setCell ⟨g5, 6, none⟩ (.int .i64 p1)).setCell ⟨g5, 7, none⟩ (.int .i64 q1)).setCell ⟨g5, 8, none⟩ (.int .i64 r1)).setCell ⟨g5, 9, none⟩ (.bool f1)) = w7 at *
     have s0 : w7.cell? ⟨g7, 0, none⟩ = some (.slice a1 L.length e1) := B77.out.cell 0
     go_wp2_with fail
     clear s0
     go_loopw [8] (fun i w' => ∃ (q : Nat) (av : Option Addr) (cv : Nat), i = .int .i64 q ∧ q ≤ L.length ∧ LnI w7 w' g5 g7 x ⟨av, q, cv, ⟨p1, q1, r1⟩, f1⟩ ⟨a1, L.length, e1, ⟨p1, q1, r1⟩, f1⟩ (.slice av q cv) (L.take q)) (fun i _ => L.length - (RowKit.intOf i).toNat)
     case atStart => exact ⟨0, none, 0, rfl, Nat.zero_le _, ⟨W7.out.bo, B77.out, by rw [List.take_zero]; exact Lay.Row.nil _ _, Keeps.refl _ _⟩⟩
     case round =>
      obtain ⟨q, av, cv, rfl, hq, hN⟩ := hrel
      obtain ⟨wz, rfl⟩ : ∃ wo : World, wo = wr := ⟨_, rfl⟩
      have N1 := Lib.hid hN
      clear hN
      have s0 : wz.cell? ⟨g7, 0, none⟩ = some (.slice a1 L.length e1) := N1.out.b7.cell 0
      by_cases hlt2 : q < L.length
      ·have hlt2' : (q : Int) < (L.length : Int) := by omega
       have hklo := HKL.out
       obtain ⟨z, hz⟩ : ∃ z, L[q]? = some z := ⟨_, List.getElem?_eq_getElem hlt2⟩
       have HTZ : Hid (L.take (q + 1) = L.take q ++ [z]) := Lib.hid (take_snoc hz)
       have HLQ : Hid ((L.take q).length = q) := Lib.hid (by rw [List.length_take]; omega)
       have HLRz := Lib.hid (HLR7.out.keep N1.out.kp (fun g hg e => hg.ne W7.out.bo.tyd (by decide) e))
       obtain ⟨gl, cap2, he, _, _⟩ := HLRz.out.at_ q z hz
       injection he with he1 _ he3
       subst he1
       subst he3
       have HC : Hid (∀ wx, Keeps (fun g => g = g5) wz wx → wx.cell? ⟨gl, q * 3, none⟩ = some (.int .i64 z.price) ∧ wx.cell? ⟨gl, q * 3 + 1, none⟩ = some (.int .i64 z.qty) ∧ wx.cell? ⟨gl, q * 3 + 2, none⟩ = some (.int .i64 z.count)) := Lib.hid (fun wx hk => by
        have hr := HLRz.out.keep hk (fun g hg e => hg.ne N1.out.bo.tyd (by decide) e)
        obtain ⟨x0, x1, x2, _⟩ := lvl_at hr hz
        exact ⟨x0, x1, x2⟩)
       have HLV := Lib.hid (llevel_any z (wz.drewN 1))
       unfold Lv.agg at HLV
       clear hz
       go_upto_region 15 with (fail)
       refine wp_region_E (S := fun w' => w'.cell? ⟨g5, 5, none⟩ = some (.slice av q cv) ∧ w'.cell? ⟨g7, 0, none⟩ = some (.slice (some ⟨gl, 0, none⟩) L.length e1) ∧ w'.cell? ⟨gl, q * 3, none⟩ = some (.int .i64 z.price) ∧ w'.cell? ⟨gl, q * 3 + 1, none⟩ = some (.int .i64 z.qty) ∧ w'.cell? ⟨gl, q * 3 + 2, none⟩ = some (.int .i64 z.count)) (by kernel_rfl) ⟨N1.out.bo.cell 5, N1.out.b7.cell 0, HC.out _ (Keeps.refl _ _).drew⟩ (fun hHeld => ?_)
       refine wpE_tk 0 (oi := ?o13) (v := ?v13) ?h13 (by kernel_rfl) ?q13 ?y13 (by assumption) ?_
       case h13 => (simp only [List.getElem?_toArray]; rfl)
       case q13 => exact fun _ _ _ h => h
       case y13 => exact Or.inl ⟨by rfl, by (intro w hSw; (try dsimp only at hSw); go_simp; try with_reducible rfl)⟩
       try simp only [Act.put, sA, sB, sC]
       refine wpE_tk 1 (oi := ?o14) (v := ?v14) ?h14 (by kernel_rfl) ?q14 ?y14 (by assumption) ?_
       case h14 => (simp only [List.getElem?_toArray]; rfl)
       case q14 => exact fun _ _ _ h => h
       case y14 => exact Or.inl ⟨by rfl, by (intro w hSw; (try dsimp only at hSw); go_simp; try with_reducible rfl)⟩
       try simp only [Act.put, sA, sB, sC]
       refine wpE_tk 2 (oi := ?o15) (v := ?v15) ?h15 (by kernel_rfl) ?q15 ?y15 (by assumption) ?_
       case h15 => (simp only [List.getElem?_toArray]; rfl)
       case q15 => exact fun _ _ _ h => h
       case y15 => exact Or.inl ⟨by rfl, by (intro w hSw; (try dsimp only at hSw); go_simp; try with_reducible rfl)⟩
       try simp only [Act.put, sA, sB, sC]
       refine wpE_tk 3 (oi := ?o16) (v := ?v16) ?h16 (by kernel_rfl) ?q16 ?y16 (by assumption) ?_
       case h16 => (simp only [List.getElem?_toArray]; rfl)
       case q16 => exact fun _ _ _ h => h
       case y16 => exact Or.inl ⟨by rfl, by (intro w hSw; (try dsimp only at hSw); go_simp; try with_reducible rfl)⟩
       try simp only [Act.put, sA, sB, sC]
       refine wpE_tk 4 (oi := ?o17) (v := ?v17) ?h17 (by kernel_rfl) ?q17 ?y17 (by assumption) ?_
       case h17 => (simp only [List.getElem?_toArray]; rfl)
       case q17 => exact fun _ _ _ h => h
       case y17 => exact Or.inl ⟨by rfl, by (intro w hSw; (try dsimp only at hSw); go_simp; try with_reducible rfl)⟩
       try simp only [Act.put, sA, sB, sC]
       refine wpE_tk 5 (oi := ?o18) (v := ?v18) ?h18 (by kernel_rfl) ?q18 ?y18 (by assumption) ?_
       case h18 => (simp only [List.getElem?_toArray]; rfl)
       case q18 => exact fun _ _ _ h => h
       case y18 => exact Or.inl ⟨by rfl, by (intro w hSw; (try dsimp only at hSw); go_simp; try with_reducible rfl)⟩
       try simp only [Act.put, sA, sB, sC]
       refine wpE_tk 6 (oi := ?o19) (v := ?v19) ?h19 (by kernel_rfl) ?q19 ?y19 (by assumption) ?_
       case h19 => (simp only [List.getElem?_toArray]; rfl)
       case q19 => exact fun _ _ _ h => h
       case y19 => exact Or.inl ⟨by rfl, by (intro w hSw; (try dsimp only at hSw); go_simp; try with_reducible rfl)⟩
       try simp only [Act.put, sA, sB, sC]
       refine wpE_tk 7 (oi := ?o20) (v := ?v20) ?h20 (by kernel_rfl) ?q20 ?y20 (by assumption) ?_
       case h20 => (simp only [List.getElem?_toArray]; rfl)
       case q20 => exact fun _ _ _ h => h
       case y20 => exact Or.inl ⟨by rfl, by (intro w hSw; (try dsimp only at hSw); go_simp; try with_reducible rfl)⟩
       try simp only [Act.put, sA, sB, sC]
       refine wpE_tk 8 (oi := ?o21) (v := ?v21) ?h21 (by kernel_rfl) ?q21 ?y21 (by assumption) ?_
       case h21 => (simp only [List.getElem?_toArray]; rfl)
       case q21 => exact fun _ _ _ h => h
       case y21 => exact Or.inl ⟨by rfl, by (intro w hSw; (try dsimp only at hSw); go_simp; try with_reducible rfl)⟩
       try simp only [Act.put, sA, sB, sC]
       refine wpE_tk 9 (oi := ?o22) (v := ?v22) ?h22 (by kernel_rfl) ?q22 ?y22 (by assumption) ?_
       case h22 => (simp only [List.getElem?_toArray]; rfl)
       case q22 => exact fun _ _ _ h => h
       case y22 => exact Or.inl ⟨by rfl, by (intro w hSw; (try dsimp only at hSw); go_simp; try with_reducible rfl)⟩
       try simp only [Act.put, sA, sB, sC]
       refine wpE_one (i := 10) (o := ?o28) ?ho28 (by kernel_rfl) (fun K hK => ?_)
       case ho28 => (simp only [List.getElem?_toArray]; rfl)
       go_simp
       refine HLV.out.mono ?_
       rintro e w3 ⟨rfl, hb3⟩
       have hb3' := (Below.drewN_of wz 1).trans hb3
       have N3 : Hid (LnI w7 w3 g5 g7 x ⟨av, q, cv, ⟨p1, q1, r1⟩, f1⟩ ⟨some ⟨gl, 0, none⟩, L.length, e1, ⟨p1, q1, r1⟩, f1⟩ (.slice av q cv) (L.take q)) := Lib.hid ⟨N1.out.bo.below hb3', N1.out.b7.below hb3', N1.out.row.below hb3', N1.out.kp.trans (Below.keeps hb3')⟩
       have K3 : Hid (Keeps (fun g => g = g5) wz w3) := Lib.hid (Below.keeps hb3')
       refine hK.out _ _ ⟨N3.out.bo.cell 5, N3.out.b7.cell 0, HC.out _ K3.out⟩ (fun hHeld => ?_)
       clear hK K hb3 hb3' HLV
       have hba := Below.allocN w3 (.cells #[.int .i64 z.price, .int .i64 z.qty, .int .i64 z.count] 79)
       have N4 : Hid (LnI w7 _ g5 g7 x ⟨av, q, cv, ⟨p1, q1, r1⟩, f1⟩ ⟨some ⟨gl, 0, none⟩, L.length, e1, ⟨p1, q1, r1⟩, f1⟩ (.slice av q cv) (L.take q)) := Lib.hid ⟨N3.out.bo.below hba, N3.out.b7.below hba, N3.out.row.below hba, N3.out.kp.trans (Below.keeps hba)⟩
       have K4 := Lib.hid (K3.out.trans (Below.keeps (F := fun g => g = g5) hba))
       have HN4 : Hid (Blk (w3.alloc (.cells #[.int .i64 z.price, .int .i64 z.qty, .int .i64 z.count] 79)) w3.heap.size 79 z.cells.toArray) := Lib.hid (Blk.new _ _ _)
       obtain ⟨gx, hgx⟩ : ∃ gx, w3.heap.size = gx := ⟨_, rfl⟩
       refine wpE_one (i := 11) (o := ?o29) ?ho29 (by kernel_rfl) (fun K hK => ?_)
       case ho29 => (simp only [List.getElem?_toArray]; rfl)
       go_simp
       refine hK.out _ _ ⟨N4.out.bo.cell 5, N4.out.b7.cell 0, HC.out _ K4.out⟩ (fun hHeld => ?_)
       rw [hgx] at HN4
       clear hgx hK K hba N3 K3
       generalize w3.alloc (.cells #[.int .i64 z.price, .int .i64 z.qty, .int .i64 z.count] 79) = w4 at *
       refine wpE_one (i := 12) (o := ?o30) ?ho30 (by kernel_rfl) (fun K hK => ?_)
       case ho30 => (simp only [List.getElem?_toArray]; rfl)
       refine RLV.step (by rfl) (.tmp 49) (.tmp 56) (by rfl) w7.heap.size (.slice av q cv) (L.take q) (by rfl) N4.out.row gx z (by rfl) HN4.out.lt HN4.out.cellsAt (by have := HLQ.out; have := HKL.out; omega) N4.out.kp.size ?_
       intro v' w5' hr5 hg5 _
       obtain ⟨a5, c5, hv5⟩ := hr5.form
       rw [← HTZ.out, List.length_take, Nat.min_eq_left (by omega)] at hv5
       rw [← HTZ.out] at hr5
       subst hv5
       have hk5 := grown_keeps hg5
       have hty : ∀ g, (Value.slice av q cv).ownBlock = some g → Tyd w4 g RLV.t := fun g hg => own_tyd N4.out.row g hg
       have hbs : ∀ g, (Value.slice av q cv).ownBlock = some g → w7.heap.size ≤ g := own_base N4.out.row
       have BO5 := Lib.hid (N4.out.bo.keeps hk5 (fun e => (hty _ e).ne N4.out.bo.tyd (by decide) rfl))
       have B75 := Lib.hid (N4.out.b7.keeps hk5 (fun e => (hty _ e).ne N4.out.b7.tyd (by decide) rfl))
       have KP5 := Lib.hid (N4.out.kp.step hk5 (fun i hi hg => absurd (hbs i hg) (by omega)))
       have RW5 := Lib.hid hr5
       have C5 : Hid (w5'.cell? ⟨gl, q * 3, none⟩ = some (.int .i64 z.price) ∧ w5'.cell? ⟨gl, q * 3 + 1, none⟩ = some (.int .i64 z.qty) ∧ w5'.cell? ⟨gl, q * 3 + 2, none⟩ = some (.int .i64 z.count)) := Lib.hid (by
        have hr := HLRz.out.keep K4.out (fun g hg e => hg.ne N1.out.bo.tyd (by decide) e)
        have hr2 := hr.keep hk5 (fun g hg e => (hty _ e).ne hg (by decide) rfl)
        have hz : L[q]? = some z := by
         have := HTZ.out
         have h2 : (L.take (q + 1))[q]? = L[q]? := by rw [List.getElem?_take, if_pos (by omega)]
         rw [← h2, this, List.getElem?_append_right (by rw [HLQ.out]; omega), HLQ.out, Nat.sub_self]; rfl
        obtain ⟨x0, x1, x2, _⟩ := lvl_at hr2 hz
        exact ⟨x0, x1, x2⟩)
       refine hK.out _ _ ⟨BO5.out.cell 5, B75.out.cell 0, C5.out⟩ (fun hHeld => ?_)
       clear hK K hr5 hg5 hk5 hty hbs N4 K4 HN4
       refine wpE_tk 13 (oi := ?o23) (v := ?v23) ?h23 (by kernel_rfl) ?q23 ?y23 (by assumption) ?_
       case h23 => (simp only [List.getElem?_toArray]; rfl)
       case q23 => exact fun _ _ _ h => h
       case y23 => exact Or.inl ⟨by rfl, by (intro w hSw; (try dsimp only at hSw); go_simp; try with_reducible rfl)⟩
       try simp only [Act.put, sA, sB, sC]
       refine wpE_tk 14 (oi := ?o24) (v := ?v24) ?h24 (by kernel_rfl) ?q24 ?y24 (by assumption) ?_
       case h24 => (simp only [List.getElem?_toArray]; rfl)
       case q24 => exact fun _ _ _ h => h
       case y24 => exact Or.inl ⟨by rfl, by (intro w hSw; (try dsimp only at hSw); go_simp; try with_reducible rfl)⟩
       try simp only [Act.put, sA, sB, sC]
       refine wpE_last (i := 15) (o := ?o32) ?ho32 (by kernel_rfl) (by kernel_rfl) (by kernel_rfl) (fun K hK => ?_)
       case ho32 => (simp only [List.getElem?_toArray]; rfl)
       have k5 : w5'.cell? ⟨g5, 5, none⟩ = some (.slice av q cv) := BO5.out.cell 5
       have z5 : w5'.frozen? ⟨g5, 5, none⟩ = false := BO5.out.frozen 5
       go_simp
       refine hK.out _ _ ?_
       have hk6 := keep1 w5' g5 5 (.slice a5 (q + 1) c5)
       have hb6 := BO5.out.set_ 5 (.slice a5 (q + 1) c5)
       simp only [List.setIfInBounds_toArray, List.set_cons_zero, List.set_cons_succ] at hb6
       have N6 : Hid (LnI w7 (w5'.setCell ⟨g5, 5, none⟩ (.slice a5 (q + 1) c5)) g5 g7 x ⟨a5, q + 1, c5, ⟨p1, q1, r1⟩, f1⟩ ⟨some ⟨gl, 0, none⟩, L.length, e1, ⟨p1, q1, r1⟩, f1⟩ (.slice a5 (q + 1) c5) (L.take (q + 1))) := Lib.hid
        ⟨hb6, B75.out.keeps hk6 (fun e => B75.out.tyd.ne BO5.out.tyd (by decide) e), RW5.out.keep hk6 (fun g hg e => hg.ne BO5.out.tyd (by decide) e), KP5.out.trans hk6⟩
       clear hK K hHeld k5 z5 hk6 hb6 N1 BO5 B75 KP5 RW5 C5
       go_wp2_with fail
       go_roundw
       case rel => exact ⟨q + 1, a5, c5, by go_num, hlt2, N6.out⟩
       case measure => simp [RowKit.intOf]; omega
      ·have hql : q = L.length := by omega
       subst hql
       have WE : Hid (InS w wz gi g2 g3 V.length (some ⟨gb, 0, none⟩) c v (V.take k) g5 x ⟨av, L.length, cv, ⟨p1, q1, r1⟩, f1⟩) := Lib.hid (W7.out.put N1.out.kp N1.out.bo)
       have SE : Hid (ShO RLV wz w.heap.size ⟨av, L.length, cv, ⟨p1, q1, r1⟩, f1⟩ ⟨L, ⟨p1, q1, r1⟩, f1⟩) := Lib.hid ⟨rfl, by have := N1.out.row; rw [List.take_length] at this; exact this.base W7.out.i.bel.size, rfl, rfl⟩
       have S8 := Lib.hid (S7.out.inS W7.out N1.out.kp)
       clear N1 W7 B77 HLR7
       go_wp2_with fail
       go_roundw
       case rel => exact ⟨2, _, _, by go_num, WE.out, .inr (.inr ⟨rfl, S8.out, SE.out⟩)⟩
       case measure => simp [RowKit.intOf]
    ·obtain ⟨P, hP, hPl, hPs⟩ := hW.i.vo
     obtain ⟨av, cv, hvf⟩ := hP.form
     subst hvf
     have W1 := Lib.hid hW
     have HP := Lib.hid hP
     have HPL := Lib.hid hPl
     have HPS := Lib.hid hPs
     have HS1 := Lib.hid hs1
     have HS2 := Lib.hid hs2
     clear hP hPl hPs hW hs1 hs2
     have m0 : wv.cell? ⟨g5, 0, none⟩ = some (.slice x.a x.n x.c) := W1.out.bo.cell 0
     have m1 : wv.cell? ⟨g5, 1, none⟩ = some (.int .i64 x.im.price) := W1.out.bo.cell 1
     have m2 : wv.cell? ⟨g5, 2, none⟩ = some (.int .i64 x.im.qty) := W1.out.bo.cell 2
     have m3 : wv.cell? ⟨g5, 3, none⟩ = some (.int .i64 x.im.count) := W1.out.bo.cell 3
     have m4 : wv.cell? ⟨g5, 4, none⟩ = some (.bool x.has) := W1.out.bo.cell 4
     have m5 : wv.cell? ⟨g5, 5, none⟩ = some (.slice y.a y.n y.c) := W1.out.bo.cell 5
     have m6 : wv.cell? ⟨g5, 6, none⟩ = some (.int .i64 y.im.price) := W1.out.bo.cell 6
     have m7 : wv.cell? ⟨g5, 7, none⟩ = some (.int .i64 y.im.qty) := W1.out.bo.cell 7
     have m8 : wv.cell? ⟨g5, 8, none⟩ = some (.int .i64 y.im.count) := W1.out.bo.cell 8
     have m9 : wv.cell? ⟨g5, 9, none⟩ = some (.bool y.has) := W1.out.bo.cell 9
     have v0 : wv.cell? ⟨g3, 0, none⟩ = some (.slice av P.length cv) := W1.out.i.b3.cell 0
     have hba := Below.allocN wv (.cells #[.slice x.a x.n x.c, .int .i64 x.im.price, .int .i64 x.im.qty, .int .i64 x.im.count, .bool x.has, .slice y.a y.n y.c, .int .i64 y.im.price, .int .i64 y.im.qty, .int .i64 y.im.count, .bool y.has] 82)
     have HBA := Lib.hid hba
     have HPB := Lib.hid (HP.out.below hba)
     have HPSB : Hid (∀ (j : Nat) (p : Pr) (x : Sd × Sd), P[j]? = some p → (V.take k)[j]? = some x → ShO RLV _ w.heap.size p.s x.1 ∧ ShO RLV _ w.heap.size p.t x.2) := Lib.hid fun j p x hp hx => ⟨(HPS.out j p x hp hx).1.below hba, (HPS.out j p x hp hx).2.below hba⟩
     have HNB : Hid (Blk (wv.alloc (.cells #[.slice x.a x.n x.c, .int .i64 x.im.price, .int .i64 x.im.qty, .int .i64 x.im.count, .bool x.has, .slice y.a y.n y.c, .int .i64 y.im.price, .int .i64 y.im.qty, .int .i64 y.im.count, .bool y.has] 82)) wv.heap.size 82 (RPR.cells ⟨x, y⟩).toArray) := Lib.hid (Blk.new _ _ _)
     have HSZ : Hid (w.heap.size ≤ (wv.alloc (.cells #[.slice x.a x.n x.c, .int .i64 x.im.price, .int .i64 x.im.qty, .int .i64 x.im.count, .bool x.has, .slice y.a y.n y.c, .int .i64 y.im.price, .int .i64 y.im.qty, .int .i64 y.im.count, .bool y.has] 82)).heap.size) := Lib.hid (Nat.le_trans W1.out.i.bel.size hba.size)
     have HPN : Hid (P.length + 1 ≤ 1000000) := Lib.hid (by rw [HPL.out, HTL.out]; omega)
     clear hba HP HPS
     go_wp2_with (first
      | (at_builtin; go_loud (refine RPR.push rfl (.tmp 61) (.tmp 63) rfl w.heap.size (.slice av P.length cv) P rfl HPB.out wv.heap.size ⟨x, y⟩ rfl HNB.out.lt HNB.out.cellsAt HPN.out HSZ.out ?_)))
     intro v' w5 hr5 hg5 _
     obtain ⟨a5, c5, hv5⟩ := hr5.form
     rw [show (P ++ [(⟨x, y⟩ : Pr)]).length = P.length + 1 by rw [List.length_append]; rfl] at hv5
     subst hv5
     obtain ⟨i6, k5, z5⟩ := W1.out.grow HBA.out HPB.out HPL.out HPSB.out HS1.out HS2.out hr5 hg5
     rw [← HTK.out] at i6
     have I6 := Lib.hid i6
     clear hr5 hg5 i6 HPB HPSB HNB HSZ HPN HBA W1 HS1 HS2 m0 m1 m2 m3 m4 m5 m6 m7 m8 m9 v0
     go_wp2_with fail
     go_roundw
     case rel => exact ⟨k + 1, _, by go_num, hlt, I6.out⟩
     case measure => simp [RowKit.intOf]; omega
  ·have hkl : k = V.length := by omega
   subst hkl
   have HVO : Hid (VO RPR RLV wz w.heap.size v V) := Lib.hid (by have := I1.out.vo; rwa [List.take_length] at this)
   obtain ⟨av, cv, hvf⟩ := HVO.out.form
   have v0 : wz.cell? ⟨g3, 0, none⟩ = some v := I1.out.b3.cell 0
   have r0 : wz.cell? ⟨g2, 0, none⟩ = some (.slice none 0 0) := I1.out.b2.cell 0
   have z0 : wz.frozen? ⟨g2, 0, none⟩ = false := I1.out.b2.frozen 0
   subst hvf
   go_wp2_with fail
   clear v0 r0 z0
   have k0 : (wz.setCell ⟨g2, 0, none⟩ (.slice av V.length cv)).cell? ⟨g2, 0, none⟩ = some (.slice av V.length cv) := (I1.out.b2.set_ 0 _).cell 0
   have hbz := I1.out.bel.setCell (p := ⟨g2, 0, none⟩) I1.out.n2 (.slice av V.length cv)
   have hvz := HVO.out.keep (keep1 wz g2 0 (.slice av V.length cv)) (fun g hg e => hg.ne I1.out.b2.tyd (by decide) e) (fun g hg e => hg.ne I1.out.b2.tyd (by decide) e)
   refine bodyPost_ret (v := .agg #[.slice av V.length cv]) (by simp [results, Try.results35, go_sem, k0]) rfl ⟨_, rfl, hvz, hbz⟩
end
end Go.Proofs.Ytmaijkoopjocdaa
