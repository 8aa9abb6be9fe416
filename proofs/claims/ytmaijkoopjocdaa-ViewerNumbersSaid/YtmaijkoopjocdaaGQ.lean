/- Merged: RSd1 REnc Make. -/
import Derived.Test.YtmaijkoopjocdaaGN
import Derived.Test.YtmaijkoopjocdaaGL
import Derived.Test.YtmaijkoopjocdaaGB
import Derived.Test.YtmaijkoopjocdaaGE
import Derived.Deep.DeepCutAuto
import Derived.Test.YtmaijkoopjocdaaOwn
import Derived.Test.YtmaijkoopjocdaaLegs
import Derived.Deep.RegionHeld3
/- What cornhillref20.Decode reads, in names; how a reading of it lies. -/
namespace Go.Proofs.Ytmaijkoopjocdaa
open Go.RowKit Go.Lib

theorem lvsR_step (m : Nat) {s : RS} (hb : s.bad = false) : readLvsR (m + 1) s = ((readLv s).1 :: (readLvsR m (readLv s).2).1, (readLvsR m (readLv s).2).2) := if_neg (by rw [hb]; decide)
theorem lvsR_bad : ∀ (m : Nat) {s : RS} (_ : s.bad = true), readLvsR m s = ([], s)
 | 0, _, _ => rfl
 | _ + 1, _, h => if_pos h
theorem vwR_step (m : Nat) {s : RS} (hb : s.bad = false) : readVwR (m + 1) s = (((readSdR s).1, (readSdR (readSdR s).2.2).1) :: (readVwR m (readSdR (readSdR s).2.2).2.2).1, ((readSdR s).2.1 && (readSdR (readSdR s).2.2).2.1 && (readVwR m (readSdR (readSdR s).2.2).2.2).2.1), (readVwR m (readSdR (readSdR s).2.2).2.2).2.2) := if_neg (by rw [hb]; decide)
theorem vwR_bad : ∀ (m : Nat) {s : RS} (_ : s.bad = true), readVwR m s = ([], true, s)
 | 0, _, _ => rfl
 | _ + 1, _, h => if_pos h
theorem decS_eqR {b : List Int} {m : Nat} {q n : Int} {s1 s2 : RS} (h : b.length = m + 4) (hs : le4 (crcP (b.take m)) = b.drop m) (h1 : (⟨b.take m, false⟩ : RS).long = (q, s1)) (h2 : s1.num 1 = (n, s2)) : decS b = decT q (readVwR n.toNat s2) := by
 rw [decS_eq h hs h1 h2]
 have key : ∀ r : Vw × Bool × RS, r.2.2.bad = true → decT q r = (12, [], 0) := fun r h => if_neg (fun k => by rw [k.2.1] at h; cases h)
 rcases vw_eq n.toNat s2 with ⟨g1, g2⟩ | g
 ·rw [key _ g1, key _ g2]
 ·rw [g]
theorem lvsR_len : ∀ (n : Nat) (s : RS), (readLvsR n s).1.length ≤ n
 | 0, _ => Nat.le_refl _
 | n + 1, s => by
  unfold readLvsR
  split
  ·exact Nat.zero_le _
  ·rw [List.length_cons]; have := lvsR_len n (readLv s).2; omega
theorem lvsR_ok : ∀ (n : Nat) {s : RS}, s.ok → (readLvsR n s).2.ok
 | 0, _, h => h
 | n + 1, s, h => by
  unfold readLvsR
  split
  ·exact h
  ·exact lvsR_ok n (readLv_ok h)
theorem sdR_le {s : RS} (h : s.ok) : (readSdR s).1.lv.length ≤ 255 := by
 have hb := RS.byte_range h
 have e : ∀ (l : List Lv) (t : RS), (readIm l t).1.lv = l := fun l t => by unfold readIm; split <;> rfl
 unfold readSdR
 rw [e]
 have := lvsR_len (s.num 1).1.toNat (s.num 1).2
 omega
theorem sdR_ok {s : RS} (h : s.ok) : (readSdR s).2.2.ok := readIm_ok (lvsR_ok _ (RS.num_ok h))
theorem whyP_true {s : RS} (h : s.bad = true) : whyP s = 10 := if_pos h
theorem whyP_false {s : RS} (h : s.bad = false) : whyP s = 0 := if_neg (by rw [h]; decide)
theorem RR4.why {W w : World} {pr : Nat} {s : RS} (h : RR4 W w pr s) : w.cell? ⟨pr, 2, none⟩ = some (.int .i64 (whyP s)) := by
 obtain ⟨a, c, X, p, hb, _⟩ := h.box
 exact hb.cell 2
structure RvI (W w : World) (pr g9 n : Nat) (s0 : RS) (m : Nat) (v : Value) (f : Bool) (acc : Vw) (t : RS) : Prop where
 rd : RR4 W w pr t
 bx : Blk w g9 44 #[v]
 vo : VO RPR RLV w W.heap.size v acc
 e1 : acc ++ (readVwR m t).1 = (readVwR n s0).1
 e2 : (f && (readVwR m t).2.1) = (readVwR n s0).2.1
 e3 : (readVwR m t).2.2 = (readVwR n s0).2.2
 len : acc.length + m ≤ n
 le : LenV acc 255
structure RwI (W w : World) (pr g9 g11 : Nat) (v : Value) (acc : Vw) (x y : Sh) (t : RS) : Prop where
 rd : RR4 W w pr t
 bx : Blk w g9 44 #[v]
 vo : VO RPR RLV w W.heap.size v acc
 ap : ∀ g, v.ownBlock = some g → g ≠ g11
 bo : Blk w g11 82 #[.slice x.a x.n x.c, .int .i64 x.im.price, .int .i64 x.im.qty, .int .i64 x.im.count, .bool x.has, .slice y.a y.n y.c, .int .i64 y.im.price, .int .i64 y.im.qty, .int .i64 y.im.count, .bool y.has]
/-- inside one side's levels: wz is where the side began -/
structure RlI (W wz w : World) (pr g11 n : Nat) (s0 : RS) (m : Nat) (x y : Sh) (v : Value) (L : List Lv) (t : RS) : Prop where
 rd : RR4 W w pr t
 bo : Blk w g11 82 #[.slice x.a x.n x.c, .int .i64 x.im.price, .int .i64 x.im.qty, .int .i64 x.im.count, .bool x.has, .slice y.a y.n y.c, .int .i64 y.im.price, .int .i64 y.im.qty, .int .i64 y.im.count, .bool y.has]
 row : RLV.Row w wz.heap.size v L
 kp : Keeps (fun g => g = pr ∨ g = g11) wz w
 e1 : L ++ (readLvsR m t).1 = (readLvsR n s0).1
 e2 : (readLvsR m t).2 = (readLvsR n s0).2
 len : L.length + m ≤ n
section
variable {W wz w w' : World} {pr g9 g11 : Nat} {v : Value} {acc : Vw} {x y : Sh} {t t' : RS}
theorem RwI.read (h : RwI W w pr g9 g11 v acc x y t) (n9 : g9 ≠ pr) (n11 : g11 ≠ pr) (hr : RR4 W w' pr t') (hk : Keeps (fun g => g = pr) w w') : RwI W w' pr g9 g11 v acc x y t' :=
 ⟨hr, h.bx.keeps hk n9, h.vo.keep hk (fun g hg e => hg.ne h.rd.tyd (by decide) e) (fun g hg e => hg.ne h.rd.tyd (by decide) e), h.ap, h.bo.keeps hk n11⟩
/-- behind a side's levels -/
theorem RwI.lev {x' y' : Sh} (h : RwI W wz pr g9 g11 v acc x y t) (n9 : g9 ≠ pr) (n11 : g9 ≠ g11) (hr : RR4 W w pr t') (hk : Keeps (fun g => g = pr ∨ g = g11) wz w)
  (hb : Blk w g11 82 #[.slice x'.a x'.n x'.c, .int .i64 x'.im.price, .int .i64 x'.im.qty, .int .i64 x'.im.count, .bool x'.has, .slice y'.a y'.n y'.c, .int .i64 y'.im.price, .int .i64 y'.im.qty, .int .i64 y'.im.count, .bool y'.has]) : RwI W w pr g9 g11 v acc x' y' t' :=
 ⟨hr, h.bx.keeps hk (by rintro (e | e); exact n9 e; exact n11 e), h.vo.keep2 hk (fun g hg e => by
   obtain ⟨P, hP, _⟩ := h.vo
   rcases e with e | e
   ·exact (own_tyd hP g hg).ne h.rd.tyd (by decide) e
   ·exact h.ap g hg e) (fun g hg e => by
   rcases e with e | e
   ·exact hg.ne h.rd.tyd (by decide) e
   ·exact hg.ne h.bo.tyd (by decide) e), h.ap, hb⟩
theorem ShO.lev {s : Sh} {d : Sd} (h : ShO RLV wz W.heap.size s d) (hr : RR4 W wz pr t) (hb : ∃ cs, Blk wz g11 82 cs) (hk : Keeps (fun g => g = pr ∨ g = g11) wz w) : ShO RLV w W.heap.size s d := by
 obtain ⟨cs, hb⟩ := hb
 exact h.keep hk fun g hg e => by
  rcases e with e | e
  ·exact hg.ne hr.tyd (by decide) e
  ·exact hg.ne hb.tyd (by decide) e
/-- a store into the pair of sides -/
theorem RwI.put {w2 : World} {x' y' : Sh} (h : RwI W w pr g9 g11 v acc x y t) (n9 : g9 ≠ g11) (np : pr ≠ g11) (hb : W.heap.size ≤ g11) (hk : Keeps (fun g => g = g11) w w2)
  (h2 : Blk w2 g11 82 #[.slice x'.a x'.n x'.c, .int .i64 x'.im.price, .int .i64 x'.im.qty, .int .i64 x'.im.count, .bool x'.has, .slice y'.a y'.n y'.c, .int .i64 y'.im.price, .int .i64 y'.im.qty, .int .i64 y'.im.count, .bool y'.has]) : RwI W w2 pr g9 g11 v acc x' y' t :=
 ⟨h.rd.keep hk np (fun k hk => by have hk2 : k = g11 := hk; rw [hk2]; exact hb), h.bx.keeps hk n9, h.vo.keep2 hk (fun g hg e => h.ap g hg e) (fun g hg e => hg.ne h.bo.tyd (by decide) e), h.ap, h2⟩
theorem VO.rsnoc {B : Nat} {v' : Value} {P : List Pr} {p : Pr} {d : Sd × Sd} (hr : RPR.Row w B v' (P ++ [p])) (hl : P.length = acc.length) (ho : ∀ (j : Nat) (p : Pr) (x : Sd × Sd), P[j]? = some p → acc[j]? = some x → ShO RLV w B p.s x.1 ∧ ShO RLV w B p.t x.2) (h1 : ShO RLV w B p.s d.1) (h2 : ShO RLV w B p.t d.2) : VO RPR RLV w B v' (acc ++ [d]) := by
 refine ⟨_, hr, by rw [List.length_append, List.length_append, hl]; rfl, fun j q z hq hz => ?_⟩
 by_cases hj : j < P.length
 ·rw [List.getElem?_append_left hj] at hq
  rw [List.getElem?_append_left (by omega)] at hz
  exact ho j q z hq hz
 ·rw [List.getElem?_append_right (by omega)] at hq
  rw [List.getElem?_append_right (by omega)] at hz
  have hj0 : j - P.length = 0 := by have := lt_of_get hq; simp at this; omega
  rw [hj0] at hq
  rw [← hl, hj0] at hz
  injection hq with hq; injection hz with hz
  subst hq; subst hz
  exact ⟨h1, h2⟩
theorem RwI.grow {wb w5 : World} {P : List Pr} {v' : Value} {d1 d2 : Sd} (h : RwI W w pr g9 g11 v acc x y t) (hb : Below w.heap.size w wb) (hP : RPR.Row wb W.heap.size v P) (hl : P.length = acc.length) (hs : ∀ (j : Nat) (p : Pr) (x : Sd × Sd), P[j]? = some p → acc[j]? = some x → ShO RLV wb W.heap.size p.s x.1 ∧ ShO RLV wb W.heap.size p.t x.2)
  (h1 : ShO RLV w W.heap.size x d1) (h2 : ShO RLV w W.heap.size y d2) (hr : RPR.Row w5 W.heap.size v' (P ++ [⟨x, y⟩])) (hg : wb.grownBy w5 v.ownBlock) (hg9 : W.heap.size ≤ g9) (n9 : pr ≠ g9) :
  RR4 W (w5.setCell ⟨g9, 0, none⟩ v') pr t ∧ Blk (w5.setCell ⟨g9, 0, none⟩ v') g9 44 #[v'] ∧ VO RPR RLV (w5.setCell ⟨g9, 0, none⟩ v') W.heap.size v' (acc ++ [(d1, d2)]) ∧ w5.cell? ⟨g9, 0, none⟩ = some v ∧ w5.frozen? ⟨g9, 0, none⟩ = false := by
 have hk := grown_keeps hg
 have hty : ∀ g, v.ownBlock = some g → Tyd wb g RPR.t := fun g hg => own_tyd hP g hg
 have hbs : ∀ g, v.ownBlock = some g → W.heap.size ≤ g := own_base hP
 have r1 := h.rd.below hb
 have b1 := h.bx.below hb
 have r5 := r1.keep hk (fun e => (hty _ e).ne r1.tyd (by decide) rfl) hbs
 have b5 := b1.keeps hk (fun e => (hty _ e).ne b1.tyd (by decide) rfl)
 have l5 : ∀ {s : Sh} {d : Sd}, ShO RLV wb W.heap.size s d → ShO RLV w5 W.heap.size s d := fun hh => hh.keep hk (fun g hg e => (hty _ e).ne hg (by decide) rfl)
 have vo5 : VO RPR RLV w5 W.heap.size v' (acc ++ [(d1, d2)]) := VO.rsnoc hr hl (fun j p x hp hx => ⟨l5 (hs j p x hp hx).1, l5 (hs j p x hp hx).2⟩) (l5 (h1.below hb)) (l5 (h2.below hb))
 have hk6 := keep1 w5 g9 0 v'
 have hb6 := b5.set_ 0 v'
 simp only [List.setIfInBounds_toArray, List.set_cons_zero] at hb6
 exact ⟨r5.keep hk6 n9 (fun k hk => by have hk2 : k = g9 := hk; rw [hk2]; exact hg9), hb6, vo5.keep hk6 (fun g hg e => hg.ne b5.tyd (by decide) e) (fun g hg e => hg.ne b5.tyd (by decide) e), b5.cell 0, b5.frozen 0⟩
end
end Go.Proofs.Ytmaijkoopjocdaa

/- The walks of cornhillref19.Encode where it writes, and of cornhillref20.level. -/
namespace Go.Proofs.Ytmaijkoopjocdaa
open Go.RowKit Go.Lib

set_option maxRecDepth 20000 in
set_option maxHeartbeats 8000000 in
theorem rlevel_any {w : World} {v : Value} {L : List Int} (h : BYL.Sl w v L) (hl : L.length ≤ 899000) (x : Lv) :
  Calls Try.prog 38 #[v, x.agg] w fun e w' => ∃ v', e = .returned v' ∧ BYL.Row w' w.heap.size v' (L ++ encLv x) ∧ Below w.heap.size w w' := by
 obtain ⟨p, q, c⟩ := x
 unfold Lv.agg
 dsimp only
 have HB : Hid (Below w.heap.size w (w.alloc (.cells #[.int .i64 p, .int .i64 q, .int .i64 c] 79))) := Lib.hid (Below.allocN _ _)
 have HG : Hid (Blk (w.alloc (.cells #[.int .i64 p, .int .i64 q, .int .i64 c] 79)) w.heap.size 79 #[.int .i64 p, .int .i64 q, .int .i64 c]) := Lib.hid (Blk.new _ _ _)
 have HS := Lib.hid (h.below HB.out)
 have HL := Lib.hid hl
 clear h hl
 go_enter Try.func38, Try.ntmps38
 go_upto_region 1 with (fail)
 obtain ⟨g, hg⟩ : ∃ g, w.heap.size = g := ⟨_, rfl⟩
 rw [hg] at HG ⊢
 generalize w.alloc (.cells #[.int .i64 p, .int .i64 q, .int .i64 c] 79) = w1 at *
 have HW := Lib.hid (wlong_any (HS.out.below (Below.drewN_of w1 1)) (by have := HL.out; omega) p)
 refine wp_region_E (S := fun w' => w'.cell? ⟨g, 0, none⟩ = some (.int .i64 p) ∧ w'.cell? ⟨g, 1, none⟩ = some (.int .i64 q) ∧ w'.cell? ⟨g, 2, none⟩ = some (.int .i64 c)) (by kernel_rfl) ⟨HG.out.cell 0, HG.out.cell 1, HG.out.cell 2⟩ (fun hHeld => ?_)
 refine wpE_tk 0 (oi := ?o1) (v := ?v1) ?h1 (by kernel_rfl) ?q1 ?y1 (by assumption) ?_
 case h1 => (simp only [List.getElem?_toArray]; rfl)
 case q1 => exact fun _ _ _ h => h
 case y1 => exact Or.inl ⟨by rfl, by (intro w hSw; (try dsimp only at hSw); go_simp; try with_reducible rfl)⟩
 try simp only [Act.put, sA, sB, sC]
 refine wpE_tk 1 (oi := ?o2) (v := ?v2) ?h2 (by kernel_rfl) ?q2 ?y2 (by assumption) ?_
 case h2 => (simp only [List.getElem?_toArray]; rfl)
 case q2 => exact fun _ _ _ h => h
 case y2 => exact Or.inl ⟨by rfl, by (intro w hSw; (try dsimp only at hSw); go_simp; try with_reducible rfl)⟩
 try simp only [Act.put, sA, sB, sC]
 refine wpE_tk 2 (oi := ?o3) (v := ?v3) ?h3 (by kernel_rfl) ?q3 ?y3 (by assumption) ?_
 case h3 => (simp only [List.getElem?_toArray]; rfl)
 case q3 => exact fun _ _ _ h => h
 case y3 => exact Or.inl ⟨by rfl, by (intro w hSw; (try dsimp only at hSw); go_simp; try with_reducible rfl)⟩
 try simp only [Act.put, sA, sB, sC]
 refine wpE_tk 4 (oi := ?o4) (v := ?v4) ?h4 (by kernel_rfl) ?q4 ?y4 (by assumption) ?_
 case h4 => (simp only [List.getElem?_toArray]; rfl)
 case q4 => exact fun _ _ _ h => h
 case y4 => exact Or.inl ⟨by rfl, by (intro w hSw; (try dsimp only at hSw); go_simp; try with_reducible rfl)⟩
 try simp only [Act.put, sA, sB, sC]
 refine wpE_tk 5 (oi := ?o5) (v := ?v5) ?h5 (by kernel_rfl) ?q5 ?y5 (by assumption) ?_
 case h5 => (simp only [List.getElem?_toArray]; rfl)
 case q5 => exact fun _ _ _ h => h
 case y5 => exact Or.inl ⟨by rfl, by (intro w hSw; (try dsimp only at hSw); go_simp; try with_reducible rfl)⟩
 try simp only [Act.put, sA, sB, sC]
 refine wpE_tk 7 (oi := ?o6) (v := ?v6) ?h6 (by kernel_rfl) ?q6 ?y6 (by assumption) ?_
 case h6 => (simp only [List.getElem?_toArray]; rfl)
 case q6 => exact fun _ _ _ h => h
 case y6 => exact Or.inl ⟨by rfl, by (intro w hSw; (try dsimp only at hSw); go_simp; try with_reducible rfl)⟩
 try simp only [Act.put, sA, sB, sC]
 refine wpE_tk 8 (oi := ?o7) (v := ?v7) ?h7 (by kernel_rfl) ?q7 ?y7 (by assumption) ?_
 case h7 => (simp only [List.getElem?_toArray]; rfl)
 case q7 => exact fun _ _ _ h => h
 case y7 => exact Or.inl ⟨by rfl, by (intro w hSw; (try dsimp only at hSw); go_simp; try with_reducible rfl)⟩
 try simp only [Act.put, sA, sB, sC]
 refine wpE_one (i := 3) (o := ?o21) ?ho21 (by kernel_rfl) (fun K hK => ?_)
 case ho21 => (simp only [List.getElem?_toArray]; rfl)
 go_simp
 refine HW.out.mono ?_
 rintro e w2 ⟨v1, rfl, hr, hb⟩
 have hb2 := (Below.drewN_of w1 1).trans hb
 have HG2 := Lib.hid (HG.out.below hb2)
 have HB2 := Lib.hid (HB.out.trans (hb2.mono HB.out.size))
 have HW2 := Lib.hid (wlong_any hr.sl (by rw [List.length_append, leN_len]; have := HL.out; omega) q)
 refine hK.out _ _ ⟨HG2.out.cell 0, HG2.out.cell 1, HG2.out.cell 2⟩ (fun hHeld => ?_)
 clear hK K hr hb hb2 HW HG HB HS
 refine wpE_one (i := 6) (o := ?o22) ?ho22 (by kernel_rfl) (fun K hK => ?_)
 case ho22 => (simp only [List.getElem?_toArray]; rfl)
 go_simp
 refine HW2.out.mono ?_
 rintro e w3 ⟨v2, rfl, hr, hb⟩
 have HG3 := Lib.hid (HG2.out.below hb)
 have HB3 := Lib.hid (HB2.out.trans (hb.mono HB2.out.size))
 have HW3 := Lib.hid (wlong_any hr.sl (by rw [List.length_append, List.length_append, leN_len, leN_len]; have := HL.out; omega) c)
 refine hK.out _ _ ⟨HG3.out.cell 0, HG3.out.cell 1, HG3.out.cell 2⟩ (fun hHeld => ?_)
 clear hK K hr hb HW2 HG2 HB2
 refine wpE_one (i := 9) (o := ?o23) ?ho23 (by kernel_rfl) (fun K hK => ?_)
 case ho23 => (simp only [List.getElem?_toArray]; rfl)
 go_simp
 refine HW3.out.mono ?_
 rintro e w4 ⟨v3, rfl, hr, hb⟩
 have HG4 := Lib.hid (HG3.out.below hb)
 have HB4 := Lib.hid (HB3.out.trans (hb.mono HB3.out.size))
 have HR4 := Lib.hid (hr.base (show w.heap.size ≤ w3.heap.size from HB3.out.size))
 refine hK.out _ _ ⟨HG4.out.cell 0, HG4.out.cell 1, HG4.out.cell 2⟩ (fun hHeld => ?_)
 clear hK K hr hb HW3 HG3 HB3
 refine wpE_last (i := 10) (o := ?o30) ?ho30 (by kernel_rfl) (by kernel_rfl) (by kernel_rfl) (fun K hK => ?_)
 case ho30 => (simp only [List.getElem?_toArray]; rfl)
 go_simp
 refine hK.out _ _ ?_
 clear hK K hHeld
 go_wp2_with fail
 go_ret
 refine ⟨v3, rfl, ?_, HB4.out⟩
 have := HR4.out
 rw [List.append_assoc, List.append_assoc] at this
 exact this
set_option maxRecDepth 20000 in
set_option maxHeartbeats 8000000 in
theorem renc_any (m : Mg) (w : World) (hi : 0 ≤ m.inst ∧ m.inst ≤ 255) (hs : m.side = 1 ∨ m.side = 2) :
  Calls Try.prog 7 #[m.agg] w fun e w' => ∃ v, e = .returned (.tuple #[v, .int .i64 0]) ∧ BYL.Row w' w.heap.size v (encM m) ∧ Below w.heap.size w w' := by
 obtain ⟨q, i, d, p, t, c, im⟩ := m
 unfold Mg.agg
 dsimp only at hi hs ⊢
 have HB : Hid (Below w.heap.size w (w.alloc (.cells #[.int .i64 q, .int .i64 i, .int .i64 d, .int .i64 p, .int .i64 t, .int .i64 c, .bool im] 34))) := Lib.hid (Below.allocN _ _)
 have HG : Hid (Blk (w.alloc (.cells #[.int .i64 q, .int .i64 i, .int .i64 d, .int .i64 p, .int .i64 t, .int .i64 c, .bool im] 34)) w.heap.size 34 #[.int .i64 q, .int .i64 i, .int .i64 d, .int .i64 p, .int .i64 t, .int .i64 c, .bool im]) := Lib.hid (Blk.new _ _ _)
 have HSD := Lib.hid hs
 have y1 : ¬ (i < 0) := by omega
 have y2 : ¬ (255 < i) := by omega
 clear hs hi
 go_enter Try.func7, Try.ntmps7
 go_upto_region 1 with (fail)
 obtain ⟨g, hg⟩ : ∃ g, w.heap.size = g := ⟨_, rfl⟩
 rw [hg] at HG ⊢
 generalize w.alloc (.cells #[.int .i64 q, .int .i64 i, .int .i64 d, .int .i64 p, .int .i64 t, .int .i64 c, .bool im] 34) = w1 at *
 have m1 : w1.cell? ⟨g, 1, none⟩ = some (.int .i64 i) := HG.out.cell 1
 have m2 : w1.cell? ⟨g, 2, none⟩ = some (.int .i64 d) := HG.out.cell 2
 go_cut [22] (fun u wx => u = .bool false ∧ w1 = wx)
 case first =>
  rcases HSD.out with rfl | rfl
  all_goals
   go_wp2_with fail
   go_meet
   exact ⟨by rfl, rfl⟩
 case rest =>
 obtain ⟨rfl, rfl⟩ := hcut
 clear m1 m2 y1 y2
 go_upto_region 3 with (fail)
 have HW := Lib.hid (wlong_any (v := .slice none 0 0) (L := []) (w := w1.drewN 1) Lay.Sl.nil (by decide) q)
 refine wp_region_E (S := fun w' => w'.cell? ⟨g, 0, none⟩ = some (.int .i64 q) ∧ w'.cell? ⟨g, 1, none⟩ = some (.int .i64 i) ∧ w'.cell? ⟨g, 2, none⟩ = some (.int .i64 d)) (by kernel_rfl) ⟨HG.out.cell 0, HG.out.cell 1, HG.out.cell 2⟩ (fun hHeld => ?_)
 refine wpE_tk 0 (oi := ?o8) (v := ?v8) ?h8 (by kernel_rfl) ?q8 ?y8 (by assumption) ?_
 case h8 => (simp only [List.getElem?_toArray]; rfl)
 case q8 => exact fun _ _ _ h => h
 case y8 => exact Or.inl ⟨by rfl, by (intro w hSw; (try dsimp only at hSw); go_simp; try with_reducible rfl)⟩
 try simp only [Act.put, sA, sB, sC]
 refine wpE_tk 1 (oi := ?o9) (v := ?v9) ?h9 (by kernel_rfl) ?q9 ?y9 (by assumption) ?_
 case h9 => (simp only [List.getElem?_toArray]; rfl)
 case q9 => exact fun _ _ _ h => h
 case y9 => exact Or.inl ⟨by rfl, by (intro w hSw; (try dsimp only at hSw); go_simp; try with_reducible rfl)⟩
 try simp only [Act.put, sA, sB, sC]
 refine wpE_tk 3 (oi := ?o10) (v := ?v10) ?h10 (by kernel_rfl) ?q10 ?y10 (by assumption) ?_
 case h10 => (simp only [List.getElem?_toArray]; rfl)
 case q10 => exact fun _ _ _ h => h
 case y10 => exact Or.inl ⟨by rfl, by (intro w hSw; (try dsimp only at hSw); go_simp; try with_reducible rfl)⟩
 try simp only [Act.put, sA, sB, sC]
 refine wpE_tk 4 (oi := ?o11) (v := ?v11) ?h11 (by kernel_rfl) ?q11 ?y11 (by assumption) ?_
 case h11 => (simp only [List.getElem?_toArray]; rfl)
 case q11 => exact fun _ _ _ h => h
 case y11 => exact Or.inl ⟨by rfl, by (intro w hSw; (try dsimp only at hSw); go_simp; try with_reducible rfl)⟩
 try simp only [Act.put, sA, sB, sC]
 refine wpE_tk 6 (oi := ?o12) (v := ?v12) ?h12 (by kernel_rfl) ?q12 ?y12 (by assumption) ?_
 case h12 => (simp only [List.getElem?_toArray]; rfl)
 case q12 => exact fun _ _ _ h => h
 case y12 => exact Or.inl ⟨by rfl, by (intro w hSw; (try dsimp only at hSw); go_simp; try with_reducible rfl)⟩
 try simp only [Act.put, sA, sB, sC]
 refine wpE_tk 7 (oi := ?o13) (v := ?v13) ?h13 (by kernel_rfl) ?q13 ?y13 (by assumption) ?_
 case h13 => (simp only [List.getElem?_toArray]; rfl)
 case q13 => exact fun _ _ _ h => h
 case y13 => exact Or.inl ⟨by rfl, by (intro w hSw; (try dsimp only at hSw); go_simp; try with_reducible rfl)⟩
 try simp only [Act.put, sA, sB, sC]
 refine wpE_one (i := 2) (o := ?o24) ?ho24 (by kernel_rfl) (fun K hK => ?_)
 case ho24 => (simp only [List.getElem?_toArray]; rfl)
 go_simp
 refine HW.out.mono ?_
 rintro e w2 ⟨v1, rfl, hr, hb⟩
 have hb2 := (Below.drewN_of w1 1).trans hb
 have HG2 := Lib.hid (HG.out.below hb2)
 have HB2 := Lib.hid (HB.out.trans (hb2.mono HB.out.size))
 have HW2 := Lib.hid (wbyte_any hr.sl (by rw [List.nil_append, leN_len]; omega) i)
 refine hK.out _ _ ⟨HG2.out.cell 0, HG2.out.cell 1, HG2.out.cell 2⟩ (fun hHeld => ?_)
 clear hK K hr hb hb2 HW HG HB
 refine wpE_one (i := 5) (o := ?o25) ?ho25 (by kernel_rfl) (fun K hK => ?_)
 case ho25 => (simp only [List.getElem?_toArray]; rfl)
 go_simp
 refine HW2.out.mono ?_
 rintro e w3 ⟨v2, rfl, hr, hb⟩
 have HG3 := Lib.hid (HG2.out.below hb)
 have HB3 := Lib.hid (HB2.out.trans (hb.mono HB2.out.size))
 have HW3 := Lib.hid (wbyte_any hr.sl (by simp only [List.length_append, List.length_cons, List.length_nil, leN_len]; omega) d)
 refine hK.out _ _ ⟨HG3.out.cell 0, HG3.out.cell 1, HG3.out.cell 2⟩ (fun hHeld => ?_)
 clear hK K hr hb HW2 HG2 HB2
 refine wpE_one (i := 8) (o := ?o26) ?ho26 (by kernel_rfl) (fun K hK => ?_)
 case ho26 => (simp only [List.getElem?_toArray]; rfl)
 go_simp
 refine HW3.out.mono ?_
 rintro e w4 ⟨v3, rfl, hr, hb⟩
 have HG4 := Lib.hid (HG3.out.below hb)
 have HB4 := Lib.hid (HB3.out.trans (hb.mono HB3.out.size))
 have HR4 := Lib.hid hr
 refine hK.out _ _ ⟨HG4.out.cell 0, HG4.out.cell 1, HG4.out.cell 2⟩ (fun hHeld => ?_)
 clear hK K hr hb HW3 HG3 HB3
 refine wpE_last (i := 9) (o := ?o31) ?ho31 (by kernel_rfl) (by kernel_rfl) (by kernel_rfl) (fun K hK => ?_)
 case ho31 => (simp only [List.getElem?_toArray]; rfl)
 go_simp
 refine hK.out _ _ ?_
 clear hK K hHeld
 go_upto_region 4 with (fail)
 have HW := Lib.hid (wlong_any (w := w4.drewN 1) (HR4.out.sl.below (Below.drewN_of w4 1)) (by simp only [List.length_append, List.length_cons, List.length_nil, leN_len]; omega) p)
 refine wp_region_E (S := fun w' => w'.cell? ⟨g, 3, none⟩ = some (.int .i64 p) ∧ w'.cell? ⟨g, 4, none⟩ = some (.int .i64 t) ∧ w'.cell? ⟨g, 5, none⟩ = some (.int .i64 c)) (by kernel_rfl) ⟨HG4.out.cell 3, HG4.out.cell 4, HG4.out.cell 5⟩ (fun hHeld => ?_)
 refine wpE_tk 0 (oi := ?o14) (v := ?v14) ?h14 (by kernel_rfl) ?q14 ?y14 (by assumption) ?_
 case h14 => (simp only [List.getElem?_toArray]; rfl)
 case q14 => exact fun _ _ _ h => h
 case y14 => exact Or.inl ⟨by rfl, by (intro w hSw; (try dsimp only at hSw); go_simp; try with_reducible rfl)⟩
 try simp only [Act.put, sA, sB, sC]
 refine wpE_tk 1 (oi := ?o15) (v := ?v15) ?h15 (by kernel_rfl) ?q15 ?y15 (by assumption) ?_
 case h15 => (simp only [List.getElem?_toArray]; rfl)
 case q15 => exact fun _ _ _ h => h
 case y15 => exact Or.inl ⟨by rfl, by (intro w hSw; (try dsimp only at hSw); go_simp; try with_reducible rfl)⟩
 try simp only [Act.put, sA, sB, sC]
 refine wpE_tk 2 (oi := ?o16) (v := ?v16) ?h16 (by kernel_rfl) ?q16 ?y16 (by assumption) ?_
 case h16 => (simp only [List.getElem?_toArray]; rfl)
 case q16 => exact fun _ _ _ h => h
 case y16 => exact Or.inl ⟨by rfl, by (intro w hSw; (try dsimp only at hSw); go_simp; try with_reducible rfl)⟩
 try simp only [Act.put, sA, sB, sC]
 refine wpE_tk 4 (oi := ?o17) (v := ?v17) ?h17 (by kernel_rfl) ?q17 ?y17 (by assumption) ?_
 case h17 => (simp only [List.getElem?_toArray]; rfl)
 case q17 => exact fun _ _ _ h => h
 case y17 => exact Or.inl ⟨by rfl, by (intro w hSw; (try dsimp only at hSw); go_simp; try with_reducible rfl)⟩
 try simp only [Act.put, sA, sB, sC]
 refine wpE_tk 5 (oi := ?o18) (v := ?v18) ?h18 (by kernel_rfl) ?q18 ?y18 (by assumption) ?_
 case h18 => (simp only [List.getElem?_toArray]; rfl)
 case q18 => exact fun _ _ _ h => h
 case y18 => exact Or.inl ⟨by rfl, by (intro w hSw; (try dsimp only at hSw); go_simp; try with_reducible rfl)⟩
 try simp only [Act.put, sA, sB, sC]
 refine wpE_tk 7 (oi := ?o19) (v := ?v19) ?h19 (by kernel_rfl) ?q19 ?y19 (by assumption) ?_
 case h19 => (simp only [List.getElem?_toArray]; rfl)
 case q19 => exact fun _ _ _ h => h
 case y19 => exact Or.inl ⟨by rfl, by (intro w hSw; (try dsimp only at hSw); go_simp; try with_reducible rfl)⟩
 try simp only [Act.put, sA, sB, sC]
 refine wpE_tk 8 (oi := ?o20) (v := ?v20) ?h20 (by kernel_rfl) ?q20 ?y20 (by assumption) ?_
 case h20 => (simp only [List.getElem?_toArray]; rfl)
 case q20 => exact fun _ _ _ h => h
 case y20 => exact Or.inl ⟨by rfl, by (intro w hSw; (try dsimp only at hSw); go_simp; try with_reducible rfl)⟩
 try simp only [Act.put, sA, sB, sC]
 refine wpE_one (i := 3) (o := ?o27) ?ho27 (by kernel_rfl) (fun K hK => ?_)
 case ho27 => (simp only [List.getElem?_toArray]; rfl)
 go_simp
 refine HW.out.mono ?_
 rintro e w5 ⟨v4, rfl, hr, hb⟩
 have hb2 := (Below.drewN_of w4 1).trans hb
 have HG5 := Lib.hid (HG4.out.below hb2)
 have HB5 := Lib.hid (HB4.out.trans (hb2.mono HB4.out.size))
 have HW5 := Lib.hid (wlong_any hr.sl (by simp only [List.length_append, List.length_cons, List.length_nil, leN_len]; omega) t)
 refine hK.out _ _ ⟨HG5.out.cell 3, HG5.out.cell 4, HG5.out.cell 5⟩ (fun hHeld => ?_)
 clear hK K hr hb hb2 HW HG4 HB4 HR4
 refine wpE_one (i := 6) (o := ?o28) ?ho28 (by kernel_rfl) (fun K hK => ?_)
 case ho28 => (simp only [List.getElem?_toArray]; rfl)
 go_simp
 refine HW5.out.mono ?_
 rintro e w6 ⟨v5, rfl, hr, hb⟩
 have HG6 := Lib.hid (HG5.out.below hb)
 have HB6 := Lib.hid (HB5.out.trans (hb.mono HB5.out.size))
 have HW6 := Lib.hid (wlong_any hr.sl (by simp only [List.length_append, List.length_cons, List.length_nil, leN_len]; omega) c)
 refine hK.out _ _ ⟨HG6.out.cell 3, HG6.out.cell 4, HG6.out.cell 5⟩ (fun hHeld => ?_)
 clear hK K hr hb HW5 HG5 HB5
 refine wpE_one (i := 9) (o := ?o29) ?ho29 (by kernel_rfl) (fun K hK => ?_)
 case ho29 => (simp only [List.getElem?_toArray]; rfl)
 go_simp
 refine HW6.out.mono ?_
 rintro e w7 ⟨v6, rfl, hr, hb⟩
 have HG7 := Lib.hid (HG6.out.below hb)
 have HB7 := Lib.hid (HB6.out.trans (hb.mono HB6.out.size))
 have HLN : Hid (([] ++ leN (q % 18446744073709551616) 8 ++ [i % 256] ++ [d % 256] ++ leN (p % 18446744073709551616) 8 ++ leN (t % 18446744073709551616) 8 ++ leN (c % 18446744073709551616) 8).length = 34) := Lib.hid (by simp only [List.length_append, List.length_cons, List.length_nil, leN_len])
 have HR7 := Lib.hid hr
 refine hK.out _ _ ⟨HG7.out.cell 3, HG7.out.cell 4, HG7.out.cell 5⟩ (fun hHeld => ?_)
 clear hK K hr hb HW6 HG6 HB6
 refine wpE_last (i := 10) (o := ?o32) ?ho32 (by kernel_rfl) (by kernel_rfl) (by kernel_rfl) (fun K hK => ?_)
 case ho32 => (simp only [List.getElem?_toArray]; rfl)
 go_simp
 refine hK.out _ _ ?_
 clear hK K hHeld
 have m6 : w7.cell? ⟨g, 6, none⟩ = some (.bool im) := HG7.out.cell 6
 cases im with
 | true =>
  have HW := Lib.hid (wbyte_any HR7.out.sl (by rw [HLN.out]; decide) 1)
  go_wp2_with fail
  refine HW.out.mono ?_
  rintro e w8 ⟨v7, rfl, hr, hb⟩
  have HB8 := Lib.hid (HB7.out.trans (hb.mono HB7.out.size))
  have HR8 := Lib.hid (hr.base HB7.out.size)
  clear hr hb
  go_wp2_with fail
  go_ret2
  refine ⟨v7, rfl, ?_, HB8.out⟩
  have := HR8.out
  simp only [List.append_assoc, List.nil_append, List.cons_append] at this
  exact this
 | false =>
  have HW := Lib.hid (wbyte_any HR7.out.sl (by rw [HLN.out]; decide) 0)
  go_wp2_with fail
  refine HW.out.mono ?_
  rintro e w8 ⟨v7, rfl, hr, hb⟩
  have HB8 := Lib.hid (HB7.out.trans (hb.mono HB7.out.size))
  have HR8 := Lib.hid (hr.base HB7.out.size)
  clear hr hb
  go_wp2_with fail
  go_ret2
  refine ⟨v7, rfl, ?_, HB8.out⟩
  have := HR8.out
  simp only [List.append_assoc, List.nil_append, List.cons_append] at this
  exact this
end Go.Proofs.Ytmaijkoopjocdaa

/- The walks of cornhillkeep.Three and Product. -/
namespace Go.Proofs.Ytmaijkoopjocdaa
open Go.RowKit

instance (n : Int) : Decidable (i64ok n) := by unfold i64ok; infer_instance
def threeP (rule : Int) (a b : Nat) : Prod := ⟨⟨#[67, 76]⟩, some ⟨a, 0, none⟩, [320, 321, 323], 3, 5, 0, 1000, 200, rule, 4, 2, 40, some ⟨b, 0, none⟩, [500, 505, 490], 3⟩
theorem blk_ints {w : World} {g : Nat} {t : TypeId} {L : List Int} (h : Blk w g t (L.map (Value.int .i64)).toArray) (hok : ∀ x ∈ L, i64ok x) : Ints w (some ⟨g, 0, none⟩) L := by
 intro j x hj
 refine ⟨hok x (List.mem_of_getElem? hj), g, 0, rfl, h.lt, ?_⟩
 rw [Nat.zero_add, h.cell, List.getElem?_toArray, List.getElem?_map, hj]; rfl
set_option maxHeartbeats 1000000 in
theorem three_any (rule : Int) (w : World) :
  Calls Try.prog 4 #[.int .i64 rule] w fun e w' => ∃ a b, e = .returned (threeP rule a b).agg ∧ PV w' (threeP rule a b) ∧ Below w.heap.size w w' := by
 go_enter Try.func4, Try.ntmps4
 go_wp2_with fail
 have s1 : ∀ (w : World) (o : Obj), (w.alloc o).heap.size = w.heap.size + 1 := fun w o => by simp
 generalize hA : w.alloc (.cells #[.string ⟨#[67, 76]⟩, .slice (some ⟨w.heap.size + 1, 0, none⟩) 3 3, .int .i64 5, .int .i64 0, .int .i64 1000, .int .i64 200, .int .i64 rule, .int .i64 4, .int .i64 2, .int .i64 40, .slice (some ⟨w.heap.size + 1 + 1, 0, none⟩) 3 3] 25) = wa
 have z1 : wa.heap.size = w.heap.size + 1 := by rw [← hA]; exact s1 _ _
 have hm := Blk.new wa 3 #[.int .i64 320, .int .i64 321, .int .i64 323]
 have hb1 : Below w.heap.size w wa := by rw [← hA]; exact Below.allocN _ _
 have p0 : wa.heap[w.heap.size]? = some (.cells #[.string ⟨#[67, 76]⟩, .slice (some ⟨w.heap.size + 1, 0, none⟩) 3 3, .int .i64 5, .int .i64 0, .int .i64 1000, .int .i64 200, .int .i64 rule, .int .i64 4, .int .i64 2, .int .i64 40, .slice (some ⟨w.heap.size + 1 + 1, 0, none⟩) 3 3] 25) := by rw [← hA]; exact heap_alloc_new w _
 have hm2 : Blk ((wa.alloc (.cells #[.int .i64 320, .int .i64 321, .int .i64 323] 3)).alloc (.cells #[.int .i64 500, .int .i64 505, .int .i64 490] 2)) (w.heap.size + 1) 3 (([320, 321, 323] : List Int).map (Value.int .i64)).toArray := by rw [← z1]; exact hm.alloc _
 have hs2 : Blk ((wa.alloc (.cells #[.int .i64 320, .int .i64 321, .int .i64 323] 3)).alloc (.cells #[.int .i64 500, .int .i64 505, .int .i64 490] 2)) (w.heap.size + 1 + 1) 2 (([500, 505, 490] : List Int).map (Value.int .i64)).toArray := by
  have := Blk.new (wa.alloc (.cells #[.int .i64 320, .int .i64 321, .int .i64 323] 3)) 2 #[.int .i64 500, .int .i64 505, .int .i64 490]
  rw [s1, z1] at this
  exact this
 have e1 : ∀ x ∈ ([320, 321, 323] : List Int), i64ok x := by decide
 have e2 : ∀ x ∈ ([500, 505, 490] : List Int), i64ok x := by decide
 have hp : ∀ i, i < 11 → ((wa.alloc (.cells #[.int .i64 320, .int .i64 321, .int .i64 323] 3)).alloc (.cells #[.int .i64 500, .int .i64 505, .int .i64 490] 2)).cell? ⟨w.heap.size, i, none⟩ = (threeP rule (w.heap.size + 1) (w.heap.size + 1 + 1)).cells[i]? := by
  intro i hi
  have hb : Blk wa w.heap.size 25 (threeP rule (w.heap.size + 1) (w.heap.size + 1 + 1)).cells := p0
  exact ((hb.alloc _).alloc _).cell i
 have c0 := hp 0 (by omega)
 have c1 := hp 1 (by omega)
 have c2 := hp 2 (by omega)
 have c3 := hp 3 (by omega)
 have c4 := hp 4 (by omega)
 have c5 := hp 5 (by omega)
 have c6 := hp 6 (by omega)
 have c7 := hp 7 (by omega)
 have c8 := hp 8 (by omega)
 have c9 := hp 9 (by omega)
 have c10 := hp 10 (by omega)
 have hbb : Below w.heap.size w ((wa.alloc (.cells #[.int .i64 320, .int .i64 321, .int .i64 323] 3)).alloc (.cells #[.int .i64 500, .int .i64 505, .int .i64 490] 2)) := (hb1.alloc hb1.size _).alloc (by rw [s1]; omega) _
 have hpv : PV ((wa.alloc (.cells #[.int .i64 320, .int .i64 321, .int .i64 323] 3)).alloc (.cells #[.int .i64 500, .int .i64 505, .int .i64 490] 2)) (threeP rule (w.heap.size + 1) (w.heap.size + 1 + 1)) :=
  ⟨by show 2 ≤ 1000; omega, blk_ints hm2 e1, blk_ints hs2 e2, by show 3 ≤ 1000000; omega, by show 3 ≤ 1000000; omega, by show i64ok 5; decide, by show i64ok 0; decide, by show i64ok 1000; decide, by show i64ok 200; decide⟩
 clear hm hm2 hs2 p0 hA hp
 generalize ((wa.alloc (.cells #[.int .i64 320, .int .i64 321, .int .i64 323] 3)).alloc (.cells #[.int .i64 500, .int .i64 505, .int .i64 490] 2)) = wc at *
 simp only [threeP, Prod.cells] at c0 c1 c2 c3 c4 c5 c6 c7 c8 c9 c10
 exact bodyPost_ret (v := (threeP rule (w.heap.size + 1) (w.heap.size + 1 + 1)).agg) (by unfold threeP Prod.agg Prod.cells; simp [results, Try.results4, go_sem, *]) rfl ⟨_, _, rfl, hpv, hbb⟩

/-! ### a right product -/
structure Keep where
 n : Nat
 tick : Int
 rule : Int
 top : Int
 least : Int
 part : Int
 wd : Int
structure Keep.ok (k : Keep) : Prop where
 n : 2 ≤ k.n ∧ k.n ≤ 5
 tick : 1 ≤ k.tick ∧ k.tick ≤ 10
 rule : 1 ≤ k.rule ∧ k.rule ≤ 3
 top : 0 ≤ k.top ∧ k.top ≤ 9
 least : 1 ≤ k.least ∧ k.least ≤ 5
 part : 0 ≤ k.part ∧ k.part ≤ 100
 wd : 5 ≤ k.wd ∧ k.wd ≤ 65
def monthsK (n : Nat) : List Int := (List.range n).map (fun (i : Nat) => 10 * (i : Int) + 3)
def settleK (tick : Int) (n : Nat) : List Int := (List.range n).map (fun (i : Nat) => tick * (10 + (i : Int)))
def Keep.prod (k : Keep) (ma : Option Addr) (mc : Nat) (sa : Option Addr) (sc : Nat) : Prod := ⟨⟨#[206, 169]⟩, ma, monthsK k.n, mc, k.tick, -20 * k.tick, 100 * k.tick, k.tick * k.wd, k.rule, k.top, k.least, k.part, sa, settleK k.tick k.n, sc⟩
theorem monthsK_succ (n : Nat) : monthsK (n + 1) = monthsK n ++ [10 * (n : Int) + 3] := by unfold monthsK; rw [List.range_succ, List.map_append]; rfl
theorem settleK_succ (t : Int) (n : Nat) : settleK t (n + 1) = settleK t n ++ [t * (10 + (n : Int))] := by unfold settleK; rw [List.range_succ, List.map_append]; rfl
theorem monthsK_len (n : Nat) : (monthsK n).length = n := by simp [monthsK]
theorem settleK_len (t : Int) (n : Nat) : (settleK t n).length = n := by simp [settleK]
theorem monthsK_good : ∀ n, n ≤ 5 → 2 ≤ n → monthsB (monthsK n) = true := by decide
theorem omega_good : prodB ⟨#[206, 169]⟩ = true := by decide +kernel
theorem cl_good : prodB ⟨#[67, 76]⟩ = true := by decide +kernel
theorem settleK_mem {t : Int} {n : Nat} {x : Int} (h : x ∈ settleK t n) : ∃ i : Nat, i < n ∧ x = t * (10 + (i : Int)) := by
 unfold settleK at h
 rw [List.mem_map] at h
 obtain ⟨i, hi, rfl⟩ := h
 exact ⟨i, List.mem_range.1 hi, rfl⟩
theorem mul_bd {t i : Int} (ht : 1 ≤ t) {a b : Int} (h1 : a ≤ i) (h2 : i ≤ b) : t * a ≤ t * i ∧ t * i ≤ t * b := ⟨Int.mul_le_mul_of_nonneg_left h1 (by omega), Int.mul_le_mul_of_nonneg_left h2 (by omega)⟩
theorem off_mul (t i : Int) : offB t (t * i) = false := by unfold offB; rw [Int.mul_tmod_right]; rfl
theorem keep_check (k : Keep) (h : k.ok) (ma : Option Addr) (mc : Nat) (sa : Option Addr) (sc : Nat) : checkP (k.prod ma mc sa sc) = 0 := by
 obtain ⟨hn, ht, hr, htp, hl, hpt, hw⟩ := h
 have h1 : prodB (k.prod ma mc sa sc).code = true := omega_good
 have h2 : monthsB (k.prod ma mc sa sc).months = true := monthsK_good k.n hn.2 hn.1
 have hwb := mul_bd ht.1 hw.1 hw.2
 have hss : ∀ x ∈ settleK k.tick k.n, offB k.tick x = false ∧ k.tick * 10 ≤ x ∧ x ≤ k.tick * 15 := by
  intro x hx
  obtain ⟨i, hi, rfl⟩ := settleK_mem hx
  have := mul_bd ht.1 (i := 10 + (i : Int)) (a := 10) (b := 15) (by omega) (by omega)
  exact ⟨off_mul _ _, this.1, this.2⟩
 have h3 : ticksB (k.prod ma mc sa sc) = true := by
  unfold ticksB
  show (decide (1 ≤ k.tick) && decide (k.tick ≤ 1000) && !offB k.tick (-20 * k.tick) && !offB k.tick (100 * k.tick) && !offB k.tick (k.tick * k.wd) && !(settleK k.tick k.n).any (offB k.tick)) = true
  rw [Int.mul_comm (-20), Int.mul_comm 100, off_mul, off_mul, off_mul, decide_eq_true ht.1, decide_eq_true (show k.tick ≤ 1000 by omega), any_none fun j x hx => (hss x (List.mem_of_getElem? hx)).1]
  rfl
 have h4 : ¬ bandBad (k.prod ma mc sa sc) := by
  unfold bandBad
  show ¬ (-20 * k.tick < -1000000 ∨ 100 * k.tick ≤ -20 * k.tick ∨ 1000000 < 100 * k.tick ∨ k.tick * k.wd < 0 ∨ 100 * k.tick - -20 * k.tick < k.tick * k.wd)
  omega
 have h5 : settleBad (k.prod ma mc sa sc) = false := by
  unfold settleBad
  show ((settleK k.tick k.n).length != (monthsK k.n).length || (settleK k.tick k.n).any (fun x => decide (x < -20 * k.tick)) || (settleK k.tick k.n).any (fun x => decide (100 * k.tick < x))) = false
  rw [settleK_len, monthsK_len, any_none (f := fun x => decide (x < -20 * k.tick)) fun j x hx => decide_eq_false (by have := hss x (List.mem_of_getElem? hx); omega), any_none (f := fun x => decide (100 * k.tick < x)) fun j x hx => decide_eq_false (by have := hss x (List.mem_of_getElem? hx); omega)]
  simp
 have h6 : ¬ kindBad (k.prod ma mc sa sc) := by
  unfold kindBad
  show ¬ (k.rule < 1 ∨ 3 < k.rule)
  omega
 have h7 : ¬ qtyBad (k.prod ma mc sa sc) := by
  unfold qtyBad
  show ¬ (k.top < 0 ∨ 1000000 < k.top ∨ k.least < 1 ∨ 1000 < k.least ∨ k.part < 0 ∨ 100 < k.part)
  omega
 unfold checkP
 rw [h1, h2, h3, h5, if_neg (by simp), if_neg (by simp), if_neg (by simp), if_neg h4, if_neg (by simp), if_neg h6, if_neg h7]
theorem three_check (rule : Int) (h : 1 ≤ rule ∧ rule ≤ 3) (a b : Nat) : checkP (threeP rule a b) = 0 := by
 have h1 : prodB (threeP rule a b).code = true := cl_good
 have h2 : monthsB (threeP rule a b).months = true := by show monthsB [320, 321, 323] = true; decide
 have h3 : ticksB (threeP rule a b) = true := by
  show (decide ((1 : Int) ≤ 5) && decide ((5 : Int) ≤ 1000) && !offB 5 0 && !offB 5 1000 && !offB 5 200 && !([500, 505, 490] : List Int).any (offB 5)) = true
  decide
 have h4 : ¬ bandBad (threeP rule a b) := by
  show ¬ ((0 : Int) < -1000000 ∨ (1000 : Int) ≤ 0 ∨ (1000000 : Int) < 1000 ∨ (200 : Int) < 0 ∨ (1000 : Int) - 0 < 200)
  omega
 have h5 : settleBad (threeP rule a b) = false := by
  show (([500, 505, 490] : List Int).length != ([320, 321, 323] : List Int).length || ([500, 505, 490] : List Int).any (fun x => decide (x < 0)) || ([500, 505, 490] : List Int).any (fun x => decide (1000 < x))) = false
  decide
 have h6 : ¬ kindBad (threeP rule a b) := by
  show ¬ (rule < 1 ∨ 3 < rule)
  omega
 have h7 : ¬ qtyBad (threeP rule a b) := by
  show ¬ ((4 : Int) < 0 ∨ (1000000 : Int) < 4 ∨ (2 : Int) < 1 ∨ (1000 : Int) < 2 ∨ (40 : Int) < 0 ∨ (100 : Int) < 40)
  omega
 unfold checkP
 rw [h1, h2, h3, h5, if_neg (by simp), if_neg (by simp), if_neg (by simp), if_neg h4, if_neg (by simp), if_neg h6, if_neg h7]
end Go.Proofs.Ytmaijkoopjocdaa
