/- Merged: App4 App5 App6. -/
import Derived.Test.YtmaijkoopjocdaaGE
/- The walk of feed.Apply: nothing there. -/
namespace Go.Proofs.Ytmaijkoopjocdaa
open Go.RowKit Go.Lib

set_option maxRecDepth 20000 in
set_option maxHeartbeats 16000000 in
theorem apply_no {w : World} {B : Nat} {v : Value} {V : Vw} (h : VO PRL LVL w B v V) (hl : V.length ≤ 255) {K : Nat} (hK : LenV V K) (hK2 : K ≤ 800000) {q p t c : Int} {i s : Nat} (hi : i < V.length) (hs : s < 2) (hf0 : fineC V.length ⟨q, i, (s : Int) + 1, p, t, c, false⟩ = 0) {x0 : Sd × Sd} (hx0 : V[i]? = some x0) (hsrt : Srt ((s : Int) + 1) (sdOf x0 s).lv) (hcs0 : (sdOf x0 s).lv.findIdx? (fun y => y.price == p) = none) (ht0 : ¬ 0 < t) :
  Calls Try.prog 52 #[.agg #[v], .agg #[.int .i64 q, .int .i64 i, .int .i64 ((s : Int) + 1), .int .i64 p, .int .i64 t, .int .i64 c, .bool false]] w fun e w' => ∃ v', e = .returned (.tuple #[.agg #[v'], .int .i64 0]) ∧ VO PRL LVL w' w.heap.size v' (appV ⟨q, i, (s : Int) + 1, p, t, c, false⟩ V) ∧ Below w.heap.size w w' := by
 obtain ⟨a, cv, rfl⟩ := h.form
 obtain ⟨im, him⟩ : ∃ im, false = im := ⟨_, rfl⟩
 have hz1 : (w.alloc (.cells #[.slice a V.length cv] 50)).heap.size = w.heap.size + 1 := by simp
 have hz2 : ((w.alloc (.cells #[.slice a V.length cv] 50)).alloc (.cells #[.int .i64 q, .int .i64 (i : Int), .int .i64 ((s : Int) + 1), .int .i64 p, .int .i64 t, .int .i64 c, .bool im] 34)).heap.size = w.heap.size + 1 + 1 := by simp
 have hb1 := Below.allocN w (.cells #[.slice a V.length cv] 50)
 have hb2 := hb1.trans ((Below.allocN (w.alloc (.cells #[.slice a V.length cv] 50)) (.cells #[.int .i64 q, .int .i64 (i : Int), .int .i64 ((s : Int) + 1), .int .i64 p, .int .i64 t, .int .i64 c, .bool im] 34)).mono hb1.size)
 have hb3 := hb2.trans ((Below.allocN ((w.alloc (.cells #[.slice a V.length cv] 50)).alloc (.cells #[.int .i64 q, .int .i64 (i : Int), .int .i64 ((s : Int) + 1), .int .i64 p, .int .i64 t, .int .i64 c, .bool im] 34)) (.cells #[.slice none 0 0] 50)).mono hb2.size)
 have hgv : Blk (((w.alloc (.cells #[.slice a V.length cv] 50)).alloc (.cells #[.int .i64 q, .int .i64 (i : Int), .int .i64 ((s : Int) + 1), .int .i64 p, .int .i64 t, .int .i64 c, .bool im] 34)).alloc (.cells #[.slice none 0 0] 50)) w.heap.size 50 #[.slice a V.length cv] := ((Blk.new w _ _).alloc _).alloc _
 have hgm : Blk (((w.alloc (.cells #[.slice a V.length cv] 50)).alloc (.cells #[.int .i64 q, .int .i64 (i : Int), .int .i64 ((s : Int) + 1), .int .i64 p, .int .i64 t, .int .i64 c, .bool im] 34)).alloc (.cells #[.slice none 0 0] 50)) (w.heap.size + 1) 34 #[.int .i64 q, .int .i64 (i : Int), .int .i64 ((s : Int) + 1), .int .i64 p, .int .i64 t, .int .i64 c, .bool im] := by
  have := (Blk.new (w.alloc (.cells #[.slice a V.length cv] 50)) 34 #[.int .i64 q, .int .i64 (i : Int), .int .i64 ((s : Int) + 1), .int .i64 p, .int .i64 t, .int .i64 c, .bool im]).alloc (.cells #[.slice none 0 0] 50)
  rwa [hz1] at this
 have hgr : Blk (((w.alloc (.cells #[.slice a V.length cv] 50)).alloc (.cells #[.int .i64 q, .int .i64 (i : Int), .int .i64 ((s : Int) + 1), .int .i64 p, .int .i64 t, .int .i64 c, .bool im] 34)).alloc (.cells #[.slice none 0 0] 50)) (w.heap.size + 1 + 1) 50 #[.slice none 0 0] := by
  have := Blk.new ((w.alloc (.cells #[.slice a V.length cv] 50)).alloc (.cells #[.int .i64 q, .int .i64 (i : Int), .int .i64 ((s : Int) + 1), .int .i64 p, .int .i64 t, .int .i64 c, .bool im] 34)) 50 #[.slice none 0 0]
  rwa [hz2] at this
 have hfc := fine_any V.length ⟨q, i, (s : Int) + 1, p, t, c, im⟩ (((w.alloc (.cells #[.slice a V.length cv] 50)).alloc (.cells #[.int .i64 q, .int .i64 (i : Int), .int .i64 ((s : Int) + 1), .int .i64 p, .int .i64 t, .int .i64 c, .bool im] 34)).alloc (.cells #[.slice none 0 0] 50))
 rw [him] at hf0
 rw [hf0] at hfc
 unfold Mg.agg at hfc
 dsimp only at hfc
 have HVO := Lib.hid (h.below hb3)
 have HKK := Lib.hid hK
 obtain ⟨x, hx⟩ : ∃ x, V[i]? = some x := ⟨_, List.getElem?_eq_getElem hi⟩
 have HX := Lib.hid hx
 have HIM := Lib.hid him
 have HC := Lib.hid hfc
 have HB3 := Lib.hid hb3
 have HGV := Lib.hid hgv
 have HGM := Lib.hid hgm
 have HGR := Lib.hid hgr
 rw [him]
 have HX0 := Lib.hid hx0
 have HSRT := Lib.hid hsrt
 have HCS := Lib.hid hcs0
 have HT0 := Lib.hid ht0
 clear ht0
 clear hx0 hsrt hcs0 h hK hx him hz1 hz2 hb1 hb2 hb3 hgv hgm hgr hfc hf0
 go_enter Try.func52, Try.ntmps52
 go_upto_region 1 with (fail)
 obtain ⟨w1, hw1⟩ : ∃ w1, (((w.alloc (.cells #[.slice a V.length cv] 50)).alloc (.cells #[.int .i64 q, .int .i64 (i : Int), .int .i64 ((s : Int) + 1), .int .i64 p, .int .i64 t, .int .i64 c, .bool im] 34)).alloc (.cells #[.slice none 0 0] 50)) = w1 := ⟨_, rfl⟩
 obtain ⟨gv, hgv⟩ : ∃ gv, w.heap.size = gv := ⟨_, rfl⟩
 obtain ⟨gm, hgm⟩ : ∃ gm, w.heap.size + 1 = gm := ⟨_, rfl⟩
 obtain ⟨gr, hgr⟩ : ∃ gr, w.heap.size + 1 + 1 = gr := ⟨_, rfl⟩
 rw [hw1] at HVO HB3 HGV HGM HGR HC ⊢
 rw [hgr] at HGR ⊢
 rw [hgm] at HGM ⊢
 rw [hgv] at HGV ⊢
 have N1 : Hid (gv ≠ gr) := Lib.hid (by omega)
 have N2 : Hid (gm ≠ gr) := Lib.hid (by omega)
 have N4 : Hid (gv ≠ gm) := Lib.hid (by omega)
 have N3 : Hid (w.heap.size ≤ gv) := Lib.hid (by omega)
 have N5 : Hid (w.heap.size ≤ gr) := Lib.hid (by omega)
 clear hw1 hgv hgm hgr
 have b0 : w1.cell? ⟨gv, 0, none⟩ = some (.slice a V.length cv) := HGV.out.cell 0
 have m0 : w1.cell? ⟨gm, 0, none⟩ = some (.int .i64 q) := HGM.out.cell 0
 have m1 : w1.cell? ⟨gm, 1, none⟩ = some (.int .i64 (i : Int)) := HGM.out.cell 1
 have m2 : w1.cell? ⟨gm, 2, none⟩ = some (.int .i64 ((s : Int) + 1)) := HGM.out.cell 2
 have m3 : w1.cell? ⟨gm, 3, none⟩ = some (.int .i64 p) := HGM.out.cell 3
 have m4 : w1.cell? ⟨gm, 4, none⟩ = some (.int .i64 t) := HGM.out.cell 4
 have m5 : w1.cell? ⟨gm, 5, none⟩ = some (.int .i64 c) := HGM.out.cell 5
 have m6 : w1.cell? ⟨gm, 6, none⟩ = some (.bool im) := HGM.out.cell 6
 go_wp2_with fail
 refine HC.out.mono ?_
 rintro e w2 ⟨rfl, hb⟩
 replace HGV := Lib.hid (HGV.out.below hb)
 replace HGM := Lib.hid (HGM.out.below hb)
 replace HGR := Lib.hid (HGR.out.below hb)
 replace HVO := Lib.hid (HVO.out.below hb)
 replace HB3 := Lib.hid (HB3.out.trans (hb.mono HB3.out.size))
 clear hb HC b0 m0 m1 m2 m3 m4 m5 m6
 have b0 : w2.cell? ⟨gv, 0, none⟩ = some (.slice a V.length cv) := HGV.out.cell 0
 go_wp2_with fail
 refine (copy_any HVO.out hl HKK.out (by omega)).mono ?_
 rintro e w3 ⟨v', rfl, ⟨P, hP, hPl, hPs, hAp⟩, hb⟩
 obtain ⟨pp, hpp⟩ : ∃ p, P[i]? = some p := ⟨_, List.getElem?_eq_getElem (by omega)⟩
 obtain ⟨go, cap, he, _, _⟩ := hP.at_ i pp hpp
 rw [hPl] at he
 subst he
 have hg3 := HGV.out.below hb
 have hbb := HB3.out.trans (hb.mono HB3.out.size)
 have hst := keep1 w3 gv 0 (.slice (some ⟨go, 0, none⟩) V.length cap)
 have hW : w.heap.size ≤ w2.heap.size := HB3.out.size
 have HP := Lib.hid ((hP.base hW).far hg3.tyd (by decide) 0 (.slice (some ⟨go, 0, none⟩) V.length cap))
 have HPS : Hid (∀ (j : Nat) (p : Pr) (x : Sd × Sd), P[j]? = some p → V[j]? = some x → ShO LVL (w3.setCell ⟨gv, 0, none⟩ (.slice (some ⟨go, 0, none⟩) V.length cap)) w.heap.size p.s x.1 ∧ ShO LVL (w3.setCell ⟨gv, 0, none⟩ (.slice (some ⟨go, 0, none⟩) V.length cap)) w.heap.size p.t x.2) := Lib.hid fun j p x hp hx => ⟨((hPs j p x hp hx).1.base hW).far hg3.tyd (by decide) 0 _, ((hPs j p x hp hx).2.base hW).far hg3.tyd (by decide) 0 _⟩
 have HPL := Lib.hid hPl
 have HAP := Lib.hid hAp
 have HPP := Lib.hid hpp
 have HGM2 := Lib.hid ((HGM.out.below hb).far (p := ⟨gv, 0, none⟩) (Ne.symm N4.out) (.slice (some ⟨go, 0, none⟩) V.length cap))
 have HGR2 := Lib.hid ((HGR.out.below hb).far (p := ⟨gv, 0, none⟩) (Ne.symm N1.out) (.slice (some ⟨go, 0, none⟩) V.length cap))
 have HGV2 : Hid (Blk (w3.setCell ⟨gv, 0, none⟩ (.slice (some ⟨go, 0, none⟩) V.length cap)) gv 50 #[.slice (some ⟨go, 0, none⟩) V.length cap]) := Lib.hid (hg3.set_ 0 _)
 have HB4 := Lib.hid (hbb.setCell (p := ⟨gv, 0, none⟩) N3.out (.slice (some ⟨go, 0, none⟩) V.length cap))
 have b3 : w3.cell? ⟨gv, 0, none⟩ = some (.slice a V.length cv) := hg3.cell 0
 have fz3 : w3.frozen? ⟨gv, 0, none⟩ = false := hg3.frozen 0
 clear hP hPl hPs hAp hpp hg3 hbb hst hW hb b0 HGV HGM HGR HVO HB3
 go_upto_region 5 with (fail)
 clear b3 fz3
 generalize w3.setCell ⟨gv, 0, none⟩ (.slice (some ⟨go, 0, none⟩) V.length cap) = w4 at *
 have b4 : w4.cell? ⟨gv, 0, none⟩ = some (.slice (some ⟨go, 0, none⟩) V.length cap) := HGV2.out.cell 0
 have m0 : w4.cell? ⟨gm, 0, none⟩ = some (.int .i64 q) := HGM2.out.cell 0
 have m1 : w4.cell? ⟨gm, 1, none⟩ = some (.int .i64 (i : Int)) := HGM2.out.cell 1
 have m2 : w4.cell? ⟨gm, 2, none⟩ = some (.int .i64 ((s : Int) + 1)) := HGM2.out.cell 2
 have m3 : w4.cell? ⟨gm, 3, none⟩ = some (.int .i64 p) := HGM2.out.cell 3
 have m4 : w4.cell? ⟨gm, 4, none⟩ = some (.int .i64 t) := HGM2.out.cell 4
 have m5 : w4.cell? ⟨gm, 5, none⟩ = some (.int .i64 c) := HGM2.out.cell 5
 have m6 : w4.cell? ⟨gm, 6, none⟩ = some (.bool im) := HGM2.out.cell 6
 have y1 : IntKind.i64.wrap ((s : Int) + 1 - 1) = (s : Int) := by rw [IntWalk.i64_in _ (by omega)]; omega
 have y2 : (s : Int) + 1 - 1 = (s : Int) := by omega
 have hi2 : (i : Int) < (V.length : Int) := by omega
 have hs2 : (s : Int) < 2 := by omega
 go_quiet (fail)
 have hbq := (Below.drewN_of w4 nq).trans ((Below.allocN (w4.drewN nq) (.cells #[.int .i64 p, .int .i64 t, .int .i64 c] 92)).mono (Nat.le_refl _))
 obtain ⟨gl, hgl⟩ : ∃ gl, w4.heap.size = gl := ⟨_, rfl⟩
 have hap5 : AP w ((w4.drewN nq).alloc (.cells #[.int .i64 p, .int .i64 t, .int .i64 c] 92)) gv gm gr gl go cap V P q p t c i s im := by
  refine ⟨HGV2.out.below hbq, HGM2.out.below hbq, HGR2.out.below hbq, ?_, HP.out.below hbq, fun j p x hp hx => ⟨(HPS.out j p x hp hx).1.below hbq, (HPS.out j p x hp hx).2.below hbq⟩, HB4.out.trans (hbq.mono HB4.out.size)⟩
  rw [← hgl]
  exact Blk.new (w4.drewN nq) _ _
 have A5 := Lib.hid hap5
 have NGO : Hid (∀ g, (pp.sh s).own = some g → g < gl) := Lib.hid (by
  intro g hg
  have hh := HPS.out i pp x HPP.out HX.out
  rw [← hgl]
  unfold Pr.sh at hg
  split at hg
  ·exact own_lt hh.1.row g hg
  ·exact own_lt hh.2.row g hg)
 have N6 : Hid (w.heap.size ≤ gl) := Lib.hid (by rw [← hgl]; exact HB4.out.size)
 have hgz : (w4.drewN nq).heap.size = gl := hgl
 go_upto_region 7 with (fail)
 clear hap5 hbq hgl hgz HGV2 HGM2 HGR2 HP HPS HB4 b4 m0 m1 m2 m3 m4 m5 m6 y1 y2
 generalize (w4.drewN nq).alloc (.cells #[.int .i64 p, .int .i64 t, .int .i64 c] 92) = w5 at *
 have him := HIM.out
 subst him
 clear HIM
 obtain rfl : x = x0 := by have h1 := HX.out; have h2 := HX0.out; rw [h1] at h2; injection h2
 have m6 : w5.cell? ⟨gm, 6, none⟩ = some (.bool false) := A5.out.bm.cell 6
 have SH := A5.out.shs HPP.out HX.out
 obtain ⟨L, hL⟩ : ∃ L, (sdOf x s).lv = L := ⟨_, rfl⟩
 have hLK : L.length ≤ K := by
  have := HKK.out x (List.mem_of_getElem? HX.out)
  rw [← hL]; unfold sdOf
  split
  ·exact this.1
  ·exact this.2
 obtain ⟨sn, hsn⟩ : ∃ sn, (pp.sh s).n = sn := ⟨_, rfl⟩
 obtain ⟨sa, hsa⟩ : ∃ sa, (pp.sh s).a = sa := ⟨_, rfl⟩
 obtain ⟨sc, hsc⟩ : ∃ sc, (pp.sh s).c = sc := ⟨_, rfl⟩
 have hown : (pp.sh s).own = (Value.slice sa L.length sc).ownBlock := by unfold Sh.own; rw [SH.n, hL, hsa, hsc]
 have c0 : w5.cell? ⟨go, i * 10 + s * 5, none⟩ = some (.slice sa L.length sc) := by
  have := side_cells A5.out.row HPP.out hs (f := 0) (u := .slice (pp.sh s).a (pp.sh s).n (pp.sh s).c) rfl
  rw [SH.n, hL, hsa, hsc] at this
  exact this
 have hrow : LVL.Row w5 w.heap.size (.slice sa L.length sc) L := by
  have := SH.row
  rw [SH.n, hL, hsa, hsc] at this
  exact this
 have hm : (sdOf x s).app ⟨q, i, (s : Int) + 1, p, t, c, false⟩ = ⟨updP ⟨q, i, (s : Int) + 1, p, t, c, false⟩ L, (sdOf x s).im, (sdOf x s).has⟩ := by
  unfold Sd.app
  rw [if_neg (by simp), hL, updP_eq (by rw [← hL]; exact HSRT.out)]
 have HMM := Lib.hid hm
 have HIM := Lib.hid SH.im
 have HHAS := Lib.hid SH.has
 have HOWN := Lib.hid hown
 have HROW := Lib.hid hrow
 have HLL := Lib.hid hL
 have HLK := Lib.hid hLK
 have HSA := Lib.hid hsa
 have HSC := Lib.hid hsc
 have hix := index_same hrow.sl (by omega) gm p A5.out.bm.lt (A5.out.bm.cell 3)
 have hidx : idxV (fun y => y.price == p) L = (-1 : Int) := by unfold idxV; rw [← hL, HCS.out]
 rw [hidx] at hix
 have HIX := Lib.hid hix
 have hcs := HCS.out
 rw [hL] at hcs
 have HCL := Lib.hid hcs
 clear SH hL hLK hsn hsa hsc hown hrow hm HX0 HSRT hix hidx hcs HCS
 go_upto_region 12 with (fail)
 clear m6
 go_wp2_with fail
 refine HIX.out.mono ?_
 rintro e w6 ⟨rfl, hb⟩
 have A6 := Lib.hid (A5.out.below hb)
 have HROW6 := Lib.hid (HROW.out.below hb)
 clear hb HIX HROW A5 c0
 have m4 : w6.cell? ⟨gm, 4, none⟩ = some (.int .i64 t) := A6.out.bm.cell 4
 have c6 : w6.cell? ⟨go, i * 10 + s * 5, none⟩ = some (.slice sa L.length sc) := by
  have := side_cells A6.out.row HPP.out hs (f := 0) (u := .slice (pp.sh s).a (pp.sh s).n (pp.sh s).c) rfl
  rw [(A6.out.shs HPP.out HX.out).n, HLL.out, HSA.out, HSC.out] at this
  exact this
 have htq : ¬ (0 : Int) < t := by have := HT0.out; omega
 have hup : updP ⟨q, i, (s : Int) + 1, p, t, c, false⟩ L = L := by
  unfold updP
  rw [HCL.out]
  dsimp only
  rw [if_neg (by have := HT0.out; omega)]
 have HUP := Lib.hid hup
 have HSN : Hid ((pp.sh s).n = L.length) := Lib.hid (by rw [(A6.out.shs HPP.out HX.out).n, HLL.out])
 have HMM2 : Hid ((sdOf x s).app ⟨q, i, (s : Int) + 1, p, t, c, false⟩ = ⟨L, (sdOf x s).im, (sdOf x s).has⟩) := Lib.hid (by rw [HMM.out, HUP.out])
 have HVF := Lib.hid (A6.out.done (sh := pp.sh s) (d := ⟨L, (sdOf x s).im, (sdOf x s).has⟩) (F := fun _ => False) HPL.out HAP.out HPP.out HX.out hs (Keeps.refl _ _) (fun g hg h => h.elim) (by rw [put_same HPP.out]; exact A6.out.row) ⟨HSN.out, by rw [HSN.out, HSA.out, HSC.out]; exact HROW6.out, HIM.out, HHAS.out⟩ A6.out.br.tyd HMM2.out (.slice (some ⟨go, 0, none⟩) V.length cap))
 have HBF := Lib.hid (A6.out.bel.setCell (p := ⟨gr, 0, none⟩) N5.out (.slice (some ⟨go, 0, none⟩) V.length cap))
 have HKF : Hid (Blk (w6.setCell ⟨gr, 0, none⟩ (.slice (some ⟨go, 0, none⟩) V.length cap)) gr 50 #[.slice (some ⟨go, 0, none⟩) V.length cap]) := Lib.hid (A6.out.br.set_ 0 _)
 have v0 : w6.cell? ⟨gv, 0, none⟩ = some (.slice (some ⟨go, 0, none⟩) V.length cap) := A6.out.bv.cell 0
 have r0 : w6.cell? ⟨gr, 0, none⟩ = some (.slice none 0 0) := A6.out.br.cell 0
 have rz : w6.frozen? ⟨gr, 0, none⟩ = false := A6.out.br.frozen 0
 clear hup
 go_wp2_with fail
 clear v0 r0 rz
 generalize w6.setCell ⟨gr, 0, none⟩ (.slice (some ⟨go, 0, none⟩) V.length cap) = wf at *
 have f0 : wf.cell? ⟨gr, 0, none⟩ = some (.slice (some ⟨go, 0, none⟩) V.length cap) := HKF.out.cell 0
 refine bodyPost_ret (v := .tuple #[.agg #[.slice (some ⟨go, 0, none⟩) V.length cap], .int .i64 0]) (by simp [results, Try.results52, go_sem, f0]) rfl ⟨_, rfl, HVF.out, HBF.out⟩
end Go.Proofs.Ytmaijkoopjocdaa

/- The walk of feed.Apply: a level laid between. -/
namespace Go.Proofs.Ytmaijkoopjocdaa
open Go.RowKit Go.Lib

set_option maxRecDepth 20000 in
set_option maxHeartbeats 16000000 in
theorem apply_ins {w : World} {B : Nat} {v : Value} {V : Vw} (h : VO PRL LVL w B v V) (hl : V.length ≤ 255) {K : Nat} (hK : LenV V K) (hK2 : K ≤ 800000) {q p t c : Int} {i s : Nat} (hi : i < V.length) (hs : s < 2) (hf0 : fineC V.length ⟨q, i, (s : Int) + 1, p, t, c, false⟩ = 0) {x0 : Sd × Sd} (hx0 : V[i]? = some x0) (hsrt : Srt ((s : Int) + 1) (sdOf x0 s).lv) {k : Nat} (hcs0 : (sdOf x0 s).lv.findIdx? (fun y => y.price == p) = none) (hcb0 : (sdOf x0 s).lv.findIdx? (fun y => betterP ((s : Int) + 1) p y.price) = some k) (ht0 : 0 < t) :
  Calls Try.prog 52 #[.agg #[v], .agg #[.int .i64 q, .int .i64 i, .int .i64 ((s : Int) + 1), .int .i64 p, .int .i64 t, .int .i64 c, .bool false]] w fun e w' => ∃ v', e = .returned (.tuple #[.agg #[v'], .int .i64 0]) ∧ VO PRL LVL w' w.heap.size v' (appV ⟨q, i, (s : Int) + 1, p, t, c, false⟩ V) ∧ Below w.heap.size w w' := by
 obtain ⟨a, cv, rfl⟩ := h.form
 obtain ⟨im, him⟩ : ∃ im, false = im := ⟨_, rfl⟩
 have hz1 : (w.alloc (.cells #[.slice a V.length cv] 50)).heap.size = w.heap.size + 1 := by simp
 have hz2 : ((w.alloc (.cells #[.slice a V.length cv] 50)).alloc (.cells #[.int .i64 q, .int .i64 (i : Int), .int .i64 ((s : Int) + 1), .int .i64 p, .int .i64 t, .int .i64 c, .bool im] 34)).heap.size = w.heap.size + 1 + 1 := by simp
 have hb1 := Below.allocN w (.cells #[.slice a V.length cv] 50)
 have hb2 := hb1.trans ((Below.allocN (w.alloc (.cells #[.slice a V.length cv] 50)) (.cells #[.int .i64 q, .int .i64 (i : Int), .int .i64 ((s : Int) + 1), .int .i64 p, .int .i64 t, .int .i64 c, .bool im] 34)).mono hb1.size)
 have hb3 := hb2.trans ((Below.allocN ((w.alloc (.cells #[.slice a V.length cv] 50)).alloc (.cells #[.int .i64 q, .int .i64 (i : Int), .int .i64 ((s : Int) + 1), .int .i64 p, .int .i64 t, .int .i64 c, .bool im] 34)) (.cells #[.slice none 0 0] 50)).mono hb2.size)
 have hgv : Blk (((w.alloc (.cells #[.slice a V.length cv] 50)).alloc (.cells #[.int .i64 q, .int .i64 (i : Int), .int .i64 ((s : Int) + 1), .int .i64 p, .int .i64 t, .int .i64 c, .bool im] 34)).alloc (.cells #[.slice none 0 0] 50)) w.heap.size 50 #[.slice a V.length cv] := ((Blk.new w _ _).alloc _).alloc _
 have hgm : Blk (((w.alloc (.cells #[.slice a V.length cv] 50)).alloc (.cells #[.int .i64 q, .int .i64 (i : Int), .int .i64 ((s : Int) + 1), .int .i64 p, .int .i64 t, .int .i64 c, .bool im] 34)).alloc (.cells #[.slice none 0 0] 50)) (w.heap.size + 1) 34 #[.int .i64 q, .int .i64 (i : Int), .int .i64 ((s : Int) + 1), .int .i64 p, .int .i64 t, .int .i64 c, .bool im] := by
  have := (Blk.new (w.alloc (.cells #[.slice a V.length cv] 50)) 34 #[.int .i64 q, .int .i64 (i : Int), .int .i64 ((s : Int) + 1), .int .i64 p, .int .i64 t, .int .i64 c, .bool im]).alloc (.cells #[.slice none 0 0] 50)
  rwa [hz1] at this
 have hgr : Blk (((w.alloc (.cells #[.slice a V.length cv] 50)).alloc (.cells #[.int .i64 q, .int .i64 (i : Int), .int .i64 ((s : Int) + 1), .int .i64 p, .int .i64 t, .int .i64 c, .bool im] 34)).alloc (.cells #[.slice none 0 0] 50)) (w.heap.size + 1 + 1) 50 #[.slice none 0 0] := by
  have := Blk.new ((w.alloc (.cells #[.slice a V.length cv] 50)).alloc (.cells #[.int .i64 q, .int .i64 (i : Int), .int .i64 ((s : Int) + 1), .int .i64 p, .int .i64 t, .int .i64 c, .bool im] 34)) 50 #[.slice none 0 0]
  rwa [hz2] at this
 have hfc := fine_any V.length ⟨q, i, (s : Int) + 1, p, t, c, im⟩ (((w.alloc (.cells #[.slice a V.length cv] 50)).alloc (.cells #[.int .i64 q, .int .i64 (i : Int), .int .i64 ((s : Int) + 1), .int .i64 p, .int .i64 t, .int .i64 c, .bool im] 34)).alloc (.cells #[.slice none 0 0] 50))
 rw [him] at hf0
 rw [hf0] at hfc
 unfold Mg.agg at hfc
 dsimp only at hfc
 have HVO := Lib.hid (h.below hb3)
 have HKK := Lib.hid hK
 obtain ⟨x, hx⟩ : ∃ x, V[i]? = some x := ⟨_, List.getElem?_eq_getElem hi⟩
 have HX := Lib.hid hx
 have HIM := Lib.hid him
 have HC := Lib.hid hfc
 have HB3 := Lib.hid hb3
 have HGV := Lib.hid hgv
 have HGM := Lib.hid hgm
 have HGR := Lib.hid hgr
 rw [him]
 have HX0 := Lib.hid hx0
 have HSRT := Lib.hid hsrt
 have HCS := Lib.hid hcs0
 have HT0 := Lib.hid ht0
 have HCB := Lib.hid hcb0
 clear ht0 hcb0
 clear hx0 hsrt hcs0 h hK hx him hz1 hz2 hb1 hb2 hb3 hgv hgm hgr hfc hf0
 go_enter Try.func52, Try.ntmps52
 go_upto_region 1 with (fail)
 obtain ⟨w1, hw1⟩ : ∃ w1, (((w.alloc (.cells #[.slice a V.length cv] 50)).alloc (.cells #[.int .i64 q, .int .i64 (i : Int), .int .i64 ((s : Int) + 1), .int .i64 p, .int .i64 t, .int .i64 c, .bool im] 34)).alloc (.cells #[.slice none 0 0] 50)) = w1 := ⟨_, rfl⟩
 obtain ⟨gv, hgv⟩ : ∃ gv, w.heap.size = gv := ⟨_, rfl⟩
 obtain ⟨gm, hgm⟩ : ∃ gm, w.heap.size + 1 = gm := ⟨_, rfl⟩
 obtain ⟨gr, hgr⟩ : ∃ gr, w.heap.size + 1 + 1 = gr := ⟨_, rfl⟩
 rw [hw1] at HVO HB3 HGV HGM HGR HC ⊢
 rw [hgr] at HGR ⊢
 rw [hgm] at HGM ⊢
 rw [hgv] at HGV ⊢
 have N1 : Hid (gv ≠ gr) := Lib.hid (by omega)
 have N2 : Hid (gm ≠ gr) := Lib.hid (by omega)
 have N4 : Hid (gv ≠ gm) := Lib.hid (by omega)
 have N3 : Hid (w.heap.size ≤ gv) := Lib.hid (by omega)
 have N5 : Hid (w.heap.size ≤ gr) := Lib.hid (by omega)
 clear hw1 hgv hgm hgr
 have b0 : w1.cell? ⟨gv, 0, none⟩ = some (.slice a V.length cv) := HGV.out.cell 0
 have m0 : w1.cell? ⟨gm, 0, none⟩ = some (.int .i64 q) := HGM.out.cell 0
 have m1 : w1.cell? ⟨gm, 1, none⟩ = some (.int .i64 (i : Int)) := HGM.out.cell 1
 have m2 : w1.cell? ⟨gm, 2, none⟩ = some (.int .i64 ((s : Int) + 1)) := HGM.out.cell 2
 have m3 : w1.cell? ⟨gm, 3, none⟩ = some (.int .i64 p) := HGM.out.cell 3
 have m4 : w1.cell? ⟨gm, 4, none⟩ = some (.int .i64 t) := HGM.out.cell 4
 have m5 : w1.cell? ⟨gm, 5, none⟩ = some (.int .i64 c) := HGM.out.cell 5
 have m6 : w1.cell? ⟨gm, 6, none⟩ = some (.bool im) := HGM.out.cell 6
 go_wp2_with fail
 refine HC.out.mono ?_
 rintro e w2 ⟨rfl, hb⟩
 replace HGV := Lib.hid (HGV.out.below hb)
 replace HGM := Lib.hid (HGM.out.below hb)
 replace HGR := Lib.hid (HGR.out.below hb)
 replace HVO := Lib.hid (HVO.out.below hb)
 replace HB3 := Lib.hid (HB3.out.trans (hb.mono HB3.out.size))
 clear hb HC b0 m0 m1 m2 m3 m4 m5 m6
 have b0 : w2.cell? ⟨gv, 0, none⟩ = some (.slice a V.length cv) := HGV.out.cell 0
 go_wp2_with fail
 refine (copy_any HVO.out hl HKK.out (by omega)).mono ?_
 rintro e w3 ⟨v', rfl, ⟨P, hP, hPl, hPs, hAp⟩, hb⟩
 obtain ⟨pp, hpp⟩ : ∃ p, P[i]? = some p := ⟨_, List.getElem?_eq_getElem (by omega)⟩
 obtain ⟨go, cap, he, _, _⟩ := hP.at_ i pp hpp
 rw [hPl] at he
 subst he
 have hg3 := HGV.out.below hb
 have hbb := HB3.out.trans (hb.mono HB3.out.size)
 have hst := keep1 w3 gv 0 (.slice (some ⟨go, 0, none⟩) V.length cap)
 have hW : w.heap.size ≤ w2.heap.size := HB3.out.size
 have HP := Lib.hid ((hP.base hW).far hg3.tyd (by decide) 0 (.slice (some ⟨go, 0, none⟩) V.length cap))
 have HPS : Hid (∀ (j : Nat) (p : Pr) (x : Sd × Sd), P[j]? = some p → V[j]? = some x → ShO LVL (w3.setCell ⟨gv, 0, none⟩ (.slice (some ⟨go, 0, none⟩) V.length cap)) w.heap.size p.s x.1 ∧ ShO LVL (w3.setCell ⟨gv, 0, none⟩ (.slice (some ⟨go, 0, none⟩) V.length cap)) w.heap.size p.t x.2) := Lib.hid fun j p x hp hx => ⟨((hPs j p x hp hx).1.base hW).far hg3.tyd (by decide) 0 _, ((hPs j p x hp hx).2.base hW).far hg3.tyd (by decide) 0 _⟩
 have HPL := Lib.hid hPl
 have HAP := Lib.hid hAp
 have HPP := Lib.hid hpp
 have HGM2 := Lib.hid ((HGM.out.below hb).far (p := ⟨gv, 0, none⟩) (Ne.symm N4.out) (.slice (some ⟨go, 0, none⟩) V.length cap))
 have HGR2 := Lib.hid ((HGR.out.below hb).far (p := ⟨gv, 0, none⟩) (Ne.symm N1.out) (.slice (some ⟨go, 0, none⟩) V.length cap))
 have HGV2 : Hid (Blk (w3.setCell ⟨gv, 0, none⟩ (.slice (some ⟨go, 0, none⟩) V.length cap)) gv 50 #[.slice (some ⟨go, 0, none⟩) V.length cap]) := Lib.hid (hg3.set_ 0 _)
 have HB4 := Lib.hid (hbb.setCell (p := ⟨gv, 0, none⟩) N3.out (.slice (some ⟨go, 0, none⟩) V.length cap))
 have b3 : w3.cell? ⟨gv, 0, none⟩ = some (.slice a V.length cv) := hg3.cell 0
 have fz3 : w3.frozen? ⟨gv, 0, none⟩ = false := hg3.frozen 0
 clear hP hPl hPs hAp hpp hg3 hbb hst hW hb b0 HGV HGM HGR HVO HB3
 go_upto_region 5 with (fail)
 clear b3 fz3
 generalize w3.setCell ⟨gv, 0, none⟩ (.slice (some ⟨go, 0, none⟩) V.length cap) = w4 at *
 have b4 : w4.cell? ⟨gv, 0, none⟩ = some (.slice (some ⟨go, 0, none⟩) V.length cap) := HGV2.out.cell 0
 have m0 : w4.cell? ⟨gm, 0, none⟩ = some (.int .i64 q) := HGM2.out.cell 0
 have m1 : w4.cell? ⟨gm, 1, none⟩ = some (.int .i64 (i : Int)) := HGM2.out.cell 1
 have m2 : w4.cell? ⟨gm, 2, none⟩ = some (.int .i64 ((s : Int) + 1)) := HGM2.out.cell 2
 have m3 : w4.cell? ⟨gm, 3, none⟩ = some (.int .i64 p) := HGM2.out.cell 3
 have m4 : w4.cell? ⟨gm, 4, none⟩ = some (.int .i64 t) := HGM2.out.cell 4
 have m5 : w4.cell? ⟨gm, 5, none⟩ = some (.int .i64 c) := HGM2.out.cell 5
 have m6 : w4.cell? ⟨gm, 6, none⟩ = some (.bool im) := HGM2.out.cell 6
 have y1 : IntKind.i64.wrap ((s : Int) + 1 - 1) = (s : Int) := by rw [IntWalk.i64_in _ (by omega)]; omega
 have y2 : (s : Int) + 1 - 1 = (s : Int) := by omega
 have hi2 : (i : Int) < (V.length : Int) := by omega
 have hs2 : (s : Int) < 2 := by omega
 go_quiet (fail)
 have hbq := (Below.drewN_of w4 nq).trans ((Below.allocN (w4.drewN nq) (.cells #[.int .i64 p, .int .i64 t, .int .i64 c] 92)).mono (Nat.le_refl _))
 obtain ⟨gl, hgl⟩ : ∃ gl, w4.heap.size = gl := ⟨_, rfl⟩
 have hap5 : AP w ((w4.drewN nq).alloc (.cells #[.int .i64 p, .int .i64 t, .int .i64 c] 92)) gv gm gr gl go cap V P q p t c i s im := by
  refine ⟨HGV2.out.below hbq, HGM2.out.below hbq, HGR2.out.below hbq, ?_, HP.out.below hbq, fun j p x hp hx => ⟨(HPS.out j p x hp hx).1.below hbq, (HPS.out j p x hp hx).2.below hbq⟩, HB4.out.trans (hbq.mono HB4.out.size)⟩
  rw [← hgl]
  exact Blk.new (w4.drewN nq) _ _
 have A5 := Lib.hid hap5
 have NGO : Hid (∀ g, (pp.sh s).own = some g → g < gl) := Lib.hid (by
  intro g hg
  have hh := HPS.out i pp x HPP.out HX.out
  rw [← hgl]
  unfold Pr.sh at hg
  split at hg
  ·exact own_lt hh.1.row g hg
  ·exact own_lt hh.2.row g hg)
 have N6 : Hid (w.heap.size ≤ gl) := Lib.hid (by rw [← hgl]; exact HB4.out.size)
 have hgz : (w4.drewN nq).heap.size = gl := hgl
 go_upto_region 7 with (fail)
 clear hap5 hbq hgl hgz HGV2 HGM2 HGR2 HP HPS HB4 b4 m0 m1 m2 m3 m4 m5 m6 y1 y2
 generalize (w4.drewN nq).alloc (.cells #[.int .i64 p, .int .i64 t, .int .i64 c] 92) = w5 at *
 have him := HIM.out
 subst him
 clear HIM
 obtain rfl : x = x0 := by have h1 := HX.out; have h2 := HX0.out; rw [h1] at h2; injection h2
 have m6 : w5.cell? ⟨gm, 6, none⟩ = some (.bool false) := A5.out.bm.cell 6
 have SH := A5.out.shs HPP.out HX.out
 obtain ⟨L, hL⟩ : ∃ L, (sdOf x s).lv = L := ⟨_, rfl⟩
 have hLK : L.length ≤ K := by
  have := HKK.out x (List.mem_of_getElem? HX.out)
  rw [← hL]; unfold sdOf
  split
  ·exact this.1
  ·exact this.2
 obtain ⟨sn, hsn⟩ : ∃ sn, (pp.sh s).n = sn := ⟨_, rfl⟩
 obtain ⟨sa, hsa⟩ : ∃ sa, (pp.sh s).a = sa := ⟨_, rfl⟩
 obtain ⟨sc, hsc⟩ : ∃ sc, (pp.sh s).c = sc := ⟨_, rfl⟩
 have hown : (pp.sh s).own = (Value.slice sa L.length sc).ownBlock := by unfold Sh.own; rw [SH.n, hL, hsa, hsc]
 have c0 : w5.cell? ⟨go, i * 10 + s * 5, none⟩ = some (.slice sa L.length sc) := by
  have := side_cells A5.out.row HPP.out hs (f := 0) (u := .slice (pp.sh s).a (pp.sh s).n (pp.sh s).c) rfl
  rw [SH.n, hL, hsa, hsc] at this
  exact this
 have hrow : LVL.Row w5 w.heap.size (.slice sa L.length sc) L := by
  have := SH.row
  rw [SH.n, hL, hsa, hsc] at this
  exact this
 have hm : (sdOf x s).app ⟨q, i, (s : Int) + 1, p, t, c, false⟩ = ⟨updP ⟨q, i, (s : Int) + 1, p, t, c, false⟩ L, (sdOf x s).im, (sdOf x s).has⟩ := by
  unfold Sd.app
  rw [if_neg (by simp), hL, updP_eq (by rw [← hL]; exact HSRT.out)]
 have HMM := Lib.hid hm
 have HIM := Lib.hid SH.im
 have HHAS := Lib.hid SH.has
 have HOWN := Lib.hid hown
 have HROW := Lib.hid hrow
 have HLL := Lib.hid hL
 have HLK := Lib.hid hLK
 have HSA := Lib.hid hsa
 have HSC := Lib.hid hsc
 have hix := index_same hrow.sl (by omega) gm p A5.out.bm.lt (A5.out.bm.cell 3)
 have hidx : idxV (fun y => y.price == p) L = (-1 : Int) := by unfold idxV; rw [← hL, HCS.out]
 rw [hidx] at hix
 have HIX := Lib.hid hix
 have hcs := HCS.out
 rw [hL] at hcs
 have HCL := Lib.hid hcs
 clear SH hL hLK hsn hsa hsc hown hrow hm HX0 HSRT hix hidx hcs HCS
 go_upto_region 12 with (fail)
 clear m6
 go_wp2_with fail
 refine HIX.out.mono ?_
 rintro e w6 ⟨rfl, hb⟩
 have A6 := Lib.hid (A5.out.below hb)
 have HROW6 := Lib.hid (HROW.out.below hb)
 clear hb HIX HROW A5 c0
 have m4 : w6.cell? ⟨gm, 4, none⟩ = some (.int .i64 t) := A6.out.bm.cell 4
 have c6 : w6.cell? ⟨go, i * 10 + s * 5, none⟩ = some (.slice sa L.length sc) := by
  have := side_cells A6.out.row HPP.out hs (f := 0) (u := .slice (pp.sh s).a (pp.sh s).n (pp.sh s).c) rfl
  rw [(A6.out.shs HPP.out HX.out).n, HLL.out, HSA.out, HSC.out] at this
  exact this
 have htq : (0 : Int) < t := HT0.out
 have hix2 := index_better HROW6.out.sl (by have := HLK.out; omega) gm ((s : Int) + 1) p A6.out.bm.lt (A6.out.bm.cell 2) (A6.out.bm.cell 3)
 have hidx2 : idxV (fun y => betterP ((s : Int) + 1) p y.price) L = (k : Int) := by unfold idxV; rw [← HLL.out, HCB.out]
 rw [hidx2] at hix2
 have HIX2 := Lib.hid hix2
 clear hidx2 hix2
 go_wp2_with fail
 refine HIX2.out.mono ?_
 rintro e w7 ⟨rfl, hb⟩
 have A7 := Lib.hid (A6.out.below hb)
 have HROW7 := Lib.hid (HROW6.out.below hb)
 have hcb := HCB.out
 rw [HLL.out] at hcb
 have HCB2 := Lib.hid hcb
 clear hb HIX2 A6 HROW6 c6 m4 hcb HCB
 have c7 : w7.cell? ⟨go, i * 10 + s * 5, none⟩ = some (.slice sa L.length sc) := by
  have := side_cells A7.out.row HPP.out hs (f := 0) (u := .slice (pp.sh s).a (pp.sh s).n (pp.sh s).c) rfl
  rw [(A7.out.shs HPP.out HX.out).n, HLL.out, HSA.out, HSC.out] at this
  exact this
 have hat : k ≤ L.length := by have := HCB2.out; rw [List.findIdx?_eq_some_iff_getElem] at this; have := this.1; omega
 have hk0 : ¬ (k : Int) < 0 := by omega
 go_upto_region 21 with (fail)
 have hS : w7.cell? ⟨gl, 0, none⟩ = some (.int .i64 p) ∧ w7.cell? ⟨gl, 1, none⟩ = some (.int .i64 t) ∧ w7.cell? ⟨gl, 2, none⟩ = some (.int .i64 c) ∧ w7.cell? ⟨go, i * 10 + s * 5, none⟩ = some (.slice sa L.length sc) := ⟨A7.out.bl.cell 0, A7.out.bl.cell 1, A7.out.bl.cell 2, c7⟩
 have hb8 : Below w7.heap.size w7 (w7.alloc (.cells #[.int .i64 p, .int .i64 t, .int .i64 c] 92)).drew := (Below.allocN w7 _).trans ((Below.drewN_of _ 1).mono (by simp))
 have A8 := Lib.hid (A7.out.below hb8)
 have HROW8 := Lib.hid (HROW7.out.below hb8)
 have hnb : Blk (w7.alloc (.cells #[.int .i64 p, .int .i64 t, .int .i64 c] 92)).drew w7.heap.size 92 (⟨p, t, c⟩ : Lv).cells.toArray := (Blk.new w7 _ _).drew
 have hne8 : (Value.slice sa L.length sc).ownBlock ≠ some w7.heap.size := fun h => by have := own_lt HROW7.out _ h; omega
 have HIN := Lib.hid (insert_anyL (i := k) (x := ⟨p, t, c⟩) HROW8.out hat hnb hne8 A8.out.bel.size (by have := HLK.out; omega))
 have hS8 : ∀ w', w' = (w7.alloc (.cells #[.int .i64 p, .int .i64 t, .int .i64 c] 92)).drew → w'.cell? ⟨gl, 0, none⟩ = some (.int .i64 p) ∧ w'.cell? ⟨gl, 1, none⟩ = some (.int .i64 t) ∧ w'.cell? ⟨gl, 2, none⟩ = some (.int .i64 c) ∧ w'.cell? ⟨go, i * 10 + s * 5, none⟩ = some (.slice sa L.length sc) := by
  rintro w' rfl
  exact ⟨A8.out.bl.cell 0, A8.out.bl.cell 1, A8.out.bl.cell 2, (hb8.cell (p := ⟨go, i * 10 + s * 5, none⟩) (own_lt A7.out.row go rfl)).trans hS.2.2.2⟩
 clear hb8 hnb hne8
 refine wp_region_E (S := fun w' => w'.cell? ⟨gl, 0, none⟩ = some (.int .i64 p) ∧ w'.cell? ⟨gl, 1, none⟩ = some (.int .i64 t) ∧ w'.cell? ⟨gl, 2, none⟩ = some (.int .i64 c) ∧ w'.cell? ⟨go, i * 10 + s * 5, none⟩ = some (.slice sa L.length sc)) (by kernel_rfl) hS (fun hHeld => ?_)
 refine wpE_tk 0 (oi := ?o1) (v := ?v1) ?h1 (by kernel_rfl) ?q1 ?y1 (by assumption) ?_
 case h1 => (simp only [List.getElem?_toArray]; rfl)
 case q1 => exact fun _ _ _ h => h
 case y1 => exact Or.inl ⟨by rfl, by (intro w hSw; (try dsimp only at hSw); go_simp; try with_reducible rfl)⟩
 try simp only [Act.put, sA, sB, sC]
 refine wpE_tk 1 (oi := ?o2) (v := ?v2) ?h2 (by kernel_rfl) ?q2 ?y2 (by assumption) ?_
 case h2 => (simp only [List.getElem?_toArray]; rfl)
 case q2 => exact fun _ _ _ h => h
 case y2 => exact Or.inl ⟨by rfl, by (intro w hSw; (try dsimp only at hSw); go_simp; try with_reducible rfl)⟩
 try simp only [Act.put, sA, sB, sC]
 refine wpE_tk 2 (oi := ?o3) (v := ?v3) ?h3 (by kernel_rfl) ?q3 ?y3 (by assumption) ?_
 case h3 => (simp only [List.getElem?_toArray]; rfl)
 case q3 => exact fun _ _ _ h => h
 case y3 => exact Or.inl ⟨by rfl, by (intro w hSw; (try dsimp only at hSw); go_simp; try with_reducible rfl)⟩
 try simp only [Act.put, sA, sB, sC]
 refine wpE_tk 3 (oi := ?o4) (v := ?v4) ?h4 (by kernel_rfl) ?q4 ?y4 (by assumption) ?_
 case h4 => (simp only [List.getElem?_toArray]; rfl)
 case q4 => exact fun _ _ _ h => h
 case y4 => exact Or.inl ⟨by rfl, by (intro w hSw; (try dsimp only at hSw); go_simp; try with_reducible rfl)⟩
 try simp only [Act.put, sA, sB, sC]
 refine wpE_tk 4 (oi := ?o5) (v := ?v5) ?h5 (by kernel_rfl) ?q5 ?y5 (by assumption) ?_
 case h5 => (simp only [List.getElem?_toArray]; rfl)
 case q5 => exact fun _ _ _ h => h
 case y5 => exact Or.inl ⟨by rfl, by (intro w hSw; (try dsimp only at hSw); go_simp; try with_reducible rfl)⟩
 try simp only [Act.put, sA, sB, sC]
 refine wpE_tk 5 (oi := ?o6) (v := ?v6) ?h6 (by kernel_rfl) ?q6 ?y6 (by assumption) ?_
 case h6 => (simp only [List.getElem?_toArray]; rfl)
 case q6 => exact fun _ _ _ h => h
 case y6 => exact Or.inl ⟨by rfl, by (intro w hSw; (try dsimp only at hSw); go_simp; try with_reducible rfl)⟩
 try simp only [Act.put, sA, sB, sC]
 refine wpE_tk 6 (oi := ?o7) (v := ?v7) ?h7 (by kernel_rfl) ?q7 ?y7 (by assumption) ?_
 case h7 => (simp only [List.getElem?_toArray]; rfl)
 case q7 => exact fun _ _ _ h => h
 case y7 => exact Or.inl ⟨by rfl, by (intro w hSw; (try dsimp only at hSw); go_simp; try with_reducible rfl)⟩
 try simp only [Act.put, sA, sB, sC]
 refine wpE_one (i := 7) (o := ?o10) ?ho10 (by kernel_rfl) (fun K hK => ?_)
 case ho10 => (simp only [List.getElem?_toArray]; rfl)
 go_simp
 refine hK.out _ _ (hS8 _ rfl) (fun hHeld => ?_)
 clear hK K hS8 hS c7
 generalize (w7.alloc (.cells #[.int .i64 p, .int .i64 t, .int .i64 c] 92)).drew = wB at *
 refine wpE_one (i := 8) (o := ?o11) ?ho11 (by kernel_rfl) (fun K hK => ?_)
 case ho11 => (simp only [List.getElem?_toArray]; rfl)
 go_simp
 refine HIN.out.mono ?_
 rintro e wC ⟨v2, rfl, hr9, hk9, _⟩
 obtain ⟨M, hMM⟩ : ∃ M, L.take k ++ [(⟨p, t, c⟩ : Lv)] ++ L.drop k = M := ⟨_, rfl⟩
 rw [hMM] at hr9
 obtain ⟨a2, c2, rfl⟩ := hr9.form
 have hne : ∀ g, (Value.slice sa L.length sc).ownBlock = some g → Tyd wB g LVL.t := fun g hg => own_tyd HROW8.out g hg
 have hbv7 := A8.out.bv.keeps hk9 (fun h => A8.out.bv.tyd.ne (hne _ h) (by decide) rfl)
 have hbr7 := A8.out.br.keeps hk9 (fun h => A8.out.br.tyd.ne (hne _ h) (by decide) rfl)
 have hrow7 := A8.out.row.keep hk9 (fun g hg h => hg.ne (hne _ h) (by decide) rfl)
 have htg7 : Tyd wC go PRL.t := own_tyd hrow7 go rfl
 have hr8 := Row.putF hrow7 HPP.out hs (f := 0) (by decide) (x := ⟨a2, M.length, c2, (pp.sh s).im, (pp.sh s).has⟩) (u := .slice a2 M.length c2) rfl
 rw [Nat.add_zero] at hr8
 have HR8 := Lib.hid hr8
 have BV8 := Lib.hid (hbv7.far (p := ⟨go, i * 10 + s * 5, none⟩) (hbv7.tyd.ne htg7 (by decide)) (.slice a2 M.length c2))
 have BR8 := Lib.hid (hbr7.far (p := ⟨go, i * 10 + s * 5, none⟩) (hbr7.tyd.ne htg7 (by decide)) (.slice a2 M.length c2))
 have HL8 := Lib.hid (Lay.Row.far (Y := LVL) hr9 htg7 (by decide) (i * 10 + s * 5) (.slice a2 M.length c2))
 have HK8 := Lib.hid (((hk9.more (G := fun g => (Value.slice sa L.length sc).ownBlock = some g ∨ g = go) fun g h => .inl h).trans ((keep1 wC go (i * 10 + s * 5) (.slice a2 M.length c2)).more fun g h => .inr h)))
 have hgl7 := A8.out.bl.keeps hk9 (fun h => by have := NGO.out gl (by rw [HOWN.out]; exact h); omega)
 have c9 : wC.cell? ⟨go, i * 10 + s * 5, none⟩ = some (.slice sa L.length sc) := by
  have := side_cells hrow7 HPP.out hs (f := 0) (u := .slice (pp.sh s).a (pp.sh s).n (pp.sh s).c) rfl
  rw [(A8.out.shs HPP.out HX.out).n, HLL.out, HSA.out, HSC.out] at this
  exact this
 have HZ9 := Lib.hid (fun o => Row.fzG hrow7 HPP.out o)
 have ET := Lib.hid (own_tyd A8.out.row go rfl)
 have E0 : Hid (w.heap.size ≤ go) := Lib.hid (own_base A8.out.row go rfl)
 have EO := Lib.hid (own_base HROW8.out)
 have HM9 := Lib.hid hMM
 refine hK.out _ _ ⟨hgl7.cell 0, hgl7.cell 1, hgl7.cell 2, c9⟩ (fun hHeld => ?_)
 clear hK K hne hbv7 hbr7 hrow7 htg7 hr8 hr9 hk9 hgl7 hMM HIN
 refine wpE_tk 9 (oi := ?o8) (v := ?v8) ?h8 (by kernel_rfl) ?q8 ?y8 (by assumption) ?_
 case h8 => (simp only [List.getElem?_toArray]; rfl)
 case q8 => exact fun _ _ _ h => h
 case y8 => exact Or.inl ⟨by rfl, by (intro w hSw; (try dsimp only at hSw); go_simp; try with_reducible rfl)⟩
 try simp only [Act.put, sA, sB, sC]
 refine wpE_tk 10 (oi := ?o9) (v := ?v9) ?h9 (by kernel_rfl) ?q9 ?y9 (by assumption) ?_
 case h9 => (simp only [List.getElem?_toArray]; rfl)
 case q9 => exact fun _ _ _ h => h
 case y9 => exact Or.inl ⟨by rfl, by (intro w hSw; (try dsimp only at hSw); go_simp; try with_reducible rfl)⟩
 try simp only [Act.put, sA, sB, sC]
 refine wpE_last (i := 11) (o := ?o12) ?ho12 (by kernel_rfl) (by kernel_rfl) (by kernel_rfl) (fun K hK => ?_)
 case ho12 => (simp only [List.getElem?_toArray]; rfl)
 have hz9 := HZ9.out
 go_simp
 refine hK.out _ _ ?_
 clear hK K hHeld hz9 c9 HZ9
 generalize wC.setCell ⟨go, i * 10 + s * 5, none⟩ (.slice a2 M.length c2) = w8 at *
 have hup : updP ⟨q, i, (s : Int) + 1, p, t, c, false⟩ L = M := by
  unfold updP
  rw [HCL.out]
  dsimp only
  rw [if_pos HT0.out, HCB2.out, ← HM9.out]
  simp [Mg.lv]
 have HUP := Lib.hid hup
 clear hup
 have v0 : w8.cell? ⟨gv, 0, none⟩ = some (.slice (some ⟨go, 0, none⟩) V.length cap) := BV8.out.cell 0
 have r0 : w8.cell? ⟨gr, 0, none⟩ = some (.slice none 0 0) := BR8.out.cell 0
 have rz : w8.frozen? ⟨gr, 0, none⟩ = false := BR8.out.frozen 0
 have HMM2 : Hid ((sdOf x s).app ⟨q, i, (s : Int) + 1, p, t, c, false⟩ = ⟨M, (sdOf x s).im, (sdOf x s).has⟩) := Lib.hid (by rw [HMM.out, HUP.out])
 have HVF := Lib.hid (A8.out.done (sh := ⟨a2, M.length, c2, (pp.sh s).im, (pp.sh s).has⟩) (d := ⟨M, (sdOf x s).im, (sdOf x s).has⟩) HPL.out HAP.out HPP.out HX.out hs HK8.out (fun g hg h => by rcases h with h | h; exact HOWN.out.trans h; exact absurd h (hg.ne ET.out (by decide))) HR8.out ⟨rfl, HL8.out, HIM.out, HHAS.out⟩ BR8.out.tyd HMM2.out (.slice (some ⟨go, 0, none⟩) V.length cap))
 have HBF := Lib.hid ((A8.out.bel.trans (HK8.out.below (B := w.heap.size) (fun k hk => by rcases hk with h | h; exact EO.out k h; rw [h]; exact E0.out) A8.out.bel.size)).setCell (p := ⟨gr, 0, none⟩) N5.out (.slice (some ⟨go, 0, none⟩) V.length cap))
 have HKF : Hid (Blk (w8.setCell ⟨gr, 0, none⟩ (.slice (some ⟨go, 0, none⟩) V.length cap)) gr 50 #[.slice (some ⟨go, 0, none⟩) V.length cap]) := Lib.hid (BR8.out.set_ 0 _)
 go_wp2_with fail
 clear v0 r0 rz
 generalize w8.setCell ⟨gr, 0, none⟩ (.slice (some ⟨go, 0, none⟩) V.length cap) = wf at *
 have f0 : wf.cell? ⟨gr, 0, none⟩ = some (.slice (some ⟨go, 0, none⟩) V.length cap) := HKF.out.cell 0
 refine bodyPost_ret (v := .tuple #[.agg #[.slice (some ⟨go, 0, none⟩) V.length cap], .int .i64 0]) (by simp [results, Try.results52, go_sem, f0]) rfl ⟨_, rfl, HVF.out, HBF.out⟩
end Go.Proofs.Ytmaijkoopjocdaa

/- The walk of feed.Apply: a level at the end. -/
namespace Go.Proofs.Ytmaijkoopjocdaa
open Go.RowKit Go.Lib

set_option maxRecDepth 20000 in
set_option maxHeartbeats 16000000 in
theorem apply_end {w : World} {B : Nat} {v : Value} {V : Vw} (h : VO PRL LVL w B v V) (hl : V.length ≤ 255) {K : Nat} (hK : LenV V K) (hK2 : K ≤ 800000) {q p t c : Int} {i s : Nat} (hi : i < V.length) (hs : s < 2) (hf0 : fineC V.length ⟨q, i, (s : Int) + 1, p, t, c, false⟩ = 0) {x0 : Sd × Sd} (hx0 : V[i]? = some x0) (hsrt : Srt ((s : Int) + 1) (sdOf x0 s).lv) (hcs0 : (sdOf x0 s).lv.findIdx? (fun y => y.price == p) = none) (hcb0 : (sdOf x0 s).lv.findIdx? (fun y => betterP ((s : Int) + 1) p y.price) = none) (ht0 : 0 < t) :
  Calls Try.prog 52 #[.agg #[v], .agg #[.int .i64 q, .int .i64 i, .int .i64 ((s : Int) + 1), .int .i64 p, .int .i64 t, .int .i64 c, .bool false]] w fun e w' => ∃ v', e = .returned (.tuple #[.agg #[v'], .int .i64 0]) ∧ VO PRL LVL w' w.heap.size v' (appV ⟨q, i, (s : Int) + 1, p, t, c, false⟩ V) ∧ Below w.heap.size w w' := by
 obtain ⟨a, cv, rfl⟩ := h.form
 obtain ⟨im, him⟩ : ∃ im, false = im := ⟨_, rfl⟩
 have hz1 : (w.alloc (.cells #[.slice a V.length cv] 50)).heap.size = w.heap.size + 1 := by simp
 have hz2 : ((w.alloc (.cells #[.slice a V.length cv] 50)).alloc (.cells #[.int .i64 q, .int .i64 (i : Int), .int .i64 ((s : Int) + 1), .int .i64 p, .int .i64 t, .int .i64 c, .bool im] 34)).heap.size = w.heap.size + 1 + 1 := by simp
 have hb1 := Below.allocN w (.cells #[.slice a V.length cv] 50)
 have hb2 := hb1.trans ((Below.allocN (w.alloc (.cells #[.slice a V.length cv] 50)) (.cells #[.int .i64 q, .int .i64 (i : Int), .int .i64 ((s : Int) + 1), .int .i64 p, .int .i64 t, .int .i64 c, .bool im] 34)).mono hb1.size)
 have hb3 := hb2.trans ((Below.allocN ((w.alloc (.cells #[.slice a V.length cv] 50)).alloc (.cells #[.int .i64 q, .int .i64 (i : Int), .int .i64 ((s : Int) + 1), .int .i64 p, .int .i64 t, .int .i64 c, .bool im] 34)) (.cells #[.slice none 0 0] 50)).mono hb2.size)
 have hgv : Blk (((w.alloc (.cells #[.slice a V.length cv] 50)).alloc (.cells #[.int .i64 q, .int .i64 (i : Int), .int .i64 ((s : Int) + 1), .int .i64 p, .int .i64 t, .int .i64 c, .bool im] 34)).alloc (.cells #[.slice none 0 0] 50)) w.heap.size 50 #[.slice a V.length cv] := ((Blk.new w _ _).alloc _).alloc _
 have hgm : Blk (((w.alloc (.cells #[.slice a V.length cv] 50)).alloc (.cells #[.int .i64 q, .int .i64 (i : Int), .int .i64 ((s : Int) + 1), .int .i64 p, .int .i64 t, .int .i64 c, .bool im] 34)).alloc (.cells #[.slice none 0 0] 50)) (w.heap.size + 1) 34 #[.int .i64 q, .int .i64 (i : Int), .int .i64 ((s : Int) + 1), .int .i64 p, .int .i64 t, .int .i64 c, .bool im] := by
  have := (Blk.new (w.alloc (.cells #[.slice a V.length cv] 50)) 34 #[.int .i64 q, .int .i64 (i : Int), .int .i64 ((s : Int) + 1), .int .i64 p, .int .i64 t, .int .i64 c, .bool im]).alloc (.cells #[.slice none 0 0] 50)
  rwa [hz1] at this
 have hgr : Blk (((w.alloc (.cells #[.slice a V.length cv] 50)).alloc (.cells #[.int .i64 q, .int .i64 (i : Int), .int .i64 ((s : Int) + 1), .int .i64 p, .int .i64 t, .int .i64 c, .bool im] 34)).alloc (.cells #[.slice none 0 0] 50)) (w.heap.size + 1 + 1) 50 #[.slice none 0 0] := by
  have := Blk.new ((w.alloc (.cells #[.slice a V.length cv] 50)).alloc (.cells #[.int .i64 q, .int .i64 (i : Int), .int .i64 ((s : Int) + 1), .int .i64 p, .int .i64 t, .int .i64 c, .bool im] 34)) 50 #[.slice none 0 0]
  rwa [hz2] at this
 have hfc := fine_any V.length ⟨q, i, (s : Int) + 1, p, t, c, im⟩ (((w.alloc (.cells #[.slice a V.length cv] 50)).alloc (.cells #[.int .i64 q, .int .i64 (i : Int), .int .i64 ((s : Int) + 1), .int .i64 p, .int .i64 t, .int .i64 c, .bool im] 34)).alloc (.cells #[.slice none 0 0] 50))
 rw [him] at hf0
 rw [hf0] at hfc
 unfold Mg.agg at hfc
 dsimp only at hfc
 have HVO := Lib.hid (h.below hb3)
 have HKK := Lib.hid hK
 obtain ⟨x, hx⟩ : ∃ x, V[i]? = some x := ⟨_, List.getElem?_eq_getElem hi⟩
 have HX := Lib.hid hx
 have HIM := Lib.hid him
 have HC := Lib.hid hfc
 have HB3 := Lib.hid hb3
 have HGV := Lib.hid hgv
 have HGM := Lib.hid hgm
 have HGR := Lib.hid hgr
 rw [him]
 have HX0 := Lib.hid hx0
 have HSRT := Lib.hid hsrt
 have HCS := Lib.hid hcs0
 have HT0 := Lib.hid ht0
 have HCB := Lib.hid hcb0
 clear ht0 hcb0
 clear hx0 hsrt hcs0 h hK hx him hz1 hz2 hb1 hb2 hb3 hgv hgm hgr hfc hf0
 go_enter Try.func52, Try.ntmps52
 go_upto_region 1 with (fail)
 obtain ⟨w1, hw1⟩ : ∃ w1, (((w.alloc (.cells #[.slice a V.length cv] 50)).alloc (.cells #[.int .i64 q, .int .i64 (i : Int), .int .i64 ((s : Int) + 1), .int .i64 p, .int .i64 t, .int .i64 c, .bool im] 34)).alloc (.cells #[.slice none 0 0] 50)) = w1 := ⟨_, rfl⟩
 obtain ⟨gv, hgv⟩ : ∃ gv, w.heap.size = gv := ⟨_, rfl⟩
 obtain ⟨gm, hgm⟩ : ∃ gm, w.heap.size + 1 = gm := ⟨_, rfl⟩
 obtain ⟨gr, hgr⟩ : ∃ gr, w.heap.size + 1 + 1 = gr := ⟨_, rfl⟩
 rw [hw1] at HVO HB3 HGV HGM HGR HC ⊢
 rw [hgr] at HGR ⊢
 rw [hgm] at HGM ⊢
 rw [hgv] at HGV ⊢
 have N1 : Hid (gv ≠ gr) := Lib.hid (by omega)
 have N2 : Hid (gm ≠ gr) := Lib.hid (by omega)
 have N4 : Hid (gv ≠ gm) := Lib.hid (by omega)
 have N3 : Hid (w.heap.size ≤ gv) := Lib.hid (by omega)
 have N5 : Hid (w.heap.size ≤ gr) := Lib.hid (by omega)
 clear hw1 hgv hgm hgr
 have b0 : w1.cell? ⟨gv, 0, none⟩ = some (.slice a V.length cv) := HGV.out.cell 0
 have m0 : w1.cell? ⟨gm, 0, none⟩ = some (.int .i64 q) := HGM.out.cell 0
 have m1 : w1.cell? ⟨gm, 1, none⟩ = some (.int .i64 (i : Int)) := HGM.out.cell 1
 have m2 : w1.cell? ⟨gm, 2, none⟩ = some (.int .i64 ((s : Int) + 1)) := HGM.out.cell 2
 have m3 : w1.cell? ⟨gm, 3, none⟩ = some (.int .i64 p) := HGM.out.cell 3
 have m4 : w1.cell? ⟨gm, 4, none⟩ = some (.int .i64 t) := HGM.out.cell 4
 have m5 : w1.cell? ⟨gm, 5, none⟩ = some (.int .i64 c) := HGM.out.cell 5
 have m6 : w1.cell? ⟨gm, 6, none⟩ = some (.bool im) := HGM.out.cell 6
 go_wp2_with fail
 refine HC.out.mono ?_
 rintro e w2 ⟨rfl, hb⟩
 replace HGV := Lib.hid (HGV.out.below hb)
 replace HGM := Lib.hid (HGM.out.below hb)
 replace HGR := Lib.hid (HGR.out.below hb)
 replace HVO := Lib.hid (HVO.out.below hb)
 replace HB3 := Lib.hid (HB3.out.trans (hb.mono HB3.out.size))
 clear hb HC b0 m0 m1 m2 m3 m4 m5 m6
 have b0 : w2.cell? ⟨gv, 0, none⟩ = some (.slice a V.length cv) := HGV.out.cell 0
 go_wp2_with fail
 refine (copy_any HVO.out hl HKK.out (by omega)).mono ?_
 rintro e w3 ⟨v', rfl, ⟨P, hP, hPl, hPs, hAp⟩, hb⟩
 obtain ⟨pp, hpp⟩ : ∃ p, P[i]? = some p := ⟨_, List.getElem?_eq_getElem (by omega)⟩
 obtain ⟨go, cap, he, _, _⟩ := hP.at_ i pp hpp
 rw [hPl] at he
 subst he
 have hg3 := HGV.out.below hb
 have hbb := HB3.out.trans (hb.mono HB3.out.size)
 have hst := keep1 w3 gv 0 (.slice (some ⟨go, 0, none⟩) V.length cap)
 have hW : w.heap.size ≤ w2.heap.size := HB3.out.size
 have HP := Lib.hid ((hP.base hW).far hg3.tyd (by decide) 0 (.slice (some ⟨go, 0, none⟩) V.length cap))
 have HPS : Hid (∀ (j : Nat) (p : Pr) (x : Sd × Sd), P[j]? = some p → V[j]? = some x → ShO LVL (w3.setCell ⟨gv, 0, none⟩ (.slice (some ⟨go, 0, none⟩) V.length cap)) w.heap.size p.s x.1 ∧ ShO LVL (w3.setCell ⟨gv, 0, none⟩ (.slice (some ⟨go, 0, none⟩) V.length cap)) w.heap.size p.t x.2) := Lib.hid fun j p x hp hx => ⟨((hPs j p x hp hx).1.base hW).far hg3.tyd (by decide) 0 _, ((hPs j p x hp hx).2.base hW).far hg3.tyd (by decide) 0 _⟩
 have HPL := Lib.hid hPl
 have HAP := Lib.hid hAp
 have HPP := Lib.hid hpp
 have HGM2 := Lib.hid ((HGM.out.below hb).far (p := ⟨gv, 0, none⟩) (Ne.symm N4.out) (.slice (some ⟨go, 0, none⟩) V.length cap))
 have HGR2 := Lib.hid ((HGR.out.below hb).far (p := ⟨gv, 0, none⟩) (Ne.symm N1.out) (.slice (some ⟨go, 0, none⟩) V.length cap))
 have HGV2 : Hid (Blk (w3.setCell ⟨gv, 0, none⟩ (.slice (some ⟨go, 0, none⟩) V.length cap)) gv 50 #[.slice (some ⟨go, 0, none⟩) V.length cap]) := Lib.hid (hg3.set_ 0 _)
 have HB4 := Lib.hid (hbb.setCell (p := ⟨gv, 0, none⟩) N3.out (.slice (some ⟨go, 0, none⟩) V.length cap))
 have b3 : w3.cell? ⟨gv, 0, none⟩ = some (.slice a V.length cv) := hg3.cell 0
 have fz3 : w3.frozen? ⟨gv, 0, none⟩ = false := hg3.frozen 0
 clear hP hPl hPs hAp hpp hg3 hbb hst hW hb b0 HGV HGM HGR HVO HB3
 go_upto_region 5 with (fail)
 clear b3 fz3
 generalize w3.setCell ⟨gv, 0, none⟩ (.slice (some ⟨go, 0, none⟩) V.length cap) = w4 at *
 have b4 : w4.cell? ⟨gv, 0, none⟩ = some (.slice (some ⟨go, 0, none⟩) V.length cap) := HGV2.out.cell 0
 have m0 : w4.cell? ⟨gm, 0, none⟩ = some (.int .i64 q) := HGM2.out.cell 0
 have m1 : w4.cell? ⟨gm, 1, none⟩ = some (.int .i64 (i : Int)) := HGM2.out.cell 1
 have m2 : w4.cell? ⟨gm, 2, none⟩ = some (.int .i64 ((s : Int) + 1)) := HGM2.out.cell 2
 have m3 : w4.cell? ⟨gm, 3, none⟩ = some (.int .i64 p) := HGM2.out.cell 3
 have m4 : w4.cell? ⟨gm, 4, none⟩ = some (.int .i64 t) := HGM2.out.cell 4
 have m5 : w4.cell? ⟨gm, 5, none⟩ = some (.int .i64 c) := HGM2.out.cell 5
 have m6 : w4.cell? ⟨gm, 6, none⟩ = some (.bool im) := HGM2.out.cell 6
 have y1 : IntKind.i64.wrap ((s : Int) + 1 - 1) = (s : Int) := by rw [IntWalk.i64_in _ (by omega)]; omega
 have y2 : (s : Int) + 1 - 1 = (s : Int) := by omega
 have hi2 : (i : Int) < (V.length : Int) := by omega
 have hs2 : (s : Int) < 2 := by omega
 go_quiet (fail)
 have hbq := (Below.drewN_of w4 nq).trans ((Below.allocN (w4.drewN nq) (.cells #[.int .i64 p, .int .i64 t, .int .i64 c] 92)).mono (Nat.le_refl _))
 obtain ⟨gl, hgl⟩ : ∃ gl, w4.heap.size = gl := ⟨_, rfl⟩
 have hap5 : AP w ((w4.drewN nq).alloc (.cells #[.int .i64 p, .int .i64 t, .int .i64 c] 92)) gv gm gr gl go cap V P q p t c i s im := by
  refine ⟨HGV2.out.below hbq, HGM2.out.below hbq, HGR2.out.below hbq, ?_, HP.out.below hbq, fun j p x hp hx => ⟨(HPS.out j p x hp hx).1.below hbq, (HPS.out j p x hp hx).2.below hbq⟩, HB4.out.trans (hbq.mono HB4.out.size)⟩
  rw [← hgl]
  exact Blk.new (w4.drewN nq) _ _
 have A5 := Lib.hid hap5
 have NGO : Hid (∀ g, (pp.sh s).own = some g → g < gl) := Lib.hid (by
  intro g hg
  have hh := HPS.out i pp x HPP.out HX.out
  rw [← hgl]
  unfold Pr.sh at hg
  split at hg
  ·exact own_lt hh.1.row g hg
  ·exact own_lt hh.2.row g hg)
 have N6 : Hid (w.heap.size ≤ gl) := Lib.hid (by rw [← hgl]; exact HB4.out.size)
 have hgz : (w4.drewN nq).heap.size = gl := hgl
 go_upto_region 7 with (fail)
 clear hap5 hbq hgl hgz HGV2 HGM2 HGR2 HP HPS HB4 b4 m0 m1 m2 m3 m4 m5 m6 y1 y2
 generalize (w4.drewN nq).alloc (.cells #[.int .i64 p, .int .i64 t, .int .i64 c] 92) = w5 at *
 have him := HIM.out
 subst him
 clear HIM
 obtain rfl : x = x0 := by have h1 := HX.out; have h2 := HX0.out; rw [h1] at h2; injection h2
 have m6 : w5.cell? ⟨gm, 6, none⟩ = some (.bool false) := A5.out.bm.cell 6
 have SH := A5.out.shs HPP.out HX.out
 obtain ⟨L, hL⟩ : ∃ L, (sdOf x s).lv = L := ⟨_, rfl⟩
 have hLK : L.length ≤ K := by
  have := HKK.out x (List.mem_of_getElem? HX.out)
  rw [← hL]; unfold sdOf
  split
  ·exact this.1
  ·exact this.2
 obtain ⟨sn, hsn⟩ : ∃ sn, (pp.sh s).n = sn := ⟨_, rfl⟩
 obtain ⟨sa, hsa⟩ : ∃ sa, (pp.sh s).a = sa := ⟨_, rfl⟩
 obtain ⟨sc, hsc⟩ : ∃ sc, (pp.sh s).c = sc := ⟨_, rfl⟩
 have hown : (pp.sh s).own = (Value.slice sa L.length sc).ownBlock := by unfold Sh.own; rw [SH.n, hL, hsa, hsc]
 have c0 : w5.cell? ⟨go, i * 10 + s * 5, none⟩ = some (.slice sa L.length sc) := by
  have := side_cells A5.out.row HPP.out hs (f := 0) (u := .slice (pp.sh s).a (pp.sh s).n (pp.sh s).c) rfl
  rw [SH.n, hL, hsa, hsc] at this
  exact this
 have hrow : LVL.Row w5 w.heap.size (.slice sa L.length sc) L := by
  have := SH.row
  rw [SH.n, hL, hsa, hsc] at this
  exact this
 have hm : (sdOf x s).app ⟨q, i, (s : Int) + 1, p, t, c, false⟩ = ⟨updP ⟨q, i, (s : Int) + 1, p, t, c, false⟩ L, (sdOf x s).im, (sdOf x s).has⟩ := by
  unfold Sd.app
  rw [if_neg (by simp), hL, updP_eq (by rw [← hL]; exact HSRT.out)]
 have HMM := Lib.hid hm
 have HIM := Lib.hid SH.im
 have HHAS := Lib.hid SH.has
 have HOWN := Lib.hid hown
 have HROW := Lib.hid hrow
 have HLL := Lib.hid hL
 have HLK := Lib.hid hLK
 have HSA := Lib.hid hsa
 have HSC := Lib.hid hsc
 have hix := index_same hrow.sl (by omega) gm p A5.out.bm.lt (A5.out.bm.cell 3)
 have hidx : idxV (fun y => y.price == p) L = (-1 : Int) := by unfold idxV; rw [← hL, HCS.out]
 rw [hidx] at hix
 have HIX := Lib.hid hix
 have hcs := HCS.out
 rw [hL] at hcs
 have HCL := Lib.hid hcs
 clear SH hL hLK hsn hsa hsc hown hrow hm HX0 HSRT hix hidx hcs HCS
 go_upto_region 12 with (fail)
 clear m6
 go_wp2_with fail
 refine HIX.out.mono ?_
 rintro e w6 ⟨rfl, hb⟩
 have A6 := Lib.hid (A5.out.below hb)
 have HROW6 := Lib.hid (HROW.out.below hb)
 clear hb HIX HROW A5 c0
 have m4 : w6.cell? ⟨gm, 4, none⟩ = some (.int .i64 t) := A6.out.bm.cell 4
 have c6 : w6.cell? ⟨go, i * 10 + s * 5, none⟩ = some (.slice sa L.length sc) := by
  have := side_cells A6.out.row HPP.out hs (f := 0) (u := .slice (pp.sh s).a (pp.sh s).n (pp.sh s).c) rfl
  rw [(A6.out.shs HPP.out HX.out).n, HLL.out, HSA.out, HSC.out] at this
  exact this
 have htq : (0 : Int) < t := HT0.out
 have hix2 := index_better HROW6.out.sl (by have := HLK.out; omega) gm ((s : Int) + 1) p A6.out.bm.lt (A6.out.bm.cell 2) (A6.out.bm.cell 3)
 have hidx2 : idxV (fun y => betterP ((s : Int) + 1) p y.price) L = (-1 : Int) := by unfold idxV; rw [← HLL.out, HCB.out]
 rw [hidx2] at hix2
 have HIX2 := Lib.hid hix2
 clear hidx2 hix2
 go_wp2_with fail
 refine HIX2.out.mono ?_
 rintro e w7 ⟨rfl, hb⟩
 have A7 := Lib.hid (A6.out.below hb)
 have HROW7 := Lib.hid (HROW6.out.below hb)
 have hcb := HCB.out
 rw [HLL.out] at hcb
 have HCB2 := Lib.hid hcb
 clear hb HIX2 A6 HROW6 c6 m4 hcb HCB
 have c7 : w7.cell? ⟨go, i * 10 + s * 5, none⟩ = some (.slice sa L.length sc) := by
  have := side_cells A7.out.row HPP.out hs (f := 0) (u := .slice (pp.sh s).a (pp.sh s).n (pp.sh s).c) rfl
  rw [(A7.out.shs HPP.out HX.out).n, HLL.out, HSA.out, HSC.out] at this
  exact this
 have hat : L.length ≤ L.length := Nat.le_refl _
 go_upto_region 21 with (fail)
 have hS : w7.cell? ⟨gl, 0, none⟩ = some (.int .i64 p) ∧ w7.cell? ⟨gl, 1, none⟩ = some (.int .i64 t) ∧ w7.cell? ⟨gl, 2, none⟩ = some (.int .i64 c) ∧ w7.cell? ⟨go, i * 10 + s * 5, none⟩ = some (.slice sa L.length sc) := ⟨A7.out.bl.cell 0, A7.out.bl.cell 1, A7.out.bl.cell 2, c7⟩
 have hb8 : Below w7.heap.size w7 (w7.alloc (.cells #[.int .i64 p, .int .i64 t, .int .i64 c] 92)).drew := (Below.allocN w7 _).trans ((Below.drewN_of _ 1).mono (by simp))
 have A8 := Lib.hid (A7.out.below hb8)
 have HROW8 := Lib.hid (HROW7.out.below hb8)
 have hnb : Blk (w7.alloc (.cells #[.int .i64 p, .int .i64 t, .int .i64 c] 92)).drew w7.heap.size 92 (⟨p, t, c⟩ : Lv).cells.toArray := (Blk.new w7 _ _).drew
 have hne8 : (Value.slice sa L.length sc).ownBlock ≠ some w7.heap.size := fun h => by have := own_lt HROW7.out _ h; omega
 have HIN := Lib.hid (insert_anyL (i := L.length) (x := ⟨p, t, c⟩) HROW8.out hat hnb hne8 A8.out.bel.size (by have := HLK.out; omega))
 have hS8 : ∀ w', w' = (w7.alloc (.cells #[.int .i64 p, .int .i64 t, .int .i64 c] 92)).drew → w'.cell? ⟨gl, 0, none⟩ = some (.int .i64 p) ∧ w'.cell? ⟨gl, 1, none⟩ = some (.int .i64 t) ∧ w'.cell? ⟨gl, 2, none⟩ = some (.int .i64 c) ∧ w'.cell? ⟨go, i * 10 + s * 5, none⟩ = some (.slice sa L.length sc) := by
  rintro w' rfl
  exact ⟨A8.out.bl.cell 0, A8.out.bl.cell 1, A8.out.bl.cell 2, (hb8.cell (p := ⟨go, i * 10 + s * 5, none⟩) (own_lt A7.out.row go rfl)).trans hS.2.2.2⟩
 clear hb8 hnb hne8
 refine wp_region_E (S := fun w' => w'.cell? ⟨gl, 0, none⟩ = some (.int .i64 p) ∧ w'.cell? ⟨gl, 1, none⟩ = some (.int .i64 t) ∧ w'.cell? ⟨gl, 2, none⟩ = some (.int .i64 c) ∧ w'.cell? ⟨go, i * 10 + s * 5, none⟩ = some (.slice sa L.length sc)) (by kernel_rfl) hS (fun hHeld => ?_)
 refine wpE_tk 0 (oi := ?o1) (v := ?v1) ?h1 (by kernel_rfl) ?q1 ?y1 (by assumption) ?_
 case h1 => (simp only [List.getElem?_toArray]; rfl)
 case q1 => exact fun _ _ _ h => h
 case y1 => exact Or.inl ⟨by rfl, by (intro w hSw; (try dsimp only at hSw); go_simp; try with_reducible rfl)⟩
 try simp only [Act.put, sA, sB, sC]
 refine wpE_tk 1 (oi := ?o2) (v := ?v2) ?h2 (by kernel_rfl) ?q2 ?y2 (by assumption) ?_
 case h2 => (simp only [List.getElem?_toArray]; rfl)
 case q2 => exact fun _ _ _ h => h
 case y2 => exact Or.inl ⟨by rfl, by (intro w hSw; (try dsimp only at hSw); go_simp; try with_reducible rfl)⟩
 try simp only [Act.put, sA, sB, sC]
 refine wpE_tk 2 (oi := ?o3) (v := ?v3) ?h3 (by kernel_rfl) ?q3 ?y3 (by assumption) ?_
 case h3 => (simp only [List.getElem?_toArray]; rfl)
 case q3 => exact fun _ _ _ h => h
 case y3 => exact Or.inl ⟨by rfl, by (intro w hSw; (try dsimp only at hSw); go_simp; try with_reducible rfl)⟩
 try simp only [Act.put, sA, sB, sC]
 refine wpE_tk 3 (oi := ?o4) (v := ?v4) ?h4 (by kernel_rfl) ?q4 ?y4 (by assumption) ?_
 case h4 => (simp only [List.getElem?_toArray]; rfl)
 case q4 => exact fun _ _ _ h => h
 case y4 => exact Or.inl ⟨by rfl, by (intro w hSw; (try dsimp only at hSw); go_simp; try with_reducible rfl)⟩
 try simp only [Act.put, sA, sB, sC]
 refine wpE_tk 4 (oi := ?o5) (v := ?v5) ?h5 (by kernel_rfl) ?q5 ?y5 (by assumption) ?_
 case h5 => (simp only [List.getElem?_toArray]; rfl)
 case q5 => exact fun _ _ _ h => h
 case y5 => exact Or.inl ⟨by rfl, by (intro w hSw; (try dsimp only at hSw); go_simp; try with_reducible rfl)⟩
 try simp only [Act.put, sA, sB, sC]
 refine wpE_tk 5 (oi := ?o6) (v := ?v6) ?h6 (by kernel_rfl) ?q6 ?y6 (by assumption) ?_
 case h6 => (simp only [List.getElem?_toArray]; rfl)
 case q6 => exact fun _ _ _ h => h
 case y6 => exact Or.inl ⟨by rfl, by (intro w hSw; (try dsimp only at hSw); go_simp; try with_reducible rfl)⟩
 try simp only [Act.put, sA, sB, sC]
 refine wpE_tk 6 (oi := ?o7) (v := ?v7) ?h7 (by kernel_rfl) ?q7 ?y7 (by assumption) ?_
 case h7 => (simp only [List.getElem?_toArray]; rfl)
 case q7 => exact fun _ _ _ h => h
 case y7 => exact Or.inl ⟨by rfl, by (intro w hSw; (try dsimp only at hSw); go_simp; try with_reducible rfl)⟩
 try simp only [Act.put, sA, sB, sC]
 refine wpE_one (i := 7) (o := ?o10) ?ho10 (by kernel_rfl) (fun K hK => ?_)
 case ho10 => (simp only [List.getElem?_toArray]; rfl)
 go_simp
 refine hK.out _ _ (hS8 _ rfl) (fun hHeld => ?_)
 clear hK K hS8 hS c7
 generalize (w7.alloc (.cells #[.int .i64 p, .int .i64 t, .int .i64 c] 92)).drew = wB at *
 refine wpE_one (i := 8) (o := ?o11) ?ho11 (by kernel_rfl) (fun K hK => ?_)
 case ho11 => (simp only [List.getElem?_toArray]; rfl)
 go_simp
 refine HIN.out.mono ?_
 rintro e wC ⟨v2, rfl, hr9, hk9, _⟩
 obtain ⟨M, hMM⟩ : ∃ M, L.take L.length ++ [(⟨p, t, c⟩ : Lv)] ++ L.drop L.length = M := ⟨_, rfl⟩
 rw [hMM] at hr9
 obtain ⟨a2, c2, rfl⟩ := hr9.form
 have hne : ∀ g, (Value.slice sa L.length sc).ownBlock = some g → Tyd wB g LVL.t := fun g hg => own_tyd HROW8.out g hg
 have hbv7 := A8.out.bv.keeps hk9 (fun h => A8.out.bv.tyd.ne (hne _ h) (by decide) rfl)
 have hbr7 := A8.out.br.keeps hk9 (fun h => A8.out.br.tyd.ne (hne _ h) (by decide) rfl)
 have hrow7 := A8.out.row.keep hk9 (fun g hg h => hg.ne (hne _ h) (by decide) rfl)
 have htg7 : Tyd wC go PRL.t := own_tyd hrow7 go rfl
 have hr8 := Row.putF hrow7 HPP.out hs (f := 0) (by decide) (x := ⟨a2, M.length, c2, (pp.sh s).im, (pp.sh s).has⟩) (u := .slice a2 M.length c2) rfl
 rw [Nat.add_zero] at hr8
 have HR8 := Lib.hid hr8
 have BV8 := Lib.hid (hbv7.far (p := ⟨go, i * 10 + s * 5, none⟩) (hbv7.tyd.ne htg7 (by decide)) (.slice a2 M.length c2))
 have BR8 := Lib.hid (hbr7.far (p := ⟨go, i * 10 + s * 5, none⟩) (hbr7.tyd.ne htg7 (by decide)) (.slice a2 M.length c2))
 have HL8 := Lib.hid (Lay.Row.far (Y := LVL) hr9 htg7 (by decide) (i * 10 + s * 5) (.slice a2 M.length c2))
 have HK8 := Lib.hid (((hk9.more (G := fun g => (Value.slice sa L.length sc).ownBlock = some g ∨ g = go) fun g h => .inl h).trans ((keep1 wC go (i * 10 + s * 5) (.slice a2 M.length c2)).more fun g h => .inr h)))
 have hgl7 := A8.out.bl.keeps hk9 (fun h => by have := NGO.out gl (by rw [HOWN.out]; exact h); omega)
 have c9 : wC.cell? ⟨go, i * 10 + s * 5, none⟩ = some (.slice sa L.length sc) := by
  have := side_cells hrow7 HPP.out hs (f := 0) (u := .slice (pp.sh s).a (pp.sh s).n (pp.sh s).c) rfl
  rw [(A8.out.shs HPP.out HX.out).n, HLL.out, HSA.out, HSC.out] at this
  exact this
 have HZ9 := Lib.hid (fun o => Row.fzG hrow7 HPP.out o)
 have ET := Lib.hid (own_tyd A8.out.row go rfl)
 have E0 : Hid (w.heap.size ≤ go) := Lib.hid (own_base A8.out.row go rfl)
 have EO := Lib.hid (own_base HROW8.out)
 have HM9 := Lib.hid hMM
 refine hK.out _ _ ⟨hgl7.cell 0, hgl7.cell 1, hgl7.cell 2, c9⟩ (fun hHeld => ?_)
 clear hK K hne hbv7 hbr7 hrow7 htg7 hr8 hr9 hk9 hgl7 hMM HIN
 refine wpE_tk 9 (oi := ?o8) (v := ?v8) ?h8 (by kernel_rfl) ?q8 ?y8 (by assumption) ?_
 case h8 => (simp only [List.getElem?_toArray]; rfl)
 case q8 => exact fun _ _ _ h => h
 case y8 => exact Or.inl ⟨by rfl, by (intro w hSw; (try dsimp only at hSw); go_simp; try with_reducible rfl)⟩
 try simp only [Act.put, sA, sB, sC]
 refine wpE_tk 10 (oi := ?o9) (v := ?v9) ?h9 (by kernel_rfl) ?q9 ?y9 (by assumption) ?_
 case h9 => (simp only [List.getElem?_toArray]; rfl)
 case q9 => exact fun _ _ _ h => h
 case y9 => exact Or.inl ⟨by rfl, by (intro w hSw; (try dsimp only at hSw); go_simp; try with_reducible rfl)⟩
 try simp only [Act.put, sA, sB, sC]
 refine wpE_last (i := 11) (o := ?o12) ?ho12 (by kernel_rfl) (by kernel_rfl) (by kernel_rfl) (fun K hK => ?_)
 case ho12 => (simp only [List.getElem?_toArray]; rfl)
 have hz9 := HZ9.out
 go_simp
 refine hK.out _ _ ?_
 clear hK K hHeld hz9 c9 HZ9
 generalize wC.setCell ⟨go, i * 10 + s * 5, none⟩ (.slice a2 M.length c2) = w8 at *
 have hup : updP ⟨q, i, (s : Int) + 1, p, t, c, false⟩ L = M := by
  unfold updP
  rw [HCL.out]
  dsimp only
  rw [if_pos HT0.out, HCB2.out, ← HM9.out]
  simp [Mg.lv]
 have HUP := Lib.hid hup
 clear hup
 have v0 : w8.cell? ⟨gv, 0, none⟩ = some (.slice (some ⟨go, 0, none⟩) V.length cap) := BV8.out.cell 0
 have r0 : w8.cell? ⟨gr, 0, none⟩ = some (.slice none 0 0) := BR8.out.cell 0
 have rz : w8.frozen? ⟨gr, 0, none⟩ = false := BR8.out.frozen 0
 have HMM2 : Hid ((sdOf x s).app ⟨q, i, (s : Int) + 1, p, t, c, false⟩ = ⟨M, (sdOf x s).im, (sdOf x s).has⟩) := Lib.hid (by rw [HMM.out, HUP.out])
 have HVF := Lib.hid (A8.out.done (sh := ⟨a2, M.length, c2, (pp.sh s).im, (pp.sh s).has⟩) (d := ⟨M, (sdOf x s).im, (sdOf x s).has⟩) HPL.out HAP.out HPP.out HX.out hs HK8.out (fun g hg h => by rcases h with h | h; exact HOWN.out.trans h; exact absurd h (hg.ne ET.out (by decide))) HR8.out ⟨rfl, HL8.out, HIM.out, HHAS.out⟩ BR8.out.tyd HMM2.out (.slice (some ⟨go, 0, none⟩) V.length cap))
 have HBF := Lib.hid ((A8.out.bel.trans (HK8.out.below (B := w.heap.size) (fun k hk => by rcases hk with h | h; exact EO.out k h; rw [h]; exact E0.out) A8.out.bel.size)).setCell (p := ⟨gr, 0, none⟩) N5.out (.slice (some ⟨go, 0, none⟩) V.length cap))
 have HKF : Hid (Blk (w8.setCell ⟨gr, 0, none⟩ (.slice (some ⟨go, 0, none⟩) V.length cap)) gr 50 #[.slice (some ⟨go, 0, none⟩) V.length cap]) := Lib.hid (BR8.out.set_ 0 _)
 go_wp2_with fail
 clear v0 r0 rz
 generalize w8.setCell ⟨gr, 0, none⟩ (.slice (some ⟨go, 0, none⟩) V.length cap) = wf at *
 have f0 : wf.cell? ⟨gr, 0, none⟩ = some (.slice (some ⟨go, 0, none⟩) V.length cap) := HKF.out.cell 0
 refine bodyPost_ret (v := .tuple #[.agg #[.slice (some ⟨go, 0, none⟩) V.length cap], .int .i64 0]) (by simp [results, Try.results52, go_sem, f0]) rfl ⟨_, rfl, HVF.out, HBF.out⟩
end Go.Proofs.Ytmaijkoopjocdaa
