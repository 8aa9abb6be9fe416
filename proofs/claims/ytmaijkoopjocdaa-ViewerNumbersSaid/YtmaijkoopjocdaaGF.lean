/- Merged: App1 App2 App3. -/
import Derived.Test.YtmaijkoopjocdaaGE
/- The walk of feed.Apply: what is implied. -/
namespace Go.Proofs.Ytmaijkoopjocdaa
open Go.RowKit Go.Lib

set_option maxRecDepth 20000 in
set_option maxHeartbeats 16000000 in
theorem apply_imp {w : World} {B : Nat} {v : Value} {V : Vw} (h : VO PRL LVL w B v V) (hl : V.length ≤ 255) {K : Nat} (hK : LenV V K) (hK2 : K ≤ 800000) {q p t c : Int} {i s : Nat} (hi : i < V.length) (hs : s < 2) (hf0 : fineC V.length ⟨q, i, (s : Int) + 1, p, t, c, true⟩ = 0) :
  Calls Try.prog 52 #[.agg #[v], .agg #[.int .i64 q, .int .i64 i, .int .i64 ((s : Int) + 1), .int .i64 p, .int .i64 t, .int .i64 c, .bool true]] w fun e w' => ∃ v', e = .returned (.tuple #[.agg #[v'], .int .i64 0]) ∧ VO PRL LVL w' w.heap.size v' (appV ⟨q, i, (s : Int) + 1, p, t, c, true⟩ V) ∧ Below w.heap.size w w' := by
 obtain ⟨a, cv, rfl⟩ := h.form
 obtain ⟨im, him⟩ : ∃ im, true = im := ⟨_, rfl⟩
 have hz1 : (w.alloc (.cells #[.slice a V.length cv] 50)).heap.size = w.heap.size + 1 := by simp
 have hz2 : ((w.alloc (.cells #[.slice a V.length cv] 50)).alloc (.cells #[.int .i64 q, .int .i64 (i : Int), .int .i64 ((s : Int) + 1), .int .i64 p, .int .i64 t, .int .i64 c, .bool im] 34)).heap.size = w.heap.size + 1 + 1 := by simp
 have hb1 := Below.allocN w (.cells #[.slice a V.length cv] 50)
 have hb2 := hb1.trans ((Below.allocN (w.alloc (.cells #[.slice a V.length cv] 50)) (.cells #[.int .i64 q, .int .i64 (i : Int), .int .i64 ((s : Int) + 1), .int .i64 p, .int .i64 t, .int .i64 c, .bool im] 34)).mono hb1.size)
 have hb3 := hb2.trans ((Below.allocN ((w.alloc (.cells #[.slice a V.length cv] 50)).alloc (.cells #[.int .i64 q, .int .i64 (i : Int), .int .i64 ((s : Int) + 1), .int .i64 p, .int .i64 t, .int .i64 c, .bool im] 34)) (.cells #[.slice none 0 0] 50)).mono hb2.size)
 have hgv : Blk (((w.alloc (.cells #[.slice a V.length cv] 50)).alloc (.cells #[.int .i64 q, .int .i64 (i : Int), .int .i64 ((s : Int) + 1), .int .i64 p, .int .i64 t, .int .i64 c, .bool im] 34)).alloc (.cells #[.slice none 0 0] 50)) w.heap.size 50 #[.slice a V.length cv] := ((Blk.new w _ _).alloc _).alloc _
 have hgm : Blk (((w.alloc (.cells #[.slice a V.length cv] 50)).alloc (.cells #[.int .i64 q, .int .i64 (i : Int), .int .i64 ((s : Int) + 1), .int .i64 p, .int .i64 t, .int .i64 c, .bool im] 34)).alloc (.cells #[.slice none 0 0] 50)) (w.heap.size + 1) 34 #[.int .i64 q, .int .i64 (i : Int), .int .i64 ((s : Int) + 1), .int .i64 p, .int .i64 t, .int .i64 c, .bool im] := by
  have := (Blk.new (w.alloc (.cells #[.slice a V.length cv] 50)) 34 #[.int .i64 q, .int .i64 (i : Int), .int .i64 ((s : Int) + 1), .int .i64 p, .int .i64 t, .int .i64 c, .bool im]).alloc (.cells #[.slice none 0 0] 50)
  rwa [hz1] at this
 have hgr : Blk (((w.alloc (.cells #[.slice a V.length cv] 50)).alloc (.cells #[.int .i64 q, .int .i64 (i : Int), .int .i64 ((s : Int) + 1), .int .i64 p, .int .i64 t, .int .i64 c, .bool im] 34)).alloc (.cells #[.slice none 0 0] 50)) (w.heap.size + 1 + 1) 50 #[.slice none 0 0] := by
  have := Blk.new ((w.alloc (.cells #[.slice a V.length cv] 50)).alloc (.cells #[.int .i64 q, .int .i64 (i : Int), .int .i64 ((s : Int) + 1), .int .i64 p, .int .i64 t, .int .i64 c, .bool im] 34)) 50 #[.slice none 0 0]
  rwa [hz2] at this
 have hfc := fine_any V.length ⟨q, i, (s : Int) + 1, p, t, c, im⟩ (((w.alloc (.cells #[.slice a V.length cv] 50)).alloc (.cells #[.int .i64 q, .int .i64 (i : Int), .int .i64 ((s : Int) + 1), .int .i64 p, .int .i64 t, .int .i64 c, .bool im] 34)).alloc (.cells #[.slice none 0 0] 50))
 rw [him] at hf0
 rw [hf0] at hfc
 unfold Mg.agg at hfc
 dsimp only at hfc
 have HVO := Lib.hid (h.below hb3)
 have HKK := Lib.hid hK
 obtain ⟨x, hx⟩ : ∃ x, V[i]? = some x := ⟨_, List.getElem?_eq_getElem hi⟩
 have HX := Lib.hid hx
 have HIM := Lib.hid him
 have HC := Lib.hid hfc
 have HB3 := Lib.hid hb3
 have HGV := Lib.hid hgv
 have HGM := Lib.hid hgm
 have HGR := Lib.hid hgr
 rw [him]
 clear h hK hx him hz1 hz2 hb1 hb2 hb3 hgv hgm hgr hfc hf0
 go_enter Try.func52, Try.ntmps52
 go_upto_region 1 with (fail)
 obtain ⟨w1, hw1⟩ : ∃ w1, (((w.alloc (.cells #[.slice a V.length cv] 50)).alloc (.cells #[.int .i64 q, .int .i64 (i : Int), .int .i64 ((s : Int) + 1), .int .i64 p, .int .i64 t, .int .i64 c, .bool im] 34)).alloc (.cells #[.slice none 0 0] 50)) = w1 := ⟨_, rfl⟩
 obtain ⟨gv, hgv⟩ : ∃ gv, w.heap.size = gv := ⟨_, rfl⟩
 obtain ⟨gm, hgm⟩ : ∃ gm, w.heap.size + 1 = gm := ⟨_, rfl⟩
 obtain ⟨gr, hgr⟩ : ∃ gr, w.heap.size + 1 + 1 = gr := ⟨_, rfl⟩
 rw [hw1] at HVO HB3 HGV HGM HGR HC ⊢
 rw [hgr] at HGR ⊢
 rw [hgm] at HGM ⊢
 rw [hgv] at HGV ⊢
 have N1 : Hid (gv ≠ gr) := Lib.hid (by omega)
 have N2 : Hid (gm ≠ gr) := Lib.hid (by omega)
 have N4 : Hid (gv ≠ gm) := Lib.hid (by omega)
 have N3 : Hid (w.heap.size ≤ gv) := Lib.hid (by omega)
 have N5 : Hid (w.heap.size ≤ gr) := Lib.hid (by omega)
 clear hw1 hgv hgm hgr
 have b0 : w1.cell? ⟨gv, 0, none⟩ = some (.slice a V.length cv) := HGV.out.cell 0
 have m0 : w1.cell? ⟨gm, 0, none⟩ = some (.int .i64 q) := HGM.out.cell 0
 have m1 : w1.cell? ⟨gm, 1, none⟩ = some (.int .i64 (i : Int)) := HGM.out.cell 1
 have m2 : w1.cell? ⟨gm, 2, none⟩ = some (.int .i64 ((s : Int) + 1)) := HGM.out.cell 2
 have m3 : w1.cell? ⟨gm, 3, none⟩ = some (.int .i64 p) := HGM.out.cell 3
 have m4 : w1.cell? ⟨gm, 4, none⟩ = some (.int .i64 t) := HGM.out.cell 4
 have m5 : w1.cell? ⟨gm, 5, none⟩ = some (.int .i64 c) := HGM.out.cell 5
 have m6 : w1.cell? ⟨gm, 6, none⟩ = some (.bool im) := HGM.out.cell 6
 go_wp2_with fail
 refine HC.out.mono ?_
 rintro e w2 ⟨rfl, hb⟩
 replace HGV := Lib.hid (HGV.out.below hb)
 replace HGM := Lib.hid (HGM.out.below hb)
 replace HGR := Lib.hid (HGR.out.below hb)
 replace HVO := Lib.hid (HVO.out.below hb)
 replace HB3 := Lib.hid (HB3.out.trans (hb.mono HB3.out.size))
 clear hb HC b0 m0 m1 m2 m3 m4 m5 m6
 have b0 : w2.cell? ⟨gv, 0, none⟩ = some (.slice a V.length cv) := HGV.out.cell 0
 go_wp2_with fail
 refine (copy_any HVO.out hl HKK.out (by omega)).mono ?_
 rintro e w3 ⟨v', rfl, ⟨P, hP, hPl, hPs, hAp⟩, hb⟩
 obtain ⟨pp, hpp⟩ : ∃ p, P[i]? = some p := ⟨_, List.getElem?_eq_getElem (by omega)⟩
 obtain ⟨go, cap, he, _, _⟩ := hP.at_ i pp hpp
 rw [hPl] at he
 subst he
 have hg3 := HGV.out.below hb
 have hbb := HB3.out.trans (hb.mono HB3.out.size)
 have hst := keep1 w3 gv 0 (.slice (some ⟨go, 0, none⟩) V.length cap)
 have hW : w.heap.size ≤ w2.heap.size := HB3.out.size
 have HP := Lib.hid ((hP.base hW).far hg3.tyd (by decide) 0 (.slice (some ⟨go, 0, none⟩) V.length cap))
 have HPS : Hid (∀ (j : Nat) (p : Pr) (x : Sd × Sd), P[j]? = some p → V[j]? = some x → ShO LVL (w3.setCell ⟨gv, 0, none⟩ (.slice (some ⟨go, 0, none⟩) V.length cap)) w.heap.size p.s x.1 ∧ ShO LVL (w3.setCell ⟨gv, 0, none⟩ (.slice (some ⟨go, 0, none⟩) V.length cap)) w.heap.size p.t x.2) := Lib.hid fun j p x hp hx => ⟨((hPs j p x hp hx).1.base hW).far hg3.tyd (by decide) 0 _, ((hPs j p x hp hx).2.base hW).far hg3.tyd (by decide) 0 _⟩
 have HPL := Lib.hid hPl
 have HAP := Lib.hid hAp
 have HPP := Lib.hid hpp
 have HGM2 := Lib.hid ((HGM.out.below hb).far (p := ⟨gv, 0, none⟩) (Ne.symm N4.out) (.slice (some ⟨go, 0, none⟩) V.length cap))
 have HGR2 := Lib.hid ((HGR.out.below hb).far (p := ⟨gv, 0, none⟩) (Ne.symm N1.out) (.slice (some ⟨go, 0, none⟩) V.length cap))
 have HGV2 : Hid (Blk (w3.setCell ⟨gv, 0, none⟩ (.slice (some ⟨go, 0, none⟩) V.length cap)) gv 50 #[.slice (some ⟨go, 0, none⟩) V.length cap]) := Lib.hid (hg3.set_ 0 _)
 have HB4 := Lib.hid (hbb.setCell (p := ⟨gv, 0, none⟩) N3.out (.slice (some ⟨go, 0, none⟩) V.length cap))
 have b3 : w3.cell? ⟨gv, 0, none⟩ = some (.slice a V.length cv) := hg3.cell 0
 have fz3 : w3.frozen? ⟨gv, 0, none⟩ = false := hg3.frozen 0
 clear hP hPl hPs hAp hpp hg3 hbb hst hW hb b0 HGV HGM HGR HVO HB3
 go_upto_region 5 with (fail)
 clear b3 fz3
 generalize w3.setCell ⟨gv, 0, none⟩ (.slice (some ⟨go, 0, none⟩) V.length cap) = w4 at *
 have b4 : w4.cell? ⟨gv, 0, none⟩ = some (.slice (some ⟨go, 0, none⟩) V.length cap) := HGV2.out.cell 0
 have m0 : w4.cell? ⟨gm, 0, none⟩ = some (.int .i64 q) := HGM2.out.cell 0
 have m1 : w4.cell? ⟨gm, 1, none⟩ = some (.int .i64 (i : Int)) := HGM2.out.cell 1
 have m2 : w4.cell? ⟨gm, 2, none⟩ = some (.int .i64 ((s : Int) + 1)) := HGM2.out.cell 2
 have m3 : w4.cell? ⟨gm, 3, none⟩ = some (.int .i64 p) := HGM2.out.cell 3
 have m4 : w4.cell? ⟨gm, 4, none⟩ = some (.int .i64 t) := HGM2.out.cell 4
 have m5 : w4.cell? ⟨gm, 5, none⟩ = some (.int .i64 c) := HGM2.out.cell 5
 have m6 : w4.cell? ⟨gm, 6, none⟩ = some (.bool im) := HGM2.out.cell 6
 have y1 : IntKind.i64.wrap ((s : Int) + 1 - 1) = (s : Int) := by rw [IntWalk.i64_in _ (by omega)]; omega
 have y2 : (s : Int) + 1 - 1 = (s : Int) := by omega
 have hi2 : (i : Int) < (V.length : Int) := by omega
 have hs2 : (s : Int) < 2 := by omega
 go_quiet (fail)
 have hbq := (Below.drewN_of w4 nq).trans ((Below.allocN (w4.drewN nq) (.cells #[.int .i64 p, .int .i64 t, .int .i64 c] 92)).mono (Nat.le_refl _))
 obtain ⟨gl, hgl⟩ : ∃ gl, w4.heap.size = gl := ⟨_, rfl⟩
 have hap5 : AP w ((w4.drewN nq).alloc (.cells #[.int .i64 p, .int .i64 t, .int .i64 c] 92)) gv gm gr gl go cap V P q p t c i s im := by
  refine ⟨HGV2.out.below hbq, HGM2.out.below hbq, HGR2.out.below hbq, ?_, HP.out.below hbq, fun j p x hp hx => ⟨(HPS.out j p x hp hx).1.below hbq, (HPS.out j p x hp hx).2.below hbq⟩, HB4.out.trans (hbq.mono HB4.out.size)⟩
  rw [← hgl]
  exact Blk.new (w4.drewN nq) _ _
 have A5 := Lib.hid hap5
 have NGO : Hid (∀ g, (pp.sh s).own = some g → g < gl) := Lib.hid (by
  intro g hg
  have hh := HPS.out i pp x HPP.out HX.out
  rw [← hgl]
  unfold Pr.sh at hg
  split at hg
  ·exact own_lt hh.1.row g hg
  ·exact own_lt hh.2.row g hg)
 have N6 : Hid (w.heap.size ≤ gl) := Lib.hid (by rw [← hgl]; exact HB4.out.size)
 have hgz : (w4.drewN nq).heap.size = gl := hgl
 go_upto_region 7 with (fail)
 clear hap5 hbq hgl hgz HGV2 HGM2 HGR2 HP HPS HB4 b4 m0 m1 m2 m3 m4 m5 m6 y1 y2
 generalize (w4.drewN nq).alloc (.cells #[.int .i64 p, .int .i64 t, .int .i64 c] 92) = w5 at *
 have him := HIM.out
 subst him
 clear HIM
 have m6 : w5.cell? ⟨gm, 6, none⟩ = some (.bool true) := A5.out.bm.cell 6
 go_upto_region 8 with (fail)
 clear m6
 have hS : w5.cell? ⟨gl, 0, none⟩ = some (.int .i64 p) ∧ w5.cell? ⟨gl, 1, none⟩ = some (.int .i64 t) ∧ w5.cell? ⟨gl, 2, none⟩ = some (.int .i64 c) ∧ w5.cell? ⟨gm, 4, none⟩ = some (.int .i64 t) := ⟨A5.out.bl.cell 0, A5.out.bl.cell 1, A5.out.bl.cell 2, A5.out.bm.cell 4⟩
 refine wp_region_E (S := fun w' => w'.cell? ⟨gl, 0, none⟩ = some (.int .i64 p) ∧ w'.cell? ⟨gl, 1, none⟩ = some (.int .i64 t) ∧ w'.cell? ⟨gl, 2, none⟩ = some (.int .i64 c) ∧ w'.cell? ⟨gm, 4, none⟩ = some (.int .i64 t)) (by kernel_rfl) hS (fun hHeld => ?_)
 refine wpE_tk 0 (oi := ?o1) (v := ?v1) ?h1 (by kernel_rfl) ?q1 ?y1 (by assumption) ?_
 case h1 => (simp only [List.getElem?_toArray]; rfl)
 case q1 => exact fun _ _ _ h => h
 case y1 => exact Or.inl ⟨by rfl, by (intro w hSw; (try dsimp only at hSw); go_simp; try with_reducible rfl)⟩
 try simp only [Act.put, sA, sB, sC]
 refine wpE_tk 1 (oi := ?o2) (v := ?v2) ?h2 (by kernel_rfl) ?q2 ?y2 (by assumption) ?_
 case h2 => (simp only [List.getElem?_toArray]; rfl)
 case q2 => exact fun _ _ _ h => h
 case y2 => exact Or.inl ⟨by rfl, by (intro w hSw; (try dsimp only at hSw); go_simp; try with_reducible rfl)⟩
 try simp only [Act.put, sA, sB, sC]
 refine wpE_tk 2 (oi := ?o3) (v := ?v3) ?h3 (by kernel_rfl) ?q3 ?y3 (by assumption) ?_
 case h3 => (simp only [List.getElem?_toArray]; rfl)
 case q3 => exact fun _ _ _ h => h
 case y3 => exact Or.inl ⟨by rfl, by (intro w hSw; (try dsimp only at hSw); go_simp; try with_reducible rfl)⟩
 try simp only [Act.put, sA, sB, sC]
 refine wpE_tk 3 (oi := ?o4) (v := ?v4) ?h4 (by kernel_rfl) ?q4 ?y4 (by assumption) ?_
 case h4 => (simp only [List.getElem?_toArray]; rfl)
 case q4 => exact fun _ _ _ h => h
 case y4 => exact Or.inl ⟨by rfl, by (intro w hSw; (try dsimp only at hSw); go_simp; try with_reducible rfl)⟩
 try simp only [Act.put, sA, sB, sC]
 refine wpE_tk 4 (oi := ?o5) (v := ?v5) ?h5 (by kernel_rfl) ?q5 ?y5 (by assumption) ?_
 case h5 => (simp only [List.getElem?_toArray]; rfl)
 case q5 => exact fun _ _ _ h => h
 case y5 => exact Or.inl ⟨by rfl, by (intro w hSw; (try dsimp only at hSw); go_simp; try with_reducible rfl)⟩
 try simp only [Act.put, sA, sB, sC]
 refine wpE_tk 5 (oi := ?o6) (v := ?v6) ?h6 (by kernel_rfl) ?q6 ?y6 (by assumption) ?_
 case h6 => (simp only [List.getElem?_toArray]; rfl)
 case q6 => exact fun _ _ _ h => h
 case y6 => exact Or.inl ⟨by rfl, by (intro w hSw; (try dsimp only at hSw); go_simp; try with_reducible rfl)⟩
 try simp only [Act.put, sA, sB, sC]
 refine wpE_tk 6 (oi := ?o7) (v := ?v7) ?h7 (by kernel_rfl) ?q7 ?y7 (by assumption) ?_
 case h7 => (simp only [List.getElem?_toArray]; rfl)
 case q7 => exact fun _ _ _ h => h
 case y7 => exact Or.inl ⟨by rfl, by (intro w hSw; (try dsimp only at hSw); go_simp; try with_reducible rfl)⟩
 try simp only [Act.put, sA, sB, sC]
 refine wpE_tk 7 (oi := ?o8) (v := ?v8) ?h8 (by kernel_rfl) ?q8 ?y8 (by assumption) ?_
 case h8 => (simp only [List.getElem?_toArray]; rfl)
 case q8 => exact fun _ _ _ h => h
 case y8 => exact Or.inl ⟨by rfl, by (intro w hSw; (try dsimp only at hSw); go_simp; try with_reducible rfl)⟩
 try simp only [Act.put, sA, sB, sC]
 refine wpE_one (i := 8) (o := ?o11) ?ho11 (by kernel_rfl) (fun K hK => ?_)
 case ho11 => (simp only [List.getElem?_toArray]; rfl)
 have k1 : w5.cell? ⟨go, i * 10 + s * 5 + 1, none⟩ = some (.int .i64 (pp.sh s).im.price) := side_cells A5.out.row HPP.out hs rfl
 have k2 : w5.cell? ⟨go, i * 10 + s * 5 + 2, none⟩ = some (.int .i64 (pp.sh s).im.qty) := side_cells A5.out.row HPP.out hs rfl
 have k3 : w5.cell? ⟨go, i * 10 + s * 5 + 3, none⟩ = some (.int .i64 (pp.sh s).im.count) := side_cells A5.out.row HPP.out hs rfl
 have kz := A5.out.fz HPP.out
 go_simp
 have hk6 := (keep3 w5 go (i * 10 + s * 5) (.int .i64 p) (.int .i64 t) (.int .i64 c)).trans (Below.keeps (Below.drewN_of _ 1))
 have hr6 := (Row.putI A5.out.row HPP.out hs ⟨p, t, c⟩).below (Below.drewN_of _ 1)
 have htg : Tyd w5 go PRL.t := own_tyd A5.out.row go rfl
 have e1 : gv ≠ go := A5.out.bv.tyd.ne htg (by decide)
 have e2 : gm ≠ go := A5.out.bm.tyd.ne htg (by decide)
 have e3 : gr ≠ go := A5.out.br.tyd.ne htg (by decide)
 have e4 : gl ≠ go := A5.out.bl.tyd.ne htg (by decide)
 have E0 : Hid (w.heap.size ≤ go) := Lib.hid (own_base A5.out.row go rfl)
 have ET := Lib.hid htg
 have bv6 := Lib.hid (A5.out.bv.keeps hk6 e1)
 have bm6 := Lib.hid (A5.out.bm.keeps hk6 e2)
 have br6 := Lib.hid (A5.out.br.keeps hk6 e3)
 have bl6 := Lib.hid (A5.out.bl.keeps hk6 e4)
 have HK6 := Lib.hid hk6
 have HR6 := Lib.hid hr6
 have E3 := Lib.hid e3
 clear hk6 hr6 htg e1 e2 e3 e4 k1 k2 k3 kz
 obtain ⟨w6, hw6⟩ : ∃ w6, (((w5.setCell ⟨go, i * 10 + s * 5 + 1, none⟩ (.int .i64 p)).setCell ⟨go, i * 10 + s * 5 + 1 + 1, none⟩ (.int .i64 t)).setCell ⟨go, i * 10 + s * 5 + 1 + 2, none⟩ (.int .i64 c)).drew = w6 := ⟨_, rfl⟩
 have hdr : ∀ u : World, u.drewN 1 = u.drew := fun _ => rfl
 rw [hdr, hw6] at HK6 HR6
 replace bv6 : Hid (Blk w6 gv 50 #[.slice (some ⟨go, 0, none⟩) V.length cap]) := Lib.hid (by rw [← hw6]; exact bv6.out)
 replace bm6 : Hid (Blk w6 gm 34 #[.int .i64 q, .int .i64 i, .int .i64 ((s : Int) + 1), .int .i64 p, .int .i64 t, .int .i64 c, .bool true]) := Lib.hid (by rw [← hw6]; exact bm6.out)
 replace br6 : Hid (Blk w6 gr 50 #[.slice none 0 0]) := Lib.hid (by rw [← hw6]; exact br6.out)
 replace bl6 : Hid (Blk w6 gl 92 #[.int .i64 p, .int .i64 t, .int .i64 c]) := Lib.hid (by rw [← hw6]; exact bl6.out)
 rw [hw6]
 refine hK.out _ _ ⟨bl6.out.cell 0, bl6.out.cell 1, bl6.out.cell 2, bm6.out.cell 4⟩ (fun hHeld => ?_)
 clear hK K hdr hw6 hS
 refine wpE_tk 9 (oi := ?o9) (v := ?v9) ?h9 (by kernel_rfl) ?q9 ?y9 (by assumption) ?_
 case h9 => (simp only [List.getElem?_toArray]; rfl)
 case q9 => exact fun _ _ _ h => h
 case y9 => exact Or.inl ⟨by rfl, by (intro w hSw; (try dsimp only at hSw); go_simp; try with_reducible rfl)⟩
 try simp only [Act.put, sA, sB, sC]
 refine wpE_tk 10 (oi := ?o10) (v := ?v10) ?h10 (by kernel_rfl) ?q10 ?y10 (by assumption) ?_
 case h10 => (simp only [List.getElem?_toArray]; rfl)
 case q10 => exact fun _ _ _ h => h
 case y10 => exact Or.inl ⟨by rfl, by (intro w hSw; (try dsimp only at hSw); go_simp; try with_reducible rfl)⟩
 try simp only [Act.put, sA, sB, sC]
 refine wpE_last (i := 11) (o := ?o12) ?ho12 (by kernel_rfl) (by kernel_rfl) (by kernel_rfl) (fun K hK => ?_)
 case ho12 => (simp only [List.getElem?_toArray]; rfl)
 have k4 : w6.cell? ⟨go, i * 10 + s * 5 + 4, none⟩ = some (.bool (pp.sh s).has) := side_cells HR6.out (set_self HPP.out _) hs (by rw [Pr.put_sh]; rfl)
 have kz : w6.frozen? ⟨go, i * 10 + s * 5 + 4, none⟩ = false := Row.fzG HR6.out (set_self HPP.out _) _
 go_simp
 refine hK.out _ _ ?_
 have hk7 := HK6.out.trans (keep1 w6 go (i * 10 + s * 5 + 4) (.bool (decide (0 < t))))
 have hr7 := Row.putF HR6.out (set_self HPP.out _) hs (f := 4) (by decide) (x := ⟨(pp.sh s).a, (pp.sh s).n, (pp.sh s).c, ⟨p, t, c⟩, decide (0 < t)⟩) (u := .bool (decide (0 < t))) (by rw [Pr.put_sh]; rfl)
 rw [List.set_set, Pr.put_put] at hr7
 have e1 : gv ≠ go := A5.out.bv.tyd.ne ET.out (by decide)
 have bv7 := Lib.hid (bv6.out.far (p := ⟨go, i * 10 + s * 5 + 4, none⟩) e1 (.bool (decide (0 < t))))
 have br7 := Lib.hid (br6.out.far (p := ⟨go, i * 10 + s * 5 + 4, none⟩) E3.out (.bool (decide (0 < t))))
 have HK7 := Lib.hid hk7
 have HR7 := Lib.hid hr7
 clear hK K k4 kz hHeld hk7 hr7 e1 bv6 bm6 br6 bl6 HK6 HR6
 generalize w6.setCell ⟨go, i * 10 + s * 5 + 4, none⟩ (.bool (decide (0 < t))) = w7 at *
 have k4 : w7.cell? ⟨go, i * 10 + s * 5 + 4, none⟩ = some (.bool (decide (0 < t))) := side_cells HR7.out (set_self HPP.out _) hs (by rw [Pr.put_sh]; rfl)
 by_cases ht : 0 < t
 ·have HD2 : Hid (decide (0 < t) = true) := Lib.hid (decide_eq_true ht)
  have hm : (sdOf x s).app ⟨q, i, (s : Int) + 1, p, t, c, true⟩ = ⟨(sdOf x s).lv, ⟨p, t, c⟩, true⟩ := by unfold Sd.app; rw [if_pos rfl, if_pos ht]; rfl
  have HMM := Lib.hid hm
  clear hm
  have v0 : w7.cell? ⟨gv, 0, none⟩ = some (.slice (some ⟨go, 0, none⟩) V.length cap) := bv7.out.cell 0
  have r0 : w7.cell? ⟨gr, 0, none⟩ = some (.slice none 0 0) := br7.out.cell 0
  have rz : w7.frozen? ⟨gr, 0, none⟩ = false := br7.out.frozen 0
  have HVF := Lib.hid (A5.out.done (d := ⟨(sdOf x s).lv, ⟨p, t, c⟩, true⟩) HPL.out HAP.out HPP.out HX.out hs HK7.out (fun g hg e => absurd e (hg.ne ET.out (by decide))) HR7.out (⟨(A5.out.shs HPP.out HX.out).n, (A5.out.shs HPP.out HX.out).row.keep HK7.out (fun g hg e => hg.ne ET.out (by decide) e), rfl, HD2.out⟩) br7.out.tyd HMM.out (.slice (some ⟨go, 0, none⟩) V.length cap))
  have HBF := Lib.hid ((A5.out.bel.trans (HK7.out.below (B := w.heap.size) (fun k hk => by have hk2 : k = go := hk; rw [hk2]; exact E0.out) A5.out.bel.size)).setCell (p := ⟨gr, 0, none⟩) N5.out (.slice (some ⟨go, 0, none⟩) V.length cap))
  have HKF : Hid (Blk (w7.setCell ⟨gr, 0, none⟩ (.slice (some ⟨go, 0, none⟩) V.length cap)) gr 50 #[.slice (some ⟨go, 0, none⟩) V.length cap]) := Lib.hid (br7.out.set_ 0 _)
  rw [HD2.out] at k4
  go_wp2_with fail
  clear v0 r0 rz
  generalize w7.setCell ⟨gr, 0, none⟩ (.slice (some ⟨go, 0, none⟩) V.length cap) = wf at *
  have f0 : wf.cell? ⟨gr, 0, none⟩ = some (.slice (some ⟨go, 0, none⟩) V.length cap) := HKF.out.cell 0
  refine bodyPost_ret (v := .tuple #[.agg #[.slice (some ⟨go, 0, none⟩) V.length cap], .int .i64 0]) (by simp [results, Try.results52, go_sem, f0]) rfl ⟨_, rfl, HVF.out, HBF.out⟩
 ·have HD2 : Hid (decide (0 < t) = false) := Lib.hid (decide_eq_false ht)
  have HMM : Hid ((sdOf x s).app ⟨q, i, (s : Int) + 1, p, t, c, true⟩ = ⟨(sdOf x s).lv, zeroLv, false⟩) := Lib.hid (by unfold Sd.app; rw [if_pos rfl, if_neg ht])
  rw [HD2.out] at k4
  have k1 : w7.cell? ⟨go, i * 10 + s * 5 + 1, none⟩ = some (.int .i64 p) := side_cells HR7.out (set_self HPP.out _) hs (by rw [Pr.put_sh]; rfl)
  have k2 : w7.cell? ⟨go, i * 10 + s * 5 + 2, none⟩ = some (.int .i64 t) := side_cells HR7.out (set_self HPP.out _) hs (by rw [Pr.put_sh]; rfl)
  have k3 : w7.cell? ⟨go, i * 10 + s * 5 + 3, none⟩ = some (.int .i64 c) := side_cells HR7.out (set_self HPP.out _) hs (by rw [Pr.put_sh]; rfl)
  have kz : ∀ o, w7.frozen? ⟨go, o, none⟩ = false := fun o => Row.fzG HR7.out (set_self HPP.out _) o
  have HK8 := Lib.hid (HK7.out.trans (keep3 w7 go (i * 10 + s * 5) (.int .i64 0) (.int .i64 0) (.int .i64 0)))
  have hr8 := Row.putI HR7.out (set_self HPP.out _) hs zeroLv
  rw [List.set_set, Pr.put_put, Pr.put_sh] at hr8
  have HR8 := Lib.hid hr8
  have e1 : gv ≠ go := A5.out.bv.tyd.ne ET.out (by decide)
  have bv8 := Lib.hid (bv7.out.keeps (keep3 w7 go (i * 10 + s * 5) (.int .i64 0) (.int .i64 0) (.int .i64 0)) e1)
  have br8 := Lib.hid (br7.out.keeps (keep3 w7 go (i * 10 + s * 5) (.int .i64 0) (.int .i64 0) (.int .i64 0)) E3.out)
  clear hr8 e1
  go_upto_region 11 with (fail)
  clear k1 k2 k3 k4 kz
  unfold zeroLv at HR8
  dsimp only at HR8
  generalize ((w7.setCell ⟨go, i * 10 + s * 5 + 1, none⟩ (.int .i64 0)).setCell ⟨go, i * 10 + s * 5 + 1 + 1, none⟩ (.int .i64 0)).setCell ⟨go, i * 10 + s * 5 + 1 + 2, none⟩ (.int .i64 0) = w8 at *
  have v0 : w8.cell? ⟨gv, 0, none⟩ = some (.slice (some ⟨go, 0, none⟩) V.length cap) := bv8.out.cell 0
  have r0 : w8.cell? ⟨gr, 0, none⟩ = some (.slice none 0 0) := br8.out.cell 0
  have rz : w8.frozen? ⟨gr, 0, none⟩ = false := br8.out.frozen 0
  have HVF := Lib.hid (A5.out.done (d := ⟨(sdOf x s).lv, zeroLv, false⟩) HPL.out HAP.out HPP.out HX.out hs HK8.out (fun g hg e => absurd e (hg.ne ET.out (by decide))) HR8.out (⟨(A5.out.shs HPP.out HX.out).n, (A5.out.shs HPP.out HX.out).row.keep HK8.out (fun g hg e => hg.ne ET.out (by decide) e), rfl, HD2.out⟩) br8.out.tyd HMM.out (.slice (some ⟨go, 0, none⟩) V.length cap))
  have HBF := Lib.hid ((A5.out.bel.trans (HK8.out.below (B := w.heap.size) (fun k hk => by have hk2 : k = go := hk; rw [hk2]; exact E0.out) A5.out.bel.size)).setCell (p := ⟨gr, 0, none⟩) N5.out (.slice (some ⟨go, 0, none⟩) V.length cap))
  have HKF : Hid (Blk (w8.setCell ⟨gr, 0, none⟩ (.slice (some ⟨go, 0, none⟩) V.length cap)) gr 50 #[.slice (some ⟨go, 0, none⟩) V.length cap]) := Lib.hid (br8.out.set_ 0 _)
  go_wp2_with fail
  clear v0 r0 rz
  generalize w8.setCell ⟨gr, 0, none⟩ (.slice (some ⟨go, 0, none⟩) V.length cap) = wf at *
  have f0 : wf.cell? ⟨gr, 0, none⟩ = some (.slice (some ⟨go, 0, none⟩) V.length cap) := HKF.out.cell 0
  refine bodyPost_ret (v := .tuple #[.agg #[.slice (some ⟨go, 0, none⟩) V.length cap], .int .i64 0]) (by simp [results, Try.results52, go_sem, f0]) rfl ⟨_, rfl, HVF.out, HBF.out⟩
end Go.Proofs.Ytmaijkoopjocdaa

/- The walk of feed.Apply: a level gone. -/
namespace Go.Proofs.Ytmaijkoopjocdaa
open Go.RowKit Go.Lib

set_option maxRecDepth 20000 in
set_option maxHeartbeats 16000000 in
theorem apply_del {w : World} {B : Nat} {v : Value} {V : Vw} (h : VO PRL LVL w B v V) (hl : V.length ≤ 255) {K : Nat} (hK : LenV V K) (hK2 : K ≤ 800000) {q p c : Int} {i s : Nat} (hi : i < V.length) (hs : s < 2) (hf0 : fineC V.length ⟨q, i, (s : Int) + 1, p, 0, c, false⟩ = 0) {x0 : Sd × Sd} (hx0 : V[i]? = some x0) (hsrt : Srt ((s : Int) + 1) (sdOf x0 s).lv) {k : Nat} (hcs0 : (sdOf x0 s).lv.findIdx? (fun y => y.price == p) = some k) :
  Calls Try.prog 52 #[.agg #[v], .agg #[.int .i64 q, .int .i64 i, .int .i64 ((s : Int) + 1), .int .i64 p, .int .i64 0, .int .i64 c, .bool false]] w fun e w' => ∃ v', e = .returned (.tuple #[.agg #[v'], .int .i64 0]) ∧ VO PRL LVL w' w.heap.size v' (appV ⟨q, i, (s : Int) + 1, p, 0, c, false⟩ V) ∧ Below w.heap.size w w' := by
 obtain ⟨a, cv, rfl⟩ := h.form
 obtain ⟨im, him⟩ : ∃ im, false = im := ⟨_, rfl⟩
 have hz1 : (w.alloc (.cells #[.slice a V.length cv] 50)).heap.size = w.heap.size + 1 := by simp
 have hz2 : ((w.alloc (.cells #[.slice a V.length cv] 50)).alloc (.cells #[.int .i64 q, .int .i64 (i : Int), .int .i64 ((s : Int) + 1), .int .i64 p, .int .i64 0, .int .i64 c, .bool im] 34)).heap.size = w.heap.size + 1 + 1 := by simp
 have hb1 := Below.allocN w (.cells #[.slice a V.length cv] 50)
 have hb2 := hb1.trans ((Below.allocN (w.alloc (.cells #[.slice a V.length cv] 50)) (.cells #[.int .i64 q, .int .i64 (i : Int), .int .i64 ((s : Int) + 1), .int .i64 p, .int .i64 0, .int .i64 c, .bool im] 34)).mono hb1.size)
 have hb3 := hb2.trans ((Below.allocN ((w.alloc (.cells #[.slice a V.length cv] 50)).alloc (.cells #[.int .i64 q, .int .i64 (i : Int), .int .i64 ((s : Int) + 1), .int .i64 p, .int .i64 0, .int .i64 c, .bool im] 34)) (.cells #[.slice none 0 0] 50)).mono hb2.size)
 have hgv : Blk (((w.alloc (.cells #[.slice a V.length cv] 50)).alloc (.cells #[.int .i64 q, .int .i64 (i : Int), .int .i64 ((s : Int) + 1), .int .i64 p, .int .i64 0, .int .i64 c, .bool im] 34)).alloc (.cells #[.slice none 0 0] 50)) w.heap.size 50 #[.slice a V.length cv] := ((Blk.new w _ _).alloc _).alloc _
 have hgm : Blk (((w.alloc (.cells #[.slice a V.length cv] 50)).alloc (.cells #[.int .i64 q, .int .i64 (i : Int), .int .i64 ((s : Int) + 1), .int .i64 p, .int .i64 0, .int .i64 c, .bool im] 34)).alloc (.cells #[.slice none 0 0] 50)) (w.heap.size + 1) 34 #[.int .i64 q, .int .i64 (i : Int), .int .i64 ((s : Int) + 1), .int .i64 p, .int .i64 0, .int .i64 c, .bool im] := by
  have := (Blk.new (w.alloc (.cells #[.slice a V.length cv] 50)) 34 #[.int .i64 q, .int .i64 (i : Int), .int .i64 ((s : Int) + 1), .int .i64 p, .int .i64 0, .int .i64 c, .bool im]).alloc (.cells #[.slice none 0 0] 50)
  rwa [hz1] at this
 have hgr : Blk (((w.alloc (.cells #[.slice a V.length cv] 50)).alloc (.cells #[.int .i64 q, .int .i64 (i : Int), .int .i64 ((s : Int) + 1), .int .i64 p, .int .i64 0, .int .i64 c, .bool im] 34)).alloc (.cells #[.slice none 0 0] 50)) (w.heap.size + 1 + 1) 50 #[.slice none 0 0] := by
  have := Blk.new ((w.alloc (.cells #[.slice a V.length cv] 50)).alloc (.cells #[.int .i64 q, .int .i64 (i : Int), .int .i64 ((s : Int) + 1), .int .i64 p, .int .i64 0, .int .i64 c, .bool im] 34)) 50 #[.slice none 0 0]
  rwa [hz2] at this
 have hfc := fine_any V.length ⟨q, i, (s : Int) + 1, p, 0, c, im⟩ (((w.alloc (.cells #[.slice a V.length cv] 50)).alloc (.cells #[.int .i64 q, .int .i64 (i : Int), .int .i64 ((s : Int) + 1), .int .i64 p, .int .i64 0, .int .i64 c, .bool im] 34)).alloc (.cells #[.slice none 0 0] 50))
 rw [him] at hf0
 rw [hf0] at hfc
 unfold Mg.agg at hfc
 dsimp only at hfc
 have HVO := Lib.hid (h.below hb3)
 have HKK := Lib.hid hK
 obtain ⟨x, hx⟩ : ∃ x, V[i]? = some x := ⟨_, List.getElem?_eq_getElem hi⟩
 have HX := Lib.hid hx
 have HIM := Lib.hid him
 have HC := Lib.hid hfc
 have HB3 := Lib.hid hb3
 have HGV := Lib.hid hgv
 have HGM := Lib.hid hgm
 have HGR := Lib.hid hgr
 rw [him]
 have HX0 := Lib.hid hx0
 have HSRT := Lib.hid hsrt
 have HCS := Lib.hid hcs0
 clear hx0 hsrt hcs0 h hK hx him hz1 hz2 hb1 hb2 hb3 hgv hgm hgr hfc hf0
 go_enter Try.func52, Try.ntmps52
 go_upto_region 1 with (fail)
 obtain ⟨w1, hw1⟩ : ∃ w1, (((w.alloc (.cells #[.slice a V.length cv] 50)).alloc (.cells #[.int .i64 q, .int .i64 (i : Int), .int .i64 ((s : Int) + 1), .int .i64 p, .int .i64 0, .int .i64 c, .bool im] 34)).alloc (.cells #[.slice none 0 0] 50)) = w1 := ⟨_, rfl⟩
 obtain ⟨gv, hgv⟩ : ∃ gv, w.heap.size = gv := ⟨_, rfl⟩
 obtain ⟨gm, hgm⟩ : ∃ gm, w.heap.size + 1 = gm := ⟨_, rfl⟩
 obtain ⟨gr, hgr⟩ : ∃ gr, w.heap.size + 1 + 1 = gr := ⟨_, rfl⟩
 rw [hw1] at HVO HB3 HGV HGM HGR HC ⊢
 rw [hgr] at HGR ⊢
 rw [hgm] at HGM ⊢
 rw [hgv] at HGV ⊢
 have N1 : Hid (gv ≠ gr) := Lib.hid (by omega)
 have N2 : Hid (gm ≠ gr) := Lib.hid (by omega)
 have N4 : Hid (gv ≠ gm) := Lib.hid (by omega)
 have N3 : Hid (w.heap.size ≤ gv) := Lib.hid (by omega)
 have N5 : Hid (w.heap.size ≤ gr) := Lib.hid (by omega)
 clear hw1 hgv hgm hgr
 have b0 : w1.cell? ⟨gv, 0, none⟩ = some (.slice a V.length cv) := HGV.out.cell 0
 have m0 : w1.cell? ⟨gm, 0, none⟩ = some (.int .i64 q) := HGM.out.cell 0
 have m1 : w1.cell? ⟨gm, 1, none⟩ = some (.int .i64 (i : Int)) := HGM.out.cell 1
 have m2 : w1.cell? ⟨gm, 2, none⟩ = some (.int .i64 ((s : Int) + 1)) := HGM.out.cell 2
 have m3 : w1.cell? ⟨gm, 3, none⟩ = some (.int .i64 p) := HGM.out.cell 3
 have m4 : w1.cell? ⟨gm, 4, none⟩ = some (.int .i64 0) := HGM.out.cell 4
 have m5 : w1.cell? ⟨gm, 5, none⟩ = some (.int .i64 c) := HGM.out.cell 5
 have m6 : w1.cell? ⟨gm, 6, none⟩ = some (.bool im) := HGM.out.cell 6
 go_wp2_with fail
 refine HC.out.mono ?_
 rintro e w2 ⟨rfl, hb⟩
 replace HGV := Lib.hid (HGV.out.below hb)
 replace HGM := Lib.hid (HGM.out.below hb)
 replace HGR := Lib.hid (HGR.out.below hb)
 replace HVO := Lib.hid (HVO.out.below hb)
 replace HB3 := Lib.hid (HB3.out.trans (hb.mono HB3.out.size))
 clear hb HC b0 m0 m1 m2 m3 m4 m5 m6
 have b0 : w2.cell? ⟨gv, 0, none⟩ = some (.slice a V.length cv) := HGV.out.cell 0
 go_wp2_with fail
 refine (copy_any HVO.out hl HKK.out (by omega)).mono ?_
 rintro e w3 ⟨v', rfl, ⟨P, hP, hPl, hPs, hAp⟩, hb⟩
 obtain ⟨pp, hpp⟩ : ∃ p, P[i]? = some p := ⟨_, List.getElem?_eq_getElem (by omega)⟩
 obtain ⟨go, cap, he, _, _⟩ := hP.at_ i pp hpp
 rw [hPl] at he
 subst he
 have hg3 := HGV.out.below hb
 have hbb := HB3.out.trans (hb.mono HB3.out.size)
 have hst := keep1 w3 gv 0 (.slice (some ⟨go, 0, none⟩) V.length cap)
 have hW : w.heap.size ≤ w2.heap.size := HB3.out.size
 have HP := Lib.hid ((hP.base hW).far hg3.tyd (by decide) 0 (.slice (some ⟨go, 0, none⟩) V.length cap))
 have HPS : Hid (∀ (j : Nat) (p : Pr) (x : Sd × Sd), P[j]? = some p → V[j]? = some x → ShO LVL (w3.setCell ⟨gv, 0, none⟩ (.slice (some ⟨go, 0, none⟩) V.length cap)) w.heap.size p.s x.1 ∧ ShO LVL (w3.setCell ⟨gv, 0, none⟩ (.slice (some ⟨go, 0, none⟩) V.length cap)) w.heap.size p.t x.2) := Lib.hid fun j p x hp hx => ⟨((hPs j p x hp hx).1.base hW).far hg3.tyd (by decide) 0 _, ((hPs j p x hp hx).2.base hW).far hg3.tyd (by decide) 0 _⟩
 have HPL := Lib.hid hPl
 have HAP := Lib.hid hAp
 have HPP := Lib.hid hpp
 have HGM2 := Lib.hid ((HGM.out.below hb).far (p := ⟨gv, 0, none⟩) (Ne.symm N4.out) (.slice (some ⟨go, 0, none⟩) V.length cap))
 have HGR2 := Lib.hid ((HGR.out.below hb).far (p := ⟨gv, 0, none⟩) (Ne.symm N1.out) (.slice (some ⟨go, 0, none⟩) V.length cap))
 have HGV2 : Hid (Blk (w3.setCell ⟨gv, 0, none⟩ (.slice (some ⟨go, 0, none⟩) V.length cap)) gv 50 #[.slice (some ⟨go, 0, none⟩) V.length cap]) := Lib.hid (hg3.set_ 0 _)
 have HB4 := Lib.hid (hbb.setCell (p := ⟨gv, 0, none⟩) N3.out (.slice (some ⟨go, 0, none⟩) V.length cap))
 have b3 : w3.cell? ⟨gv, 0, none⟩ = some (.slice a V.length cv) := hg3.cell 0
 have fz3 : w3.frozen? ⟨gv, 0, none⟩ = false := hg3.frozen 0
 clear hP hPl hPs hAp hpp hg3 hbb hst hW hb b0 HGV HGM HGR HVO HB3
 go_upto_region 5 with (fail)
 clear b3 fz3
 generalize w3.setCell ⟨gv, 0, none⟩ (.slice (some ⟨go, 0, none⟩) V.length cap) = w4 at *
 have b4 : w4.cell? ⟨gv, 0, none⟩ = some (.slice (some ⟨go, 0, none⟩) V.length cap) := HGV2.out.cell 0
 have m0 : w4.cell? ⟨gm, 0, none⟩ = some (.int .i64 q) := HGM2.out.cell 0
 have m1 : w4.cell? ⟨gm, 1, none⟩ = some (.int .i64 (i : Int)) := HGM2.out.cell 1
 have m2 : w4.cell? ⟨gm, 2, none⟩ = some (.int .i64 ((s : Int) + 1)) := HGM2.out.cell 2
 have m3 : w4.cell? ⟨gm, 3, none⟩ = some (.int .i64 p) := HGM2.out.cell 3
 have m4 : w4.cell? ⟨gm, 4, none⟩ = some (.int .i64 0) := HGM2.out.cell 4
 have m5 : w4.cell? ⟨gm, 5, none⟩ = some (.int .i64 c) := HGM2.out.cell 5
 have m6 : w4.cell? ⟨gm, 6, none⟩ = some (.bool im) := HGM2.out.cell 6
 have y1 : IntKind.i64.wrap ((s : Int) + 1 - 1) = (s : Int) := by rw [IntWalk.i64_in _ (by omega)]; omega
 have y2 : (s : Int) + 1 - 1 = (s : Int) := by omega
 have hi2 : (i : Int) < (V.length : Int) := by omega
 have hs2 : (s : Int) < 2 := by omega
 go_quiet (fail)
 have hbq := (Below.drewN_of w4 nq).trans ((Below.allocN (w4.drewN nq) (.cells #[.int .i64 p, .int .i64 0, .int .i64 c] 92)).mono (Nat.le_refl _))
 obtain ⟨gl, hgl⟩ : ∃ gl, w4.heap.size = gl := ⟨_, rfl⟩
 have hap5 : AP w ((w4.drewN nq).alloc (.cells #[.int .i64 p, .int .i64 0, .int .i64 c] 92)) gv gm gr gl go cap V P q p 0 c i s im := by
  refine ⟨HGV2.out.below hbq, HGM2.out.below hbq, HGR2.out.below hbq, ?_, HP.out.below hbq, fun j p x hp hx => ⟨(HPS.out j p x hp hx).1.below hbq, (HPS.out j p x hp hx).2.below hbq⟩, HB4.out.trans (hbq.mono HB4.out.size)⟩
  rw [← hgl]
  exact Blk.new (w4.drewN nq) _ _
 have A5 := Lib.hid hap5
 have NGO : Hid (∀ g, (pp.sh s).own = some g → g < gl) := Lib.hid (by
  intro g hg
  have hh := HPS.out i pp x HPP.out HX.out
  rw [← hgl]
  unfold Pr.sh at hg
  split at hg
  ·exact own_lt hh.1.row g hg
  ·exact own_lt hh.2.row g hg)
 have N6 : Hid (w.heap.size ≤ gl) := Lib.hid (by rw [← hgl]; exact HB4.out.size)
 have hgz : (w4.drewN nq).heap.size = gl := hgl
 go_upto_region 7 with (fail)
 clear hap5 hbq hgl hgz HGV2 HGM2 HGR2 HP HPS HB4 b4 m0 m1 m2 m3 m4 m5 m6 y1 y2
 generalize (w4.drewN nq).alloc (.cells #[.int .i64 p, .int .i64 0, .int .i64 c] 92) = w5 at *
 have him := HIM.out
 subst him
 clear HIM
 obtain rfl : x = x0 := by have h1 := HX.out; have h2 := HX0.out; rw [h1] at h2; injection h2
 have m6 : w5.cell? ⟨gm, 6, none⟩ = some (.bool false) := A5.out.bm.cell 6
 have SH := A5.out.shs HPP.out HX.out
 obtain ⟨L, hL⟩ : ∃ L, (sdOf x s).lv = L := ⟨_, rfl⟩
 have hLK : L.length ≤ K := by
  have := HKK.out x (List.mem_of_getElem? HX.out)
  rw [← hL]; unfold sdOf
  split
  ·exact this.1
  ·exact this.2
 obtain ⟨sn, hsn⟩ : ∃ sn, (pp.sh s).n = sn := ⟨_, rfl⟩
 obtain ⟨sa, hsa⟩ : ∃ sa, (pp.sh s).a = sa := ⟨_, rfl⟩
 obtain ⟨sc, hsc⟩ : ∃ sc, (pp.sh s).c = sc := ⟨_, rfl⟩
 have hown : (pp.sh s).own = (Value.slice sa L.length sc).ownBlock := by unfold Sh.own; rw [SH.n, hL, hsa, hsc]
 have c0 : w5.cell? ⟨go, i * 10 + s * 5, none⟩ = some (.slice sa L.length sc) := by
  have := side_cells A5.out.row HPP.out hs (f := 0) (u := .slice (pp.sh s).a (pp.sh s).n (pp.sh s).c) rfl
  rw [SH.n, hL, hsa, hsc] at this
  exact this
 have hrow : LVL.Row w5 w.heap.size (.slice sa L.length sc) L := by
  have := SH.row
  rw [SH.n, hL, hsa, hsc] at this
  exact this
 have hm : (sdOf x s).app ⟨q, i, (s : Int) + 1, p, 0, c, false⟩ = ⟨updP ⟨q, i, (s : Int) + 1, p, 0, c, false⟩ L, (sdOf x s).im, (sdOf x s).has⟩ := by
  unfold Sd.app
  rw [if_neg (by simp), hL, updP_eq (by rw [← hL]; exact HSRT.out)]
 have HMM := Lib.hid hm
 have HIM := Lib.hid SH.im
 have HHAS := Lib.hid SH.has
 have HOWN := Lib.hid hown
 have HROW := Lib.hid hrow
 have HLL := Lib.hid hL
 have HLK := Lib.hid hLK
 have HSA := Lib.hid hsa
 have HSC := Lib.hid hsc
 have hix := index_same hrow.sl (by omega) gm p A5.out.bm.lt (A5.out.bm.cell 3)
 have hidx : idxV (fun y => y.price == p) L = (k : Int) := by unfold idxV; rw [← hL, HCS.out]
 rw [hidx] at hix
 have HIX := Lib.hid hix
 have hcs := HCS.out
 rw [hL] at hcs
 have HCL := Lib.hid hcs
 clear SH hL hLK hsn hsa hsc hown hrow hm HX0 HSRT hix hidx hcs HCS
 go_upto_region 12 with (fail)
 clear m6
 go_wp2_with fail
 refine HIX.out.mono ?_
 rintro e w6 ⟨rfl, hb⟩
 have A6 := Lib.hid (A5.out.below hb)
 have HROW6 := Lib.hid (HROW.out.below hb)
 clear hb HIX HROW A5 c0
 have m4 : w6.cell? ⟨gm, 4, none⟩ = some (.int .i64 0) := A6.out.bm.cell 4
 have c6 : w6.cell? ⟨go, i * 10 + s * 5, none⟩ = some (.slice sa L.length sc) := by
  have := side_cells A6.out.row HPP.out hs (f := 0) (u := .slice (pp.sh s).a (pp.sh s).n (pp.sh s).c) rfl
  rw [(A6.out.shs HPP.out HX.out).n, HLL.out, HSA.out, HSC.out] at this
  exact this
 have hkl : k < L.length := by have := HCL.out; rw [List.findIdx?_eq_some_iff_getElem] at this; exact this.1
 have y1 : IntKind.i64.wrap ((k : Int) + 1) = (k : Int) + 1 := IntWalk.i64_in _ (by have := HLK.out; omega)
 have y2 : (0 : Int) ≤ (k : Int) := by omega
 go_wp2_with fail
 refine (delete_anyL HROW6.out hkl (by have := HLK.out; omega)).mono ?_
 rintro e w7 ⟨v2, rfl, hr7, hk7, _⟩
 obtain ⟨a2, c2, rfl⟩ := hr7.form
 have hup : updP ⟨q, i, (s : Int) + 1, p, 0, c, false⟩ L = L.eraseIdx k := by
  unfold updP
  rw [HCL.out]
  dsimp only
  rw [if_pos rfl, List.eraseIdx_eq_take_drop_succ]
 have HUP := Lib.hid hup
 have HR7 := Lib.hid hr7
 have HK7 := Lib.hid hk7
 clear hup hr7 hk7 y1 y2
 generalize L.eraseIdx k = M at *
 have hne : ∀ g, (Value.slice sa L.length sc).ownBlock = some g → Tyd w6 g LVL.t := fun g hg => own_tyd HROW6.out g hg
 have hbv7 := A6.out.bv.keeps HK7.out (fun h => A6.out.bv.tyd.ne (hne _ h) (by decide) rfl)
 have hbr7 := A6.out.br.keeps HK7.out (fun h => A6.out.br.tyd.ne (hne _ h) (by decide) rfl)
 have hrow7 := A6.out.row.keep HK7.out (fun g hg h => hg.ne (hne _ h) (by decide) rfl)
 have htg7 : Tyd w7 go PRL.t := own_tyd hrow7 go rfl
 have c7 : w7.cell? ⟨go, i * 10 + s * 5, none⟩ = some (.slice (pp.sh s).a (pp.sh s).n (pp.sh s).c) := side_cells hrow7 HPP.out hs (f := 0) rfl
 have kz7 : w7.frozen? ⟨go, i * 10 + s * 5, none⟩ = false := Row.fzG hrow7 HPP.out _
 have hr8 := Row.putF hrow7 HPP.out hs (f := 0) (by decide) (x := ⟨a2, M.length, c2, (pp.sh s).im, (pp.sh s).has⟩) (u := .slice a2 M.length c2) rfl
 rw [Nat.add_zero] at hr8
 have HR8 := Lib.hid hr8
 have BV8 := Lib.hid (hbv7.far (p := ⟨go, i * 10 + s * 5, none⟩) (hbv7.tyd.ne htg7 (by decide)) (.slice a2 M.length c2))
 have BR8 := Lib.hid (hbr7.far (p := ⟨go, i * 10 + s * 5, none⟩) (hbr7.tyd.ne htg7 (by decide)) (.slice a2 M.length c2))
 have HL8 := Lib.hid (HR7.out.far htg7 (by decide) (i * 10 + s * 5) (.slice a2 M.length c2))
 have HK8 := Lib.hid (((HK7.out.more (G := fun g => (Value.slice sa L.length sc).ownBlock = some g ∨ g = go) fun g h => .inl h).trans ((keep1 w7 go (i * 10 + s * 5) (.slice a2 M.length c2)).more fun g h => .inr h)))
 have ET := Lib.hid (own_tyd A6.out.row go rfl)
 have E0 : Hid (w.heap.size ≤ go) := Lib.hid (own_base A6.out.row go rfl)
 have EO := Lib.hid (own_base HROW6.out)
 clear hne hbv7 hbr7 hrow7 htg7 hr8
 go_upto_region 22 with (fail)
 clear c7 kz7 m4 c6
 generalize w7.setCell ⟨go, i * 10 + s * 5, none⟩ (.slice a2 M.length c2) = w8 at *
 have v0 : w8.cell? ⟨gv, 0, none⟩ = some (.slice (some ⟨go, 0, none⟩) V.length cap) := BV8.out.cell 0
 have r0 : w8.cell? ⟨gr, 0, none⟩ = some (.slice none 0 0) := BR8.out.cell 0
 have rz : w8.frozen? ⟨gr, 0, none⟩ = false := BR8.out.frozen 0
 have HMM2 : Hid ((sdOf x s).app ⟨q, i, (s : Int) + 1, p, 0, c, false⟩ = ⟨M, (sdOf x s).im, (sdOf x s).has⟩) := Lib.hid (by rw [HMM.out, HUP.out])
 have HVF := Lib.hid (A6.out.done (sh := ⟨a2, M.length, c2, (pp.sh s).im, (pp.sh s).has⟩) (d := ⟨M, (sdOf x s).im, (sdOf x s).has⟩) HPL.out HAP.out HPP.out HX.out hs HK8.out (fun g hg h => by rcases h with h | h; exact HOWN.out.trans h; exact absurd h (hg.ne ET.out (by decide))) HR8.out ⟨rfl, HL8.out, HIM.out, HHAS.out⟩ BR8.out.tyd HMM2.out (.slice (some ⟨go, 0, none⟩) V.length cap))
 have HBF := Lib.hid ((A6.out.bel.trans (HK8.out.below (B := w.heap.size) (fun k hk => by rcases hk with h | h; exact EO.out k h; rw [h]; exact E0.out) A6.out.bel.size)).setCell (p := ⟨gr, 0, none⟩) N5.out (.slice (some ⟨go, 0, none⟩) V.length cap))
 have HKF : Hid (Blk (w8.setCell ⟨gr, 0, none⟩ (.slice (some ⟨go, 0, none⟩) V.length cap)) gr 50 #[.slice (some ⟨go, 0, none⟩) V.length cap]) := Lib.hid (BR8.out.set_ 0 _)
 go_wp2_with fail
 clear v0 r0 rz
 generalize w8.setCell ⟨gr, 0, none⟩ (.slice (some ⟨go, 0, none⟩) V.length cap) = wf at *
 have f0 : wf.cell? ⟨gr, 0, none⟩ = some (.slice (some ⟨go, 0, none⟩) V.length cap) := HKF.out.cell 0
 refine bodyPost_ret (v := .tuple #[.agg #[.slice (some ⟨go, 0, none⟩) V.length cap], .int .i64 0]) (by simp [results, Try.results52, go_sem, f0]) rfl ⟨_, rfl, HVF.out, HBF.out⟩
end Go.Proofs.Ytmaijkoopjocdaa

/- The walk of feed.Apply: a level set. -/
namespace Go.Proofs.Ytmaijkoopjocdaa
open Go.RowKit Go.Lib

set_option maxRecDepth 20000 in
set_option maxHeartbeats 16000000 in
theorem apply_set {w : World} {B : Nat} {v : Value} {V : Vw} (h : VO PRL LVL w B v V) (hl : V.length ≤ 255) {K : Nat} (hK : LenV V K) (hK2 : K ≤ 800000) {q p t c : Int} {i s : Nat} (hi : i < V.length) (hs : s < 2) (hf0 : fineC V.length ⟨q, i, (s : Int) + 1, p, t, c, false⟩ = 0) {x0 : Sd × Sd} (hx0 : V[i]? = some x0) (hsrt : Srt ((s : Int) + 1) (sdOf x0 s).lv) {k : Nat} (hcs0 : (sdOf x0 s).lv.findIdx? (fun y => y.price == p) = some k) (ht0 : t ≠ 0) :
  Calls Try.prog 52 #[.agg #[v], .agg #[.int .i64 q, .int .i64 i, .int .i64 ((s : Int) + 1), .int .i64 p, .int .i64 t, .int .i64 c, .bool false]] w fun e w' => ∃ v', e = .returned (.tuple #[.agg #[v'], .int .i64 0]) ∧ VO PRL LVL w' w.heap.size v' (appV ⟨q, i, (s : Int) + 1, p, t, c, false⟩ V) ∧ Below w.heap.size w w' := by
 obtain ⟨a, cv, rfl⟩ := h.form
 obtain ⟨im, him⟩ : ∃ im, false = im := ⟨_, rfl⟩
 have hz1 : (w.alloc (.cells #[.slice a V.length cv] 50)).heap.size = w.heap.size + 1 := by simp
 have hz2 : ((w.alloc (.cells #[.slice a V.length cv] 50)).alloc (.cells #[.int .i64 q, .int .i64 (i : Int), .int .i64 ((s : Int) + 1), .int .i64 p, .int .i64 t, .int .i64 c, .bool im] 34)).heap.size = w.heap.size + 1 + 1 := by simp
 have hb1 := Below.allocN w (.cells #[.slice a V.length cv] 50)
 have hb2 := hb1.trans ((Below.allocN (w.alloc (.cells #[.slice a V.length cv] 50)) (.cells #[.int .i64 q, .int .i64 (i : Int), .int .i64 ((s : Int) + 1), .int .i64 p, .int .i64 t, .int .i64 c, .bool im] 34)).mono hb1.size)
 have hb3 := hb2.trans ((Below.allocN ((w.alloc (.cells #[.slice a V.length cv] 50)).alloc (.cells #[.int .i64 q, .int .i64 (i : Int), .int .i64 ((s : Int) + 1), .int .i64 p, .int .i64 t, .int .i64 c, .bool im] 34)) (.cells #[.slice none 0 0] 50)).mono hb2.size)
 have hgv : Blk (((w.alloc (.cells #[.slice a V.length cv] 50)).alloc (.cells #[.int .i64 q, .int .i64 (i : Int), .int .i64 ((s : Int) + 1), .int .i64 p, .int .i64 t, .int .i64 c, .bool im] 34)).alloc (.cells #[.slice none 0 0] 50)) w.heap.size 50 #[.slice a V.length cv] := ((Blk.new w _ _).alloc _).alloc _
 have hgm : Blk (((w.alloc (.cells #[.slice a V.length cv] 50)).alloc (.cells #[.int .i64 q, .int .i64 (i : Int), .int .i64 ((s : Int) + 1), .int .i64 p, .int .i64 t, .int .i64 c, .bool im] 34)).alloc (.cells #[.slice none 0 0] 50)) (w.heap.size + 1) 34 #[.int .i64 q, .int .i64 (i : Int), .int .i64 ((s : Int) + 1), .int .i64 p, .int .i64 t, .int .i64 c, .bool im] := by
  have := (Blk.new (w.alloc (.cells #[.slice a V.length cv] 50)) 34 #[.int .i64 q, .int .i64 (i : Int), .int .i64 ((s : Int) + 1), .int .i64 p, .int .i64 t, .int .i64 c, .bool im]).alloc (.cells #[.slice none 0 0] 50)
  rwa [hz1] at this
 have hgr : Blk (((w.alloc (.cells #[.slice a V.length cv] 50)).alloc (.cells #[.int .i64 q, .int .i64 (i : Int), .int .i64 ((s : Int) + 1), .int .i64 p, .int .i64 t, .int .i64 c, .bool im] 34)).alloc (.cells #[.slice none 0 0] 50)) (w.heap.size + 1 + 1) 50 #[.slice none 0 0] := by
  have := Blk.new ((w.alloc (.cells #[.slice a V.length cv] 50)).alloc (.cells #[.int .i64 q, .int .i64 (i : Int), .int .i64 ((s : Int) + 1), .int .i64 p, .int .i64 t, .int .i64 c, .bool im] 34)) 50 #[.slice none 0 0]
  rwa [hz2] at this
 have hfc := fine_any V.length ⟨q, i, (s : Int) + 1, p, t, c, im⟩ (((w.alloc (.cells #[.slice a V.length cv] 50)).alloc (.cells #[.int .i64 q, .int .i64 (i : Int), .int .i64 ((s : Int) + 1), .int .i64 p, .int .i64 t, .int .i64 c, .bool im] 34)).alloc (.cells #[.slice none 0 0] 50))
 rw [him] at hf0
 rw [hf0] at hfc
 unfold Mg.agg at hfc
 dsimp only at hfc
 have HVO := Lib.hid (h.below hb3)
 have HKK := Lib.hid hK
 obtain ⟨x, hx⟩ : ∃ x, V[i]? = some x := ⟨_, List.getElem?_eq_getElem hi⟩
 have HX := Lib.hid hx
 have HIM := Lib.hid him
 have HC := Lib.hid hfc
 have HB3 := Lib.hid hb3
 have HGV := Lib.hid hgv
 have HGM := Lib.hid hgm
 have HGR := Lib.hid hgr
 rw [him]
 have HX0 := Lib.hid hx0
 have HSRT := Lib.hid hsrt
 have HCS := Lib.hid hcs0
 have HT0 := Lib.hid ht0
 clear ht0
 clear hx0 hsrt hcs0 h hK hx him hz1 hz2 hb1 hb2 hb3 hgv hgm hgr hfc hf0
 go_enter Try.func52, Try.ntmps52
 go_upto_region 1 with (fail)
 obtain ⟨w1, hw1⟩ : ∃ w1, (((w.alloc (.cells #[.slice a V.length cv] 50)).alloc (.cells #[.int .i64 q, .int .i64 (i : Int), .int .i64 ((s : Int) + 1), .int .i64 p, .int .i64 t, .int .i64 c, .bool im] 34)).alloc (.cells #[.slice none 0 0] 50)) = w1 := ⟨_, rfl⟩
 obtain ⟨gv, hgv⟩ : ∃ gv, w.heap.size = gv := ⟨_, rfl⟩
 obtain ⟨gm, hgm⟩ : ∃ gm, w.heap.size + 1 = gm := ⟨_, rfl⟩
 obtain ⟨gr, hgr⟩ : ∃ gr, w.heap.size + 1 + 1 = gr := ⟨_, rfl⟩
 rw [hw1] at HVO HB3 HGV HGM HGR HC ⊢
 rw [hgr] at HGR ⊢
 rw [hgm] at HGM ⊢
 rw [hgv] at HGV ⊢
 have N1 : Hid (gv ≠ gr) := Lib.hid (by omega)
 have N2 : Hid (gm ≠ gr) := Lib.hid (by omega)
 have N4 : Hid (gv ≠ gm) := Lib.hid (by omega)
 have N3 : Hid (w.heap.size ≤ gv) := Lib.hid (by omega)
 have N5 : Hid (w.heap.size ≤ gr) := Lib.hid (by omega)
 clear hw1 hgv hgm hgr
 have b0 : w1.cell? ⟨gv, 0, none⟩ = some (.slice a V.length cv) := HGV.out.cell 0
 have m0 : w1.cell? ⟨gm, 0, none⟩ = some (.int .i64 q) := HGM.out.cell 0
 have m1 : w1.cell? ⟨gm, 1, none⟩ = some (.int .i64 (i : Int)) := HGM.out.cell 1
 have m2 : w1.cell? ⟨gm, 2, none⟩ = some (.int .i64 ((s : Int) + 1)) := HGM.out.cell 2
 have m3 : w1.cell? ⟨gm, 3, none⟩ = some (.int .i64 p) := HGM.out.cell 3
 have m4 : w1.cell? ⟨gm, 4, none⟩ = some (.int .i64 t) := HGM.out.cell 4
 have m5 : w1.cell? ⟨gm, 5, none⟩ = some (.int .i64 c) := HGM.out.cell 5
 have m6 : w1.cell? ⟨gm, 6, none⟩ = some (.bool im) := HGM.out.cell 6
 go_wp2_with fail
 refine HC.out.mono ?_
 rintro e w2 ⟨rfl, hb⟩
 replace HGV := Lib.hid (HGV.out.below hb)
 replace HGM := Lib.hid (HGM.out.below hb)
 replace HGR := Lib.hid (HGR.out.below hb)
 replace HVO := Lib.hid (HVO.out.below hb)
 replace HB3 := Lib.hid (HB3.out.trans (hb.mono HB3.out.size))
 clear hb HC b0 m0 m1 m2 m3 m4 m5 m6
 have b0 : w2.cell? ⟨gv, 0, none⟩ = some (.slice a V.length cv) := HGV.out.cell 0
 go_wp2_with fail
 refine (copy_any HVO.out hl HKK.out (by omega)).mono ?_
 rintro e w3 ⟨v', rfl, ⟨P, hP, hPl, hPs, hAp⟩, hb⟩
 obtain ⟨pp, hpp⟩ : ∃ p, P[i]? = some p := ⟨_, List.getElem?_eq_getElem (by omega)⟩
 obtain ⟨go, cap, he, _, _⟩ := hP.at_ i pp hpp
 rw [hPl] at he
 subst he
 have hg3 := HGV.out.below hb
 have hbb := HB3.out.trans (hb.mono HB3.out.size)
 have hst := keep1 w3 gv 0 (.slice (some ⟨go, 0, none⟩) V.length cap)
 have hW : w.heap.size ≤ w2.heap.size := HB3.out.size
 have HP := Lib.hid ((hP.base hW).far hg3.tyd (by decide) 0 (.slice (some ⟨go, 0, none⟩) V.length cap))
 have HPS : Hid (∀ (j : Nat) (p : Pr) (x : Sd × Sd), P[j]? = some p → V[j]? = some x → ShO LVL (w3.setCell ⟨gv, 0, none⟩ (.slice (some ⟨go, 0, none⟩) V.length cap)) w.heap.size p.s x.1 ∧ ShO LVL (w3.setCell ⟨gv, 0, none⟩ (.slice (some ⟨go, 0, none⟩) V.length cap)) w.heap.size p.t x.2) := Lib.hid fun j p x hp hx => ⟨((hPs j p x hp hx).1.base hW).far hg3.tyd (by decide) 0 _, ((hPs j p x hp hx).2.base hW).far hg3.tyd (by decide) 0 _⟩
 have HPL := Lib.hid hPl
 have HAP := Lib.hid hAp
 have HPP := Lib.hid hpp
 have HGM2 := Lib.hid ((HGM.out.below hb).far (p := ⟨gv, 0, none⟩) (Ne.symm N4.out) (.slice (some ⟨go, 0, none⟩) V.length cap))
 have HGR2 := Lib.hid ((HGR.out.below hb).far (p := ⟨gv, 0, none⟩) (Ne.symm N1.out) (.slice (some ⟨go, 0, none⟩) V.length cap))
 have HGV2 : Hid (Blk (w3.setCell ⟨gv, 0, none⟩ (.slice (some ⟨go, 0, none⟩) V.length cap)) gv 50 #[.slice (some ⟨go, 0, none⟩) V.length cap]) := Lib.hid (hg3.set_ 0 _)
 have HB4 := Lib.hid (hbb.setCell (p := ⟨gv, 0, none⟩) N3.out (.slice (some ⟨go, 0, none⟩) V.length cap))
 have b3 : w3.cell? ⟨gv, 0, none⟩ = some (.slice a V.length cv) := hg3.cell 0
 have fz3 : w3.frozen? ⟨gv, 0, none⟩ = false := hg3.frozen 0
 clear hP hPl hPs hAp hpp hg3 hbb hst hW hb b0 HGV HGM HGR HVO HB3
 go_upto_region 5 with (fail)
 clear b3 fz3
 generalize w3.setCell ⟨gv, 0, none⟩ (.slice (some ⟨go, 0, none⟩) V.length cap) = w4 at *
 have b4 : w4.cell? ⟨gv, 0, none⟩ = some (.slice (some ⟨go, 0, none⟩) V.length cap) := HGV2.out.cell 0
 have m0 : w4.cell? ⟨gm, 0, none⟩ = some (.int .i64 q) := HGM2.out.cell 0
 have m1 : w4.cell? ⟨gm, 1, none⟩ = some (.int .i64 (i : Int)) := HGM2.out.cell 1
 have m2 : w4.cell? ⟨gm, 2, none⟩ = some (.int .i64 ((s : Int) + 1)) := HGM2.out.cell 2
 have m3 : w4.cell? ⟨gm, 3, none⟩ = some (.int .i64 p) := HGM2.out.cell 3
 have m4 : w4.cell? ⟨gm, 4, none⟩ = some (.int .i64 t) := HGM2.out.cell 4
 have m5 : w4.cell? ⟨gm, 5, none⟩ = some (.int .i64 c) := HGM2.out.cell 5
 have m6 : w4.cell? ⟨gm, 6, none⟩ = some (.bool im) := HGM2.out.cell 6
 have y1 : IntKind.i64.wrap ((s : Int) + 1 - 1) = (s : Int) := by rw [IntWalk.i64_in _ (by omega)]; omega
 have y2 : (s : Int) + 1 - 1 = (s : Int) := by omega
 have hi2 : (i : Int) < (V.length : Int) := by omega
 have hs2 : (s : Int) < 2 := by omega
 go_quiet (fail)
 have hbq := (Below.drewN_of w4 nq).trans ((Below.allocN (w4.drewN nq) (.cells #[.int .i64 p, .int .i64 t, .int .i64 c] 92)).mono (Nat.le_refl _))
 obtain ⟨gl, hgl⟩ : ∃ gl, w4.heap.size = gl := ⟨_, rfl⟩
 have hap5 : AP w ((w4.drewN nq).alloc (.cells #[.int .i64 p, .int .i64 t, .int .i64 c] 92)) gv gm gr gl go cap V P q p t c i s im := by
  refine ⟨HGV2.out.below hbq, HGM2.out.below hbq, HGR2.out.below hbq, ?_, HP.out.below hbq, fun j p x hp hx => ⟨(HPS.out j p x hp hx).1.below hbq, (HPS.out j p x hp hx).2.below hbq⟩, HB4.out.trans (hbq.mono HB4.out.size)⟩
  rw [← hgl]
  exact Blk.new (w4.drewN nq) _ _
 have A5 := Lib.hid hap5
 have NGO : Hid (∀ g, (pp.sh s).own = some g → g < gl) := Lib.hid (by
  intro g hg
  have hh := HPS.out i pp x HPP.out HX.out
  rw [← hgl]
  unfold Pr.sh at hg
  split at hg
  ·exact own_lt hh.1.row g hg
  ·exact own_lt hh.2.row g hg)
 have N6 : Hid (w.heap.size ≤ gl) := Lib.hid (by rw [← hgl]; exact HB4.out.size)
 have hgz : (w4.drewN nq).heap.size = gl := hgl
 go_upto_region 7 with (fail)
 clear hap5 hbq hgl hgz HGV2 HGM2 HGR2 HP HPS HB4 b4 m0 m1 m2 m3 m4 m5 m6 y1 y2
 generalize (w4.drewN nq).alloc (.cells #[.int .i64 p, .int .i64 t, .int .i64 c] 92) = w5 at *
 have him := HIM.out
 subst him
 clear HIM
 obtain rfl : x = x0 := by have h1 := HX.out; have h2 := HX0.out; rw [h1] at h2; injection h2
 have m6 : w5.cell? ⟨gm, 6, none⟩ = some (.bool false) := A5.out.bm.cell 6
 have SH := A5.out.shs HPP.out HX.out
 obtain ⟨L, hL⟩ : ∃ L, (sdOf x s).lv = L := ⟨_, rfl⟩
 have hLK : L.length ≤ K := by
  have := HKK.out x (List.mem_of_getElem? HX.out)
  rw [← hL]; unfold sdOf
  split
  ·exact this.1
  ·exact this.2
 obtain ⟨sn, hsn⟩ : ∃ sn, (pp.sh s).n = sn := ⟨_, rfl⟩
 obtain ⟨sa, hsa⟩ : ∃ sa, (pp.sh s).a = sa := ⟨_, rfl⟩
 obtain ⟨sc, hsc⟩ : ∃ sc, (pp.sh s).c = sc := ⟨_, rfl⟩
 have hown : (pp.sh s).own = (Value.slice sa L.length sc).ownBlock := by unfold Sh.own; rw [SH.n, hL, hsa, hsc]
 have c0 : w5.cell? ⟨go, i * 10 + s * 5, none⟩ = some (.slice sa L.length sc) := by
  have := side_cells A5.out.row HPP.out hs (f := 0) (u := .slice (pp.sh s).a (pp.sh s).n (pp.sh s).c) rfl
  rw [SH.n, hL, hsa, hsc] at this
  exact this
 have hrow : LVL.Row w5 w.heap.size (.slice sa L.length sc) L := by
  have := SH.row
  rw [SH.n, hL, hsa, hsc] at this
  exact this
 have hm : (sdOf x s).app ⟨q, i, (s : Int) + 1, p, t, c, false⟩ = ⟨updP ⟨q, i, (s : Int) + 1, p, t, c, false⟩ L, (sdOf x s).im, (sdOf x s).has⟩ := by
  unfold Sd.app
  rw [if_neg (by simp), hL, updP_eq (by rw [← hL]; exact HSRT.out)]
 have HMM := Lib.hid hm
 have HIM := Lib.hid SH.im
 have HHAS := Lib.hid SH.has
 have HOWN := Lib.hid hown
 have HROW := Lib.hid hrow
 have HLL := Lib.hid hL
 have HLK := Lib.hid hLK
 have HSA := Lib.hid hsa
 have HSC := Lib.hid hsc
 have hix := index_same hrow.sl (by omega) gm p A5.out.bm.lt (A5.out.bm.cell 3)
 have hidx : idxV (fun y => y.price == p) L = (k : Int) := by unfold idxV; rw [← hL, HCS.out]
 rw [hidx] at hix
 have HIX := Lib.hid hix
 have hcs := HCS.out
 rw [hL] at hcs
 have HCL := Lib.hid hcs
 clear SH hL hLK hsn hsa hsc hown hrow hm HX0 HSRT hix hidx hcs HCS
 go_upto_region 12 with (fail)
 clear m6
 go_wp2_with fail
 refine HIX.out.mono ?_
 rintro e w6 ⟨rfl, hb⟩
 have A6 := Lib.hid (A5.out.below hb)
 have HROW6 := Lib.hid (HROW.out.below hb)
 clear hb HIX HROW A5 c0
 have m4 : w6.cell? ⟨gm, 4, none⟩ = some (.int .i64 t) := A6.out.bm.cell 4
 have c6 : w6.cell? ⟨go, i * 10 + s * 5, none⟩ = some (.slice sa L.length sc) := by
  have := side_cells A6.out.row HPP.out hs (f := 0) (u := .slice (pp.sh s).a (pp.sh s).n (pp.sh s).c) rfl
  rw [(A6.out.shs HPP.out HX.out).n, HLL.out, HSA.out, HSC.out] at this
  exact this
 have hkl : k < L.length := by have := HCL.out; rw [List.findIdx?_eq_some_iff_getElem] at this; exact this.1
 have y2 : (0 : Int) ≤ (k : Int) := by omega
 have hkl2 : (k : Int) < (L.length : Int) := by omega
 obtain ⟨z, hz⟩ : ∃ z, L[k]? = some z := ⟨_, List.getElem?_eq_getElem hkl⟩
 obtain ⟨gb, cap2, he, _, _⟩ := HROW6.out.at_ k z hz
 injection he with he1 _ he3
 subst he1
 subst he3
 obtain ⟨z0, z1, z2, zf⟩ := lvl_at HROW6.out hz
 have HZ := Lib.hid hz
 clear hz
 have htq : (t == 0) = false := by rw [beq_eq_false_iff_ne]; exact HT0.out
 go_upto_region 16 with (fail)
 have hS : w6.cell? ⟨gl, 0, none⟩ = some (.int .i64 p) ∧ w6.cell? ⟨gl, 1, none⟩ = some (.int .i64 t) ∧ w6.cell? ⟨gl, 2, none⟩ = some (.int .i64 c) ∧ w6.cell? ⟨go, i * 10 + s * 5, none⟩ = some (.slice (some ⟨gb, 0, none⟩) L.length sc) := ⟨A6.out.bl.cell 0, A6.out.bl.cell 1, A6.out.bl.cell 2, c6⟩
 refine wp_region_E (S := fun w' => w'.cell? ⟨gl, 0, none⟩ = some (.int .i64 p) ∧ w'.cell? ⟨gl, 1, none⟩ = some (.int .i64 t) ∧ w'.cell? ⟨gl, 2, none⟩ = some (.int .i64 c) ∧ w'.cell? ⟨go, i * 10 + s * 5, none⟩ = some (.slice (some ⟨gb, 0, none⟩) L.length sc)) (by kernel_rfl) hS (fun hHeld => ?_)
 refine wpE_tk 0 (oi := ?o1) (v := ?v1) ?h1 (by kernel_rfl) ?q1 ?y1 (by assumption) ?_
 case h1 => (simp only [List.getElem?_toArray]; rfl)
 case q1 => exact fun _ _ _ h => h
 case y1 => exact Or.inl ⟨by rfl, by (intro w hSw; (try dsimp only at hSw); go_simp; try with_reducible rfl)⟩
 try simp only [Act.put, sA, sB, sC]
 refine wpE_tk 1 (oi := ?o2) (v := ?v2) ?h2 (by kernel_rfl) ?q2 ?y2 (by assumption) ?_
 case h2 => (simp only [List.getElem?_toArray]; rfl)
 case q2 => exact fun _ _ _ h => h
 case y2 => exact Or.inl ⟨by rfl, by (intro w hSw; (try dsimp only at hSw); go_simp; try with_reducible rfl)⟩
 try simp only [Act.put, sA, sB, sC]
 refine wpE_tk 2 (oi := ?o3) (v := ?v3) ?h3 (by kernel_rfl) ?q3 ?y3 (by assumption) ?_
 case h3 => (simp only [List.getElem?_toArray]; rfl)
 case q3 => exact fun _ _ _ h => h
 case y3 => exact Or.inl ⟨by rfl, by (intro w hSw; (try dsimp only at hSw); go_simp; try with_reducible rfl)⟩
 try simp only [Act.put, sA, sB, sC]
 refine wpE_tk 3 (oi := ?o4) (v := ?v4) ?h4 (by kernel_rfl) ?q4 ?y4 (by assumption) ?_
 case h4 => (simp only [List.getElem?_toArray]; rfl)
 case q4 => exact fun _ _ _ h => h
 case y4 => exact Or.inl ⟨by rfl, by (intro w hSw; (try dsimp only at hSw); go_simp; try with_reducible rfl)⟩
 try simp only [Act.put, sA, sB, sC]
 refine wpE_tk 4 (oi := ?o5) (v := ?v5) ?h5 (by kernel_rfl) ?q5 ?y5 (by assumption) ?_
 case h5 => (simp only [List.getElem?_toArray]; rfl)
 case q5 => exact fun _ _ _ h => h
 case y5 => exact Or.inl ⟨by rfl, by (intro w hSw; (try dsimp only at hSw); go_simp; try with_reducible rfl)⟩
 try simp only [Act.put, sA, sB, sC]
 refine wpE_tk 5 (oi := ?o6) (v := ?v6) ?h6 (by kernel_rfl) ?q6 ?y6 (by assumption) ?_
 case h6 => (simp only [List.getElem?_toArray]; rfl)
 case q6 => exact fun _ _ _ h => h
 case y6 => exact Or.inl ⟨by rfl, by (intro w hSw; (try dsimp only at hSw); go_simp; try with_reducible rfl)⟩
 try simp only [Act.put, sA, sB, sC]
 refine wpE_tk 6 (oi := ?o7) (v := ?v7) ?h7 (by kernel_rfl) ?q7 ?y7 (by assumption) ?_
 case h7 => (simp only [List.getElem?_toArray]; rfl)
 case q7 => exact fun _ _ _ h => h
 case y7 => exact Or.inl ⟨by rfl, by (intro w hSw; (try dsimp only at hSw); go_simp; try with_reducible rfl)⟩
 try simp only [Act.put, sA, sB, sC]
 refine wpE_last (i := 7) (o := ?o8) ?ho8 (by kernel_rfl) (by kernel_rfl) (by kernel_rfl) (fun K hK => ?_)
 case ho8 => (simp only [List.getElem?_toArray]; rfl)
 go_simp
 refine hK.out _ _ ?_
 have hk8 := (keep3b w6 gb (k * 3) (.int .i64 p) (.int .i64 t) (.int .i64 c)).trans (Below.keeps (Below.drewN_of _ 1))
 have hl8 := (lvl_set HROW6.out HZ.out ⟨p, t, c⟩).below (Below.drewN_of _ 1)
 have htb : Tyd w6 gb LVL.t := own_tyd HROW6.out gb rfl
 have BV8 := Lib.hid (A6.out.bv.keeps hk8 (A6.out.bv.tyd.ne htb (by decide)))
 have BR8 := Lib.hid (A6.out.br.keeps hk8 (A6.out.br.tyd.ne htb (by decide)))
 have HR8 := Lib.hid (A6.out.row.keep hk8 (fun g hg h => hg.ne htb (by decide) h))
 have HL8 := Lib.hid hl8
 have HK8 := Lib.hid hk8
 have EO := Lib.hid (own_base HROW6.out gb rfl)
 have hup : updP ⟨q, i, (s : Int) + 1, p, t, c, false⟩ L = L.set k ⟨p, t, c⟩ := by
  unfold updP
  rw [HCL.out]
  dsimp only
  rw [if_neg HT0.out, List.set_eq_take_append_cons_drop, if_pos hkl]
  rfl
 have HUP := Lib.hid hup
 have HLS : Hid ((L.set k (⟨p, t, c⟩ : Lv)).length = L.length) := Lib.hid List.length_set
 have hdr : ∀ u : World, u.drewN 1 = u.drew := fun _ => rfl
 clear hK K hHeld hS z0 z1 z2 zf m4 c6 htq y2 hkl2 hk8 hl8 htb hup
 rw [hdr] at BV8 BR8 HR8 HL8 HK8
 generalize (((w6.setCell ⟨gb, k * 3, none⟩ (.int .i64 p)).setCell ⟨gb, k * 3 + 1, none⟩ (.int .i64 t)).setCell ⟨gb, k * 3 + 2, none⟩ (.int .i64 c)).drew = w8 at *
 have v0 : w8.cell? ⟨gv, 0, none⟩ = some (.slice (some ⟨go, 0, none⟩) V.length cap) := BV8.out.cell 0
 have r0 : w8.cell? ⟨gr, 0, none⟩ = some (.slice none 0 0) := BR8.out.cell 0
 have rz : w8.frozen? ⟨gr, 0, none⟩ = false := BR8.out.frozen 0
 have HMM2 : Hid ((sdOf x s).app ⟨q, i, (s : Int) + 1, p, t, c, false⟩ = ⟨L.set k ⟨p, t, c⟩, (sdOf x s).im, (sdOf x s).has⟩) := Lib.hid (by rw [HMM.out, HUP.out])
 have HSN : Hid ((pp.sh s).n = L.length) := Lib.hid (by rw [(A6.out.shs HPP.out HX.out).n, HLL.out])
 have HVF := Lib.hid (A6.out.done (sh := pp.sh s) (d := ⟨L.set k ⟨p, t, c⟩, (sdOf x s).im, (sdOf x s).has⟩) HPL.out HAP.out HPP.out HX.out hs HK8.out (fun g hg h => by rw [HOWN.out, h]; rfl) (by rw [put_same HPP.out]; exact HR8.out) ⟨by rw [HSN.out, HLS.out], by rw [HSN.out, HSA.out, HSC.out]; exact HL8.out, HIM.out, HHAS.out⟩ BR8.out.tyd HMM2.out (.slice (some ⟨go, 0, none⟩) V.length cap))
 have HBF := Lib.hid ((A6.out.bel.trans (HK8.out.below (B := w.heap.size) (fun k hk => by rw [hk]; exact EO.out) A6.out.bel.size)).setCell (p := ⟨gr, 0, none⟩) N5.out (.slice (some ⟨go, 0, none⟩) V.length cap))
 have HKF : Hid (Blk (w8.setCell ⟨gr, 0, none⟩ (.slice (some ⟨go, 0, none⟩) V.length cap)) gr 50 #[.slice (some ⟨go, 0, none⟩) V.length cap]) := Lib.hid (BR8.out.set_ 0 _)
 go_wp2_with fail
 clear v0 r0 rz
 generalize w8.setCell ⟨gr, 0, none⟩ (.slice (some ⟨go, 0, none⟩) V.length cap) = wf at *
 have f0 : wf.cell? ⟨gr, 0, none⟩ = some (.slice (some ⟨go, 0, none⟩) V.length cap) := HKF.out.cell 0
 refine bodyPost_ret (v := .tuple #[.agg #[.slice (some ⟨go, 0, none⟩) V.length cap], .int .i64 0]) (by simp [results, Try.results52, go_sem, f0]) rfl ⟨_, rfl, HVF.out, HBF.out⟩
end Go.Proofs.Ytmaijkoopjocdaa
