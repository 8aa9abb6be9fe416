/- The walk of cornhillref19.Apply where the message is fine, side 2. -/
import Derived.Test.YtmaijkoopjocdaaGR
namespace Go.Proofs.Ytmaijkoopjocdaa
open Go.RowKit Go.Lib

set_option maxRecDepth 20000 in
set_option maxHeartbeats 32000000 in
theorem rapply_2 {w : World} {B : Nat} {v : Value} {V : Vw} (h : VO RPR RLV w B v V) (hB : B ≤ w.heap.size) (hl : V.length ≤ 255) {K : Nat} (hK : LenV V K) (hK2 : K ≤ 800000) (hsrt : SrtV V) {q p t c : Int} {i : Nat} {im : Bool} (hi : i < V.length) (ht : 0 ≤ t) (hc : 0 ≤ c) (htc : t = 0 ↔ c = 0) :
  Calls Try.prog 28 #[.agg #[v], .agg #[.int .i64 q, .int .i64 i, .int .i64 2, .int .i64 p, .int .i64 t, .int .i64 c, .bool im]] w fun e w' => ∃ v', e = .returned (.tuple #[.agg #[v'], .int .i64 0]) ∧ VO RPR RLV w' B v' (appV ⟨q, i, 2, p, t, c, im⟩ V) ∧ Below w.heap.size w w' := by
 obtain ⟨a, cv, rfl⟩ := h.form
 have hz1 : (w.alloc (.cells #[.slice a V.length cv] 44)).heap.size = w.heap.size + 1 := by simp
 have hb1 := Below.allocN w (.cells #[.slice a V.length cv] 44)
 obtain ⟨wa, hwa⟩ : ∃ wa, w.alloc (.cells #[.slice a V.length cv] 44) = wa := ⟨_, rfl⟩
 rw [hwa] at hz1 hb1
 have hb2 := hb1.trans ((Below.allocN wa (.cells #[.int .i64 q, .int .i64 (i : Int), .int .i64 2, .int .i64 p, .int .i64 t, .int .i64 c, .bool im] 34)).mono hb1.size)
 have hgv0 : Blk wa w.heap.size 44 #[.slice a V.length cv] := by rw [← hwa]; exact Blk.new w _ _
 obtain ⟨wb, hwb⟩ : ∃ wb, wa.alloc (.cells #[.int .i64 q, .int .i64 (i : Int), .int .i64 2, .int .i64 p, .int .i64 t, .int .i64 c, .bool im] 34) = wb := ⟨_, rfl⟩
 have hz2 : wb.heap.size = w.heap.size + 1 + 1 := by rw [← hwb]; simp [hz1]
 have hgm0 : Blk wb (w.heap.size + 1) 34 #[.int .i64 q, .int .i64 (i : Int), .int .i64 2, .int .i64 p, .int .i64 t, .int .i64 c, .bool im] := by
  have := Blk.new wa 34 #[.int .i64 q, .int .i64 (i : Int), .int .i64 2, .int .i64 p, .int .i64 t, .int .i64 c, .bool im]
  rwa [hz1, hwb] at this
 rw [hwb] at hb2
 have hb3 := hb2.trans ((Below.allocN wb (.cells #[.slice none 0 0] 44)).mono hb2.size)
 obtain ⟨wc, hwc⟩ : ∃ wc, wb.alloc (.cells #[.slice none 0 0] 44) = wc := ⟨_, rfl⟩
 have hgr : Blk wc (w.heap.size + 1 + 1) 44 #[.slice none 0 0] := by
  have := Blk.new wb 44 #[.slice none 0 0]
  rwa [hz2, hwc] at this
 have hgm : Blk wc (w.heap.size + 1) 34 #[.int .i64 q, .int .i64 (i : Int), .int .i64 2, .int .i64 p, .int .i64 t, .int .i64 c, .bool im] := by rw [← hwc]; exact hgm0.alloc _
 have hgv : Blk wc w.heap.size 44 #[.slice a V.length cv] := by rw [← hwc, ← hwb]; exact (hgv0.alloc _).alloc _
 rw [hwc] at hb3
 obtain ⟨P, hP0, hPl, hPs0⟩ := h
 have hP := hP0.below hb3
 have hPs : ∀ (j : Nat) (p : Pr) (x : Sd × Sd), P[j]? = some p → V[j]? = some x → ShO RLV wc B p.s x.1 ∧ ShO RLV wc B p.t x.2 := fun j p x hp hx => ⟨(hPs0 j p x hp hx).1.below hb3, (hPs0 j p x hp hx).2.below hb3⟩
 have HLO : Hid (∀ (j : Nat) (p : Pr) (g : Nat), P[j]? = some p → (p.s.own = some g ∨ p.t.own = some g) → g < w.heap.size) := Lib.hid (by
  intro j p g hp hg
  obtain ⟨x, hx⟩ : ∃ x, V[j]? = some x := ⟨_, List.getElem?_eq_getElem (by have := lt_of_get hp; omega)⟩
  rcases hg with hg | hg
  ·exact own_lt (hPs0 j p x hp hx).1.row g hg
  ·exact own_lt (hPs0 j p x hp hx).2.row g hg)
 have HP0 := Lib.hid hP
 have HPL0 := Lib.hid hPl
 have HPS0 := Lib.hid hPs
 have HB3 := Lib.hid hb3
 have HGV := Lib.hid hgv
 have HGM := Lib.hid hgm
 have HGR := Lib.hid hgr
 have HKK := Lib.hid hK
 have HSR := Lib.hid hsrt
 obtain ⟨tz, htz⟩ : ∃ z, (t == 0) = z := ⟨_, rfl⟩
 have hcz : (c == 0) = tz := by rw [← htz, Bool.eq_iff_iff, beq_iff_eq, beq_iff_eq]; exact htc.symm
 have HTZ := Lib.hid htz
 have hi2 : (i : Int) < (V.length : Int) := by omega
 have hi0 : decide ((i : Int) < 0) = false := decide_eq_false (by omega)
 have ht2 : decide (t < 0) = false := decide_eq_false (by omega)
 have hc2 : decide (c < 0) = false := decide_eq_false (by omega)
 have HT := Lib.hid ht
 have HZ1 := Lib.hid hz1
 have HZ2 := Lib.hid hz2
 clear hP hP0 hPl hPs hPs0 hb1 hb2 hb3 hgv hgm hgr hgv0 hgm0 hK hsrt ht hc htc hz1 hz2
 go_enter Try.func28, Try.ntmps28
 go_upto_region 1 with (fail)
 rw [HZ1.out, HZ2.out]
 obtain ⟨gv, hgv⟩ : ∃ gv, w.heap.size = gv := ⟨_, rfl⟩
 obtain ⟨gm, hgm⟩ : ∃ gm, w.heap.size + 1 = gm := ⟨_, rfl⟩
 obtain ⟨gr, hgr⟩ : ∃ gr, w.heap.size + 1 + 1 = gr := ⟨_, rfl⟩
 rw [hgr] at HGR ⊢
 rw [hgm] at HGM ⊢
 rw [hgv] at HGV ⊢
 have N1 : Hid (gv ≠ gr ∧ gm ≠ gr ∧ gv ≠ gm ∧ w.heap.size ≤ gv ∧ w.heap.size ≤ gr ∧ w.heap.size ≤ gm) := Lib.hid (by omega)
 clear hgv hgm hgr hwa hwb hwc HZ1 HZ2
 have b0 : wc.cell? ⟨gv, 0, none⟩ = some (.slice a V.length cv) := HGV.out.cell 0
 have m1 : wc.cell? ⟨gm, 1, none⟩ = some (.int .i64 (i : Int)) := HGM.out.cell 1
 have m2 : wc.cell? ⟨gm, 2, none⟩ = some (.int .i64 2) := HGM.out.cell 2
 have m4 : wc.cell? ⟨gm, 4, none⟩ = some (.int .i64 t) := HGM.out.cell 4
 have m5 : wc.cell? ⟨gm, 5, none⟩ = some (.int .i64 c) := HGM.out.cell 5
 have hP := HP0.out
 have hPl := HPL0.out
 have hPs := HPS0.out
 obtain ⟨ar, cr, her, hso, hrd⟩ := hP.sl
 have her2 := her
 rw [hPl] at her2
 injection her2 with ea _ ec
 subst ea
 subst ec
 clear her
 have H0 := Lib.hid (Lay.Row.empty (Y := RPR) wc)
 have hba := Below.allocN wc (.cells #[] 82)
 have HBA := Lib.hid hba
 have HRD := Lib.hid (hrd.below hba)
 have HSO := Lib.hid hso
 have HP := Lib.hid hP
 have HPL := Lib.hid hPl
 have HPS := Lib.hid hPs
 have b1 : (wc.alloc (.cells #[] 82)).cell? ⟨gv, 0, none⟩ = some (.slice a V.length cv) := (HGV.out.below hba).cell 0
 clear hba hrd hso hP hPl hPs
 go_upto_region 7 with (fail)
 go_wp2_with (first
  | (at_builtin; go_loud (refine RPR.pushes rfl (.tmp 51) (.tmp 53) rfl wc.heap.size (.slice (some ⟨wc.heap.size, 0, none⟩) 0 0) [] rfl H0.out a cv P (by simp [HPL.out]; rfl) (fun h => (HSO.out.1 h).2) HRD.out HSO.out.2.1 (by rw [HPL.out]; simp; omega) HBA.out.size ?_)))
 intro v' w6 hr6 hg6 _
 have hb6 := grown_below hg6 HBA.out (own_base H0.out)
 obtain ⟨pp, hpp⟩ : ∃ p, P[i]? = some p := ⟨_, List.getElem?_eq_getElem (by rw [HPL.out]; exact hi)⟩
 obtain ⟨go, cap, he, _, _⟩ := hr6.at_ i pp hpp
 rw [HPL.out] at he
 subst he
 have hb7 := Below.allocN w6 (.cells #[.slice (some ⟨go, 0, none⟩) V.length cap] 44)
 have hb67 := hb6.trans (hb7.mono hb6.size)
 have hgw : Blk (w6.alloc (.cells #[.slice (some ⟨go, 0, none⟩) V.length cap] 44)) w6.heap.size 44 #[.slice (some ⟨go, 0, none⟩) V.length cap] := Blk.new _ _ _
 have HPP := Lib.hid hpp
 have hap : RAP w (w6.alloc (.cells #[.slice (some ⟨go, 0, none⟩) V.length cap] 44)) B gm gr w6.heap.size go cap V P q p t c i 2 im :=
  ⟨HGM.out.below hb67, HGR.out.below hb67, hgw, (hr6.below hb7).base HB3.out.size, fun j p x hp hx => ⟨(HPS.out j p x hp hx).1.below hb67, (HPS.out j p x hp hx).2.below hb67⟩, HB3.out.trans (hb67.mono HB3.out.size)⟩
 have A7 := Lib.hid hap
 have N6 : Hid (w.heap.size ≤ w6.heap.size ∧ gm < w6.heap.size ∧ gr < w6.heap.size) := Lib.hid ⟨Nat.le_trans HB3.out.size hb6.size, Nat.lt_of_lt_of_le HGM.out.lt hb6.size, Nat.lt_of_lt_of_le HGR.out.lt hb6.size⟩
 clear hr6 hg6 hb6 hb7 hb67 hgw hap hpp HP H0 HBA HRD HSO HGV HGM HGR b0 b1 m1 m2 m4 m5 HPS HP0 HPL0 HPS0
 go_upto_region 8 with (fail)
 obtain ⟨gw, hgw⟩ : ∃ g, w6.heap.size = g := ⟨_, rfl⟩
 rw [hgw] at A7 N6 ⊢
 clear hgw
 generalize w6.alloc (.cells #[.slice (some ⟨go, 0, none⟩) V.length cap] 44) = w7 at *
 have b0 : w7.cell? ⟨gw, 0, none⟩ = some (.slice (some ⟨go, 0, none⟩) V.length cap) := A7.out.bw.cell 0
 have m1 : w7.cell? ⟨gm, 1, none⟩ = some (.int .i64 (i : Int)) := A7.out.bm.cell 1
 have m2 : w7.cell? ⟨gm, 2, none⟩ = some (.int .i64 2) := A7.out.bm.cell 2
 go_quiet (fail)
 have A8 := Lib.hid (A7.out.below (Below.drewN_of w7 nq))
 clear b0 m1 m2 A7
 generalize w7.drewN nq = w8 at *
 have m6 : w8.cell? ⟨gm, 6, none⟩ = some (.bool im) := A8.out.bm.cell 6
 cases im with
 | true =>
  obtain ⟨tb, htb⟩ : ∃ b, decide (0 < t) = b := ⟨_, rfl⟩
  have HTB := Lib.hid htb
  have m4 : w8.cell? ⟨gm, 4, none⟩ = some (.int .i64 t) := A8.out.bm.cell 4
  have k4 : w8.cell? ⟨go, i * 10 + 5 + 4, none⟩ = some (.bool (pp.sh 1).has) := rside_cells A8.out.row HPP.out (s := 1) (f := 4) (by decide) rfl
  have z4 : w8.frozen? ⟨go, i * 10 + 5 + 4, none⟩ = false := rfzG A8.out.row HPP.out _
  go_upto_region 11 with (fail)
  have htg : Tyd w8 go RPR.t := own_tyd A8.out.row go rfl
  have hk9 : Keeps (fun g => g = go) w8 (w8.setCell ⟨go, i * 10 + 5 + 4, none⟩ (.bool tb)) := keep1 w8 go (i * 10 + 5 + 4) (.bool tb)
  have hr9 : RPR.Row (w8.setCell ⟨go, i * 10 + 5 + 4, none⟩ (.bool tb)) w.heap.size (.slice (some ⟨go, 0, none⟩) V.length cap) (P.set i (pp.put 1 ⟨(pp.sh 1).a, (pp.sh 1).n, (pp.sh 1).c, (pp.sh 1).im, tb⟩)) := rputF A8.out.row HPP.out (s := 1) (f := 4) (by decide) (by decide) rfl
  have K9 := Lib.hid hk9
  have R9 := Lib.hid hr9
  have BW9 := Lib.hid (A8.out.bw.keeps hk9 (fun e => A8.out.bw.tyd.ne htg (by decide) e))
  have BR9 := Lib.hid (A8.out.br.keeps hk9 (fun e => A8.out.br.tyd.ne htg (by decide) e))
  have BM9 := Lib.hid (A8.out.bm.keeps hk9 (fun e => A8.out.bm.tyd.ne htg (by decide) e))
  have EG : Hid (gw ≠ go ∧ gr ≠ go ∧ gm ≠ go) := Lib.hid ⟨A8.out.bw.tyd.ne htg (by decide), A8.out.br.tyd.ne htg (by decide), A8.out.bm.tyd.ne htg (by decide)⟩
  clear hk9 hr9 m4 k4 z4 htb htg
  generalize w8.setCell ⟨go, i * 10 + 5 + 4, none⟩ (.bool tb) = w9 at *
  have k1 : w9.cell? ⟨go, i * 10 + 5 + 1, none⟩ = some (.int .i64 (pp.sh 1).im.price) := rside_cells R9.out (set_self HPP.out _) (s := 1) (f := 1) (by decide) rfl
  have k2 : w9.cell? ⟨go, i * 10 + 5 + 2, none⟩ = some (.int .i64 (pp.sh 1).im.qty) := rside_cells R9.out (set_self HPP.out _) (s := 1) (f := 2) (by decide) rfl
  have k3 : w9.cell? ⟨go, i * 10 + 5 + 3, none⟩ = some (.int .i64 (pp.sh 1).im.count) := rside_cells R9.out (set_self HPP.out _) (s := 1) (f := 3) (by decide) rfl
  have zf : ∀ o, w9.frozen? ⟨go, o, none⟩ = false := rfzG R9.out (set_self HPP.out _)
  go_upto_region 12 with (fail)
  have hk : Keeps (fun g => g = go) w9 (((w9.setCell ⟨go, i * 10 + 5 + 1, none⟩ (.int .i64 0)).setCell ⟨go, i * 10 + 5 + 1 + 1, none⟩ (.int .i64 0)).setCell ⟨go, i * 10 + 5 + 1 + 2, none⟩ (.int .i64 0)) := keep3 w9 go (i * 10 + 5) _ _ _
  have hr : RPR.Row (((w9.setCell ⟨go, i * 10 + 5 + 1, none⟩ (.int .i64 0)).setCell ⟨go, i * 10 + 5 + 1 + 1, none⟩ (.int .i64 0)).setCell ⟨go, i * 10 + 5 + 1 + 2, none⟩ (.int .i64 0)) w.heap.size (.slice (some ⟨go, 0, none⟩) V.length cap) ((P.set i (pp.put 1 ⟨(pp.sh 1).a, (pp.sh 1).n, (pp.sh 1).c, (pp.sh 1).im, tb⟩)).set i ((pp.put 1 ⟨(pp.sh 1).a, (pp.sh 1).n, (pp.sh 1).c, (pp.sh 1).im, tb⟩).put 1 ⟨(pp.sh 1).a, (pp.sh 1).n, (pp.sh 1).c, zeroLv, tb⟩)) := rputI R9.out (set_self HPP.out _) (s := 1) (by decide) zeroLv
  rw [List.set_set, Pr.put_put] at hr
  have K10 := Lib.hid (K9.out.trans hk)
  have R9b := Lib.hid hr
  have BW10 := Lib.hid (BW9.out.keeps hk EG.out.1)
  have BR10 := Lib.hid (BR9.out.keeps hk EG.out.2.1)
  have BM10 := Lib.hid (BM9.out.keeps hk EG.out.2.2)
  clear hk hr k1 k2 k3 zf
  generalize ((w9.setCell ⟨go, i * 10 + 5 + 1, none⟩ (.int .i64 0)).setCell ⟨go, i * 10 + 5 + 1 + 1, none⟩ (.int .i64 0)).setCell ⟨go, i * 10 + 5 + 1 + 2, none⟩ (.int .i64 0) = w10 at *
  have k4 : w10.cell? ⟨go, i * 10 + 5 + 4, none⟩ = some (.bool tb) := rside_cells R9b.out (set_self HPP.out _) (s := 1) (f := 4) (by decide) rfl
  cases tb with
  | false =>
   go_upto_region 14 with (fail)
   clear k4
   have v0 : w10.cell? ⟨gw, 0, none⟩ = some (.slice (some ⟨go, 0, none⟩) V.length cap) := BW10.out.cell 0
   have g0 : w10.cell? ⟨gr, 0, none⟩ = some (.slice none 0 0) := BR10.out.cell 0
   have z0 : w10.frozen? ⟨gr, 0, none⟩ = false := BR10.out.frozen 0
   go_wp2_with fail
   clear v0 g0 z0
   have k0 : (w10.setCell ⟨gr, 0, none⟩ (.slice (some ⟨go, 0, none⟩) V.length cap)).cell? ⟨gr, 0, none⟩ = some (.slice (some ⟨go, 0, none⟩) V.length cap) := (BR10.out.set_ 0 (.slice (some ⟨go, 0, none⟩) V.length cap)).cell 0
   have hvo := A8.out.imp (s := 1) hB HPL.out HPP.out (by decide) K10.out R9b.out HTB.out rfl
   have hvz := hvo.keep (keep1 w10 gr 0 (.slice (some ⟨go, 0, none⟩) V.length cap)) (fun k hk e => hk.ne BR10.out.tyd (by decide) e) (fun k hk e => hk.ne BR10.out.tyd (by decide) e)
   have hgo : w.heap.size ≤ go := own_base A8.out.row go rfl
   have hbz := (A8.out.bel.trans (K10.out.below (B := w.heap.size) (fun k hk => by have hk2 : k = go := hk; rw [hk2]; exact hgo) A8.out.bel.size)).setCell (p := ⟨gr, 0, none⟩) N1.out.2.2.2.2.1 (.slice (some ⟨go, 0, none⟩) V.length cap)
   refine bodyPost_ret (v := .tuple #[.agg #[.slice (some ⟨go, 0, none⟩) V.length cap], .int .i64 0]) (by simp [results, Try.results28, go_sem, k0]) rfl ⟨_, rfl, hvz, hbz⟩
  | true =>
   have m3 : w10.cell? ⟨gm, 3, none⟩ = some (.int .i64 p) := BM10.out.cell 3
   have m4 : w10.cell? ⟨gm, 4, none⟩ = some (.int .i64 t) := BM10.out.cell 4
   have m5 : w10.cell? ⟨gm, 5, none⟩ = some (.int .i64 c) := BM10.out.cell 5
   have k1 : w10.cell? ⟨go, i * 10 + 5 + 1, none⟩ = some (.int .i64 0) := rside_cells R9b.out (set_self HPP.out _) (s := 1) (f := 1) (by decide) rfl
   have k2 : w10.cell? ⟨go, i * 10 + 5 + 2, none⟩ = some (.int .i64 0) := rside_cells R9b.out (set_self HPP.out _) (s := 1) (f := 2) (by decide) rfl
   have k3 : w10.cell? ⟨go, i * 10 + 5 + 3, none⟩ = some (.int .i64 0) := rside_cells R9b.out (set_self HPP.out _) (s := 1) (f := 3) (by decide) rfl
   have zf : ∀ o, w10.frozen? ⟨go, o, none⟩ = false := rfzG R9b.out (set_self HPP.out _)
   go_upto_region 14 with (fail)
   have hk : Keeps (fun g => g = go) w10 (((w10.setCell ⟨go, i * 10 + 5 + 1, none⟩ (.int .i64 p)).setCell ⟨go, i * 10 + 5 + 1 + 1, none⟩ (.int .i64 t)).setCell ⟨go, i * 10 + 5 + 1 + 2, none⟩ (.int .i64 c)) := keep3 w10 go (i * 10 + 5) _ _ _
   have hr : RPR.Row (((w10.setCell ⟨go, i * 10 + 5 + 1, none⟩ (.int .i64 p)).setCell ⟨go, i * 10 + 5 + 1 + 1, none⟩ (.int .i64 t)).setCell ⟨go, i * 10 + 5 + 1 + 2, none⟩ (.int .i64 c)) w.heap.size (.slice (some ⟨go, 0, none⟩) V.length cap) ((P.set i (pp.put 1 ⟨(pp.sh 1).a, (pp.sh 1).n, (pp.sh 1).c, zeroLv, true⟩)).set i ((pp.put 1 ⟨(pp.sh 1).a, (pp.sh 1).n, (pp.sh 1).c, zeroLv, true⟩).put 1 ⟨(pp.sh 1).a, (pp.sh 1).n, (pp.sh 1).c, ⟨p, t, c⟩, true⟩)) := rputI R9b.out (set_self HPP.out _) (s := 1) (by decide) ⟨p, t, c⟩
   rw [List.set_set, Pr.put_put] at hr
   have K11 := Lib.hid (K10.out.trans hk)
   have R9bb := Lib.hid hr
   have BW11 := Lib.hid (BW10.out.keeps hk EG.out.1)
   have BR11 := Lib.hid (BR10.out.keeps hk EG.out.2.1)
   have BM11 := Lib.hid (BM10.out.keeps hk EG.out.2.2)
   clear hk hr k1 k2 k3 zf
   generalize ((w10.setCell ⟨go, i * 10 + 5 + 1, none⟩ (.int .i64 p)).setCell ⟨go, i * 10 + 5 + 1 + 1, none⟩ (.int .i64 t)).setCell ⟨go, i * 10 + 5 + 1 + 2, none⟩ (.int .i64 c) = w11 at *
   clear k4 m3 m4 m5
   have v0 : w11.cell? ⟨gw, 0, none⟩ = some (.slice (some ⟨go, 0, none⟩) V.length cap) := BW11.out.cell 0
   have g0 : w11.cell? ⟨gr, 0, none⟩ = some (.slice none 0 0) := BR11.out.cell 0
   have z0 : w11.frozen? ⟨gr, 0, none⟩ = false := BR11.out.frozen 0
   go_wp2_with fail
   clear v0 g0 z0
   have k0 : (w11.setCell ⟨gr, 0, none⟩ (.slice (some ⟨go, 0, none⟩) V.length cap)).cell? ⟨gr, 0, none⟩ = some (.slice (some ⟨go, 0, none⟩) V.length cap) := (BR11.out.set_ 0 (.slice (some ⟨go, 0, none⟩) V.length cap)).cell 0
   have hvo := A8.out.imp (s := 1) hB HPL.out HPP.out (by decide) K11.out R9bb.out HTB.out rfl
   have hvz := hvo.keep (keep1 w11 gr 0 (.slice (some ⟨go, 0, none⟩) V.length cap)) (fun k hk e => hk.ne BR11.out.tyd (by decide) e) (fun k hk e => hk.ne BR11.out.tyd (by decide) e)
   have hgo : w.heap.size ≤ go := own_base A8.out.row go rfl
   have hbz := (A8.out.bel.trans (K11.out.below (B := w.heap.size) (fun k hk => by have hk2 : k = go := hk; rw [hk2]; exact hgo) A8.out.bel.size)).setCell (p := ⟨gr, 0, none⟩) N1.out.2.2.2.2.1 (.slice (some ⟨go, 0, none⟩) V.length cap)
   refine bodyPost_ret (v := .tuple #[.agg #[.slice (some ⟨go, 0, none⟩) V.length cap], .int .i64 0]) (by simp [results, Try.results28, go_sem, k0]) rfl ⟨_, rfl, hvz, hbz⟩
 | false =>
  obtain ⟨x, hx⟩ : ∃ x, V[i]? = some x := ⟨_, List.getElem?_eq_getElem hi⟩
  have HX := Lib.hid hx
  have m4 : w8.cell? ⟨gm, 4, none⟩ = some (.int .i64 t) := A8.out.bm.cell 4
  have I0 : Hid (RLI w w8 B gm gr gw go cap V P q p t c i 2 (.slice none 0 0) []) := Lib.hid ⟨A8.out, Lay.Row.nil _ _⟩
  clear hx
  go_upto_region 18 with (fail)
  clear m6 m4
  go_loopw [8, 9, 10] (fun v d k w' => ∃ (a8 : Option Addr) (c8 : Nat) (out : List Lv) (dn : Bool) (k' : Nat), v = .slice a8 out.length c8 ∧ d = .bool dn ∧ k = .int .i64 k' ∧ k' ≤ x.2.lv.length ∧ out.length ≤ k' + dn.toNat ∧ RLI w w' B gm gr gw go cap V P q p t c i 2 (.slice a8 out.length c8) out ∧ out ++ updR ⟨q, i, 2, p, t, c, false⟩ dn (x.2.lv.drop k') = updR ⟨q, i, 2, p, t, c, false⟩ (decide (t = 0)) x.2.lv) (fun _ _ k _ => x.2.lv.length - (RowKit.intOf k).toNat)
  case atStart => exact ⟨none, 0, [], tz, 0, rfl, rfl, rfl, Nat.zero_le _, Nat.zero_le _, I0.out, by rw [List.nil_append, List.drop_zero, show tz = decide (t = 0) by rw [← HTZ.out, Bool.eq_iff_iff, beq_iff_eq, decide_eq_true_eq]]⟩
  case round =>
   clear I0
   obtain ⟨a8, c8, out, dn, k', rfl, rfl, rfl, hk', hol, hI, hup⟩ := hrel
   obtain ⟨wz, rfl⟩ : ∃ wo : World, wo = wr := ⟨_, rfl⟩
   have I1 := Lib.hid hI
   have HUP := Lib.hid hup
   have HX1 := Lib.hid (hI.ap.sh i pp x HPP.out HX.out).2
   obtain ⟨h1, h2, _, _⟩ := (hI.ap.sh i pp x HPP.out HX.out).2
   have g0 : wz.cell? ⟨go, i * 10 + 5, none⟩ = some (.slice pp.t.a x.2.lv.length pp.t.c) := by
    have := rside_cells hI.ap.row HPP.out (s := 1) (f := 0) (u := .slice pp.t.a pp.t.n pp.t.c) (by decide) rfl
    rw [h1] at this
    exact this
   rw [h1] at h2
   have HRW := Lib.hid h2
   clear hI hup h1 h2
   by_cases hlt : k' < x.2.lv.length
   ·have hlt' : (k' : Int) < (x.2.lv.length : Int) := by omega
    have hxl : x.2.lv.length ≤ 800000 := Nat.le_trans (HKK.out x (List.mem_of_getElem? HX.out)).2 hK2
    obtain ⟨y, hy⟩ : ∃ y, x.2.lv[k']? = some y := ⟨_, List.getElem?_eq_getElem hlt⟩
    obtain ⟨gb, cb, he, _, hcx⟩ := HRW.out.at_ k' y hy
    injection he with he1 _ he3
    rw [he1] at g0 HRW
    obtain ⟨y0, y1, y2, _⟩ := rlv_at HRW.out hy
    have HY := Lib.hid hy
    clear hcx hy he3
    go_upto_region 21 with (fail)
    have hba := Below.allocN wz (.cells #[.int .i64 y.price, .int .i64 y.qty, .int .i64 y.count] 79)
    have hgy : Blk (wz.alloc (.cells #[.int .i64 y.price, .int .i64 y.qty, .int .i64 y.count] 79)) wz.heap.size 79 #[.int .i64 y.price, .int .i64 y.qty, .int .i64 y.count] := Blk.new _ _ _
    have I2 := Lib.hid (I1.out.below hba)
    obtain ⟨gy, hgyn⟩ : ∃ g, wz.heap.size = g := ⟨_, rfl⟩
    have NGY : Hid (∀ g, (Value.slice a8 out.length c8).ownBlock = some g → g ≠ gy) := Lib.hid fun g hg e => by have := own_lt I1.out.row g hg; omega
    rw [hgyn] at hgy ⊢
    have GY2 := Lib.hid hgy
    clear hba hgy hgyn g0 y0 y1 y2 HRW HX1 I1
    generalize wz.alloc (.cells #[.int .i64 y.price, .int .i64 y.qty, .int .i64 y.count] 79) = w10 at *
    obtain ⟨bt, hbt⟩ : ∃ b, betterP 2 y.price p = b := ⟨_, rfl⟩
    have HST : Hid (updR ⟨q, i, 2, p, t, c, false⟩ dn (x.2.lv.drop k') = (if dn = false ∧ bt = false then [⟨p, t, c⟩] else []) ++ (if y.price = p then [] else [y]) ++ updR ⟨q, i, 2, p, t, c, false⟩ (dn || !bt) (x.2.lv.drop (k' + 1))) := Lib.hid (by
     obtain ⟨u1, u2⟩ := get_of HY.out
     rw [List.drop_eq_getElem_cons u1, u2, ← hbt]; rfl)
    have HBT := Lib.hid (rbetter_any 2 y.price p w10)
    rw [hbt] at HBT
    clear hbt
    have m2 : w10.cell? ⟨gm, 2, none⟩ = some (.int .i64 2) := I2.out.ap.bm.cell 2
    have m3 : w10.cell? ⟨gm, 3, none⟩ = some (.int .i64 p) := I2.out.ap.bm.cell 3
    have c0 : w10.cell? ⟨gy, 0, none⟩ = some (.int .i64 y.price) := GY2.out.cell 0
    cases dn with
    | true =>
     have hol' : out.length ≤ k' + 1 := hol
     clear hol
     by_cases hyp : y.price = p
     ·have hyb : (y.price != p) = false := by rw [hyp]; simp
      have HNX : Hid (out ++ updR ⟨q, i, 2, p, t, c, false⟩ true (x.2.lv.drop (k' + 1)) = updR ⟨q, i, 2, p, t, c, false⟩ (decide (t = 0)) x.2.lv) := Lib.hid (by rw [← HUP.out, HST.out, if_pos hyp]; simp)
      clear hyp
      go_wp2_with fail
      go_roundw
      case rel => exact ⟨a8, c8, out, true, k' + 1, by rfl, by rfl, by go_num, hlt, by show out.length ≤ k' + 1 + 1; omega, I2.out, HNX.out⟩
      case measure => simp [RowKit.intOf]; omega
     ·have hyb : (y.price != p) = true := by rw [bne_iff_ne]; exact hyp
      have HNX : Hid ((out ++ [y]) ++ updR ⟨q, i, 2, p, t, c, false⟩ true (x.2.lv.drop (k' + 1)) = updR ⟨q, i, 2, p, t, c, false⟩ (decide (t = 0)) x.2.lv) := Lib.hid (by rw [← HUP.out, HST.out, if_neg hyp]; simp)
      clear hyp
      have c1 : w10.cell? ⟨gy, 1, none⟩ = some (.int .i64 y.qty) := GY2.out.cell 1
      have c2 : w10.cell? ⟨gy, 2, none⟩ = some (.int .i64 y.count) := GY2.out.cell 2
      have hba := Below.allocN w10 (.cells #[.int .i64 y.price, .int .i64 y.qty, .int .i64 y.count] 79)
      have HNB : Hid (Blk (w10.alloc (.cells #[.int .i64 y.price, .int .i64 y.qty, .int .i64 y.count] 79)) w10.heap.size 79 (RLV.cells y).toArray) := Lib.hid (Blk.new _ _ _)
      have I3 := Lib.hid (I2.out.below hba)
      have SZ3 : Hid (w.heap.size ≤ (w10.alloc (.cells #[.int .i64 y.price, .int .i64 y.qty, .int .i64 y.count] 79)).heap.size) := Lib.hid I3.out.ap.bel.size
      clear hba
      go_wp2_with (first
       | (at_builtin; go_loud (refine RLV.push rfl (.tmp 138) (.tmp 140) rfl w.heap.size (.slice a8 out.length c8) (out) rfl I3.out.row w10.heap.size y rfl HNB.out.lt HNB.out.cellsAt (by omega) SZ3.out ?_)))
      intro v' w12 hr hg _
      obtain ⟨a9, c9, hvv⟩ := hr.form
      have I4 := Lib.hid (I3.out.push HLO.out hg hr)
      clear hr hg I3 HNB SZ3
      subst hvv
      go_wp2_with fail
      go_roundw
      case rel => exact ⟨a9, c9, out ++ [y], true, k' + 1, by rfl, by rfl, by go_num, hlt, by rw [List.length_append]; show out.length + 1 ≤ k' + 1 + 1; omega, I4.out, HNX.out⟩
      case measure => simp [RowKit.intOf]; omega
    | false =>
     have hol' : out.length ≤ k' := hol
     clear hol
     go_wp2_with fail
     refine HBT.out.mono ?_
     rintro e wq ⟨rfl, rfl⟩
     clear HBT
     cases bt with
     | true =>
      by_cases hyp : y.price = p
      ·have hyb : (y.price != p) = false := by rw [hyp]; simp
       have HNX : Hid (out ++ updR ⟨q, i, 2, p, t, c, false⟩ false (x.2.lv.drop (k' + 1)) = updR ⟨q, i, 2, p, t, c, false⟩ (decide (t = 0)) x.2.lv) := Lib.hid (by rw [← HUP.out, HST.out, if_pos hyp]; simp)
       clear hyp
       go_wp2_with fail
       go_roundw
       case rel => exact ⟨a8, c8, out, false, k' + 1, by rfl, by rfl, by go_num, hlt, by show out.length ≤ k' + 1 + 0; omega, I2.out, HNX.out⟩
       case measure => simp [RowKit.intOf]; omega
      ·have hyb : (y.price != p) = true := by rw [bne_iff_ne]; exact hyp
       have HNX : Hid ((out ++ [y]) ++ updR ⟨q, i, 2, p, t, c, false⟩ false (x.2.lv.drop (k' + 1)) = updR ⟨q, i, 2, p, t, c, false⟩ (decide (t = 0)) x.2.lv) := Lib.hid (by rw [← HUP.out, HST.out, if_neg hyp]; simp)
       clear hyp
       have c1 : w10.cell? ⟨gy, 1, none⟩ = some (.int .i64 y.qty) := GY2.out.cell 1
       have c2 : w10.cell? ⟨gy, 2, none⟩ = some (.int .i64 y.count) := GY2.out.cell 2
       have hba := Below.allocN w10 (.cells #[.int .i64 y.price, .int .i64 y.qty, .int .i64 y.count] 79)
       have HNB : Hid (Blk (w10.alloc (.cells #[.int .i64 y.price, .int .i64 y.qty, .int .i64 y.count] 79)) w10.heap.size 79 (RLV.cells y).toArray) := Lib.hid (Blk.new _ _ _)
       have I3 := Lib.hid (I2.out.below hba)
       have SZ3 : Hid (w.heap.size ≤ (w10.alloc (.cells #[.int .i64 y.price, .int .i64 y.qty, .int .i64 y.count] 79)).heap.size) := Lib.hid I3.out.ap.bel.size
       clear hba
       go_wp2_with (first
        | (at_builtin; go_loud (refine RLV.push rfl (.tmp 138) (.tmp 140) rfl w.heap.size (.slice a8 out.length c8) (out) rfl I3.out.row w10.heap.size y rfl HNB.out.lt HNB.out.cellsAt (by omega) SZ3.out ?_)))
       intro v' w12 hr hg _
       obtain ⟨a9, c9, hvv⟩ := hr.form
       have I4 := Lib.hid (I3.out.push HLO.out hg hr)
       clear hr hg I3 HNB SZ3
       subst hvv
       go_wp2_with fail
       go_roundw
       case rel => exact ⟨a9, c9, out ++ [y], false, k' + 1, by rfl, by rfl, by go_num, hlt, by rw [List.length_append]; show out.length + 1 ≤ k' + 1 + 0; omega, I4.out, HNX.out⟩
       case measure => simp [RowKit.intOf]; omega
     | false =>
      have m4 : w10.cell? ⟨gm, 4, none⟩ = some (.int .i64 t) := I2.out.ap.bm.cell 4
      have m5 : w10.cell? ⟨gm, 5, none⟩ = some (.int .i64 c) := I2.out.ap.bm.cell 5
      have hba := Below.allocN w10 (.cells #[.int .i64 p, .int .i64 t, .int .i64 c] 79)
      have HNB : Hid (Blk (w10.alloc (.cells #[.int .i64 p, .int .i64 t, .int .i64 c] 79)) w10.heap.size 79 (RLV.cells ⟨p, t, c⟩).toArray) := Lib.hid (Blk.new _ _ _)
      have I3 := Lib.hid (I2.out.below hba)
      have G3 := Lib.hid (GY2.out.below hba)
      have SZ3 : Hid (w.heap.size ≤ (w10.alloc (.cells #[.int .i64 p, .int .i64 t, .int .i64 c] 79)).heap.size) := Lib.hid I3.out.ap.bel.size
      clear hba
      go_wp2_with (first
       | (at_builtin; go_loud (refine RLV.push rfl (.tmp 123) (.tmp 131) rfl w.heap.size (.slice a8 out.length c8) out rfl I3.out.row w10.heap.size ⟨p, t, c⟩ rfl HNB.out.lt HNB.out.cellsAt (by omega) SZ3.out ?_)))
      intro v' w11 hr hg _
      obtain ⟨a7, c7, hvv⟩ := hr.form
      rw [show (out ++ [(⟨p, t, c⟩ : Lv)]).length = out.length + 1 by rw [List.length_append]; rfl] at hvv
      have GY5 := Lib.hid (G3.out.keeps (grown_keeps hg) (fun e => NGY.out gy e rfl))
      have I5 := Lib.hid (I3.out.push HLO.out hg hr)
      clear hr hg I3 HNB SZ3 G3
      subst hvv
      clear m2 m3 m4 m5 c0
      obtain ⟨o2, ho2⟩ : ∃ o2, out ++ [(⟨p, t, c⟩ : Lv)] = o2 := ⟨_, rfl⟩
      have hol2 : o2.length = out.length + 1 := by rw [← ho2, List.length_append]; rfl
      have HO2 := Lib.hid ho2
      have HL2 := Lib.hid hol2
      rw [ho2, ← hol2] at I5
      rw [← hol2]
      clear ho2 hol2
      go_upto_region 24 with (fail)
      have m3 : w11.cell? ⟨gm, 3, none⟩ = some (.int .i64 p) := I5.out.ap.bm.cell 3
      have c0 : w11.cell? ⟨gy, 0, none⟩ = some (.int .i64 y.price) := GY5.out.cell 0
      by_cases hyp : y.price = p
      ·have hyb : (y.price != p) = false := by rw [hyp]; simp
       have HNX : Hid (o2 ++ updR ⟨q, i, 2, p, t, c, false⟩ true (x.2.lv.drop (k' + 1)) = updR ⟨q, i, 2, p, t, c, false⟩ (decide (t = 0)) x.2.lv) := Lib.hid (by rw [← HUP.out, HST.out, if_pos hyp, ← HO2.out]; simp)
       clear hyp
       go_wp2_with fail
       go_roundw
       case rel => exact ⟨a7, c7, o2, true, k' + 1, by rfl, by rfl, by go_num, hlt, by rw [HL2.out]; show out.length + 1 ≤ k' + 1 + 1; omega, I5.out, HNX.out⟩
       case measure => simp [RowKit.intOf]; omega
      ·have hyb : (y.price != p) = true := by rw [bne_iff_ne]; exact hyp
       have HNX : Hid ((o2 ++ [y]) ++ updR ⟨q, i, 2, p, t, c, false⟩ true (x.2.lv.drop (k' + 1)) = updR ⟨q, i, 2, p, t, c, false⟩ (decide (t = 0)) x.2.lv) := Lib.hid (by rw [← HUP.out, HST.out, if_neg hyp, ← HO2.out]; simp)
       clear hyp
       have c1 : w11.cell? ⟨gy, 1, none⟩ = some (.int .i64 y.qty) := GY5.out.cell 1
       have c2 : w11.cell? ⟨gy, 2, none⟩ = some (.int .i64 y.count) := GY5.out.cell 2
       have hba := Below.allocN w11 (.cells #[.int .i64 y.price, .int .i64 y.qty, .int .i64 y.count] 79)
       have HNB : Hid (Blk (w11.alloc (.cells #[.int .i64 y.price, .int .i64 y.qty, .int .i64 y.count] 79)) w11.heap.size 79 (RLV.cells y).toArray) := Lib.hid (Blk.new _ _ _)
       have I3 := Lib.hid (I5.out.below hba)
       have SZ3 : Hid (w.heap.size ≤ (w11.alloc (.cells #[.int .i64 y.price, .int .i64 y.qty, .int .i64 y.count] 79)).heap.size) := Lib.hid I3.out.ap.bel.size
       clear hba
       go_wp2_with (first
        | (at_builtin; go_loud (refine RLV.push rfl (.tmp 138) (.tmp 140) rfl w.heap.size (.slice a7 o2.length c7) (o2) rfl I3.out.row w11.heap.size y rfl HNB.out.lt HNB.out.cellsAt (by rw [HL2.out]; omega) SZ3.out ?_)))
       intro v' w12 hr hg _
       obtain ⟨a9, c9, hvv⟩ := hr.form
       have I4 := Lib.hid (I3.out.push HLO.out hg hr)
       clear hr hg I3 HNB SZ3
       subst hvv
       go_wp2_with fail
       go_roundw
       case rel => exact ⟨a9, c9, o2 ++ [y], true, k' + 1, by rfl, by rfl, by go_num, hlt, by rw [List.length_append, HL2.out]; show out.length + 1 + 1 ≤ k' + 1 + 1; omega, I4.out, HNX.out⟩
       case measure => simp [RowKit.intOf]; omega
   ·have hkl : k' = x.2.lv.length := by omega
    have hxl : x.2.lv.length ≤ 800000 := Nat.le_trans (HKK.out x (List.mem_of_getElem? HX.out)).2 hK2
    have HUQ : Hid (out ++ updR ⟨q, i, 2, p, t, c, false⟩ dn [] = updQ ⟨q, i, 2, p, t, c, false⟩ x.2.lv) := Lib.hid (by
     have hu := updR_eq (m := ⟨q, i, 2, p, t, c, false⟩) HT.out (HSR.out x (List.mem_of_getElem? HX.out)).2
     rw [← hu, ← HUP.out, hkl, List.drop_length])
    cases dn with
    | true =>
     have hol' : out.length ≤ k' + 1 := hol
     clear hol
     have HO : Hid (out = updQ ⟨q, i, 2, p, t, c, false⟩ x.2.lv) := Lib.hid (by rw [← HUQ.out]; exact (List.append_nil _).symm)
     go_upto_region 28 with (fail)
     have htg : Tyd wz go RPR.t := own_tyd I1.out.ap.row go rfl
     have hk : Keeps (fun g => g = go) wz (wz.setCell ⟨go, i * 10 + 5, none⟩ (.slice a8 out.length c8)) := keep1 wz go (i * 10 + 5) _
     have hr : RPR.Row (wz.setCell ⟨go, i * 10 + 5, none⟩ (.slice a8 out.length c8)) w.heap.size (.slice (some ⟨go, 0, none⟩) V.length cap) (P.set i (pp.put 1 ⟨a8, out.length, c8, (pp.sh 1).im, (pp.sh 1).has⟩)) := rputF I1.out.ap.row HPP.out (s := 1) (f := 0) (by decide) (by decide) rfl
     have hvo := I1.out.ap.lvs (s := 1) hB HPL.out HPP.out HX.out (by decide) hk hr I1.out.row HO.out
     have hgo : w.heap.size ≤ go := own_base I1.out.ap.row go rfl
     have HVS := Lib.hid hvo
     have BWS := Lib.hid (I1.out.ap.bw.keeps hk (fun e => I1.out.ap.bw.tyd.ne htg (by decide) e))
     have BRS := Lib.hid (I1.out.ap.br.keeps hk (fun e => I1.out.ap.br.tyd.ne htg (by decide) e))
     have BLS := Lib.hid (I1.out.ap.bel.trans (hk.below (B := w.heap.size) (fun k hk => by have hk2 : k = go := hk; rw [hk2]; exact hgo) I1.out.ap.bel.size))
     have z4 : wz.frozen? ⟨go, i * 10 + 5, none⟩ = false := rfzG I1.out.ap.row HPP.out _
     clear htg hk hr hvo hgo
     go_upto_region 29 with (fail)
     clear z4 g0
     generalize wz.setCell ⟨go, i * 10 + 5, none⟩ (.slice a8 out.length c8) = ws at *
     have v0 : ws.cell? ⟨gw, 0, none⟩ = some (.slice (some ⟨go, 0, none⟩) V.length cap) := BWS.out.cell 0
     have r0 : ws.cell? ⟨gr, 0, none⟩ = some (.slice none 0 0) := BRS.out.cell 0
     have z0 : ws.frozen? ⟨gr, 0, none⟩ = false := BRS.out.frozen 0
     go_wp2_with fail
     clear v0 r0 z0
     have k0 : (ws.setCell ⟨gr, 0, none⟩ (.slice (some ⟨go, 0, none⟩) V.length cap)).cell? ⟨gr, 0, none⟩ = some (.slice (some ⟨go, 0, none⟩) V.length cap) := (BRS.out.set_ 0 (.slice (some ⟨go, 0, none⟩) V.length cap)).cell 0
     have hvz := HVS.out.keep (keep1 ws gr 0 (.slice (some ⟨go, 0, none⟩) V.length cap)) (fun k hk e => hk.ne BRS.out.tyd (by decide) e) (fun k hk e => hk.ne BRS.out.tyd (by decide) e)
     have hbz := BLS.out.setCell (p := ⟨gr, 0, none⟩) N1.out.2.2.2.2.1 (.slice (some ⟨go, 0, none⟩) V.length cap)
     refine bodyPost_ret (v := .tuple #[.agg #[.slice (some ⟨go, 0, none⟩) V.length cap], .int .i64 0]) (by simp [results, Try.results28, go_sem, k0]) rfl ⟨_, rfl, hvz, hbz⟩
    | false =>
     have hol' : out.length ≤ k' := hol
     clear hol
     have HO : Hid (out ++ [⟨p, t, c⟩] = updQ ⟨q, i, 2, p, t, c, false⟩ x.2.lv) := Lib.hid (by rw [← HUQ.out]; rfl)
     have m3 : wz.cell? ⟨gm, 3, none⟩ = some (.int .i64 p) := I1.out.ap.bm.cell 3
     have m4 : wz.cell? ⟨gm, 4, none⟩ = some (.int .i64 t) := I1.out.ap.bm.cell 4
     have m5 : wz.cell? ⟨gm, 5, none⟩ = some (.int .i64 c) := I1.out.ap.bm.cell 5
     have hba := Below.allocN wz (.cells #[.int .i64 p, .int .i64 t, .int .i64 c] 79)
     have HNB : Hid (Blk (wz.alloc (.cells #[.int .i64 p, .int .i64 t, .int .i64 c] 79)) wz.heap.size 79 (RLV.cells ⟨p, t, c⟩).toArray) := Lib.hid (Blk.new _ _ _)
     have I3 := Lib.hid (I1.out.below hba)
     have SZ3 : Hid (w.heap.size ≤ (wz.alloc (.cells #[.int .i64 p, .int .i64 t, .int .i64 c] 79)).heap.size) := Lib.hid I3.out.ap.bel.size
     clear hba
     go_wp2_with (first
      | (at_builtin; go_loud (refine RLV.push rfl (.tmp 144) (.tmp 152) rfl w.heap.size (.slice a8 out.length c8) out rfl I3.out.row wz.heap.size ⟨p, t, c⟩ rfl HNB.out.lt HNB.out.cellsAt (by omega) SZ3.out ?_)))
     intro v' w11 hr hg _
     obtain ⟨a7, c7, hvv⟩ := hr.form
     rw [show (out ++ [(⟨p, t, c⟩ : Lv)]).length = out.length + 1 by rw [List.length_append]; rfl] at hvv
     have I5 := Lib.hid (I3.out.push HLO.out hg hr)
     clear hr hg I3 HNB SZ3
     subst hvv
     obtain ⟨o2, ho2⟩ : ∃ o2, out ++ [(⟨p, t, c⟩ : Lv)] = o2 := ⟨_, rfl⟩
     have hol2 : o2.length = out.length + 1 := by rw [← ho2, List.length_append]; rfl
     rw [ho2] at HO
     rw [ho2, ← hol2] at I5
     rw [← hol2]
     clear ho2 hol2 m3 m4 m5 g0
     have g0 : w11.cell? ⟨go, i * 10 + 5, none⟩ = some (.slice pp.t.a pp.t.n pp.t.c) := rside_cells I5.out.ap.row HPP.out (s := 1) (f := 0) (u := .slice pp.t.a pp.t.n pp.t.c) (by decide) rfl
     go_upto_region 28 with (fail)
     have htg : Tyd w11 go RPR.t := own_tyd I5.out.ap.row go rfl
     have hk : Keeps (fun g => g = go) w11 (w11.setCell ⟨go, i * 10 + 5, none⟩ (.slice a7 o2.length c7)) := keep1 w11 go (i * 10 + 5) _
     have hr : RPR.Row (w11.setCell ⟨go, i * 10 + 5, none⟩ (.slice a7 o2.length c7)) w.heap.size (.slice (some ⟨go, 0, none⟩) V.length cap) (P.set i (pp.put 1 ⟨a7, o2.length, c7, (pp.sh 1).im, (pp.sh 1).has⟩)) := rputF I5.out.ap.row HPP.out (s := 1) (f := 0) (by decide) (by decide) rfl
     have hvo := I5.out.ap.lvs (s := 1) hB HPL.out HPP.out HX.out (by decide) hk hr I5.out.row HO.out
     have hgo : w.heap.size ≤ go := own_base I5.out.ap.row go rfl
     have HVS := Lib.hid hvo
     have BWS := Lib.hid (I5.out.ap.bw.keeps hk (fun e => I5.out.ap.bw.tyd.ne htg (by decide) e))
     have BRS := Lib.hid (I5.out.ap.br.keeps hk (fun e => I5.out.ap.br.tyd.ne htg (by decide) e))
     have BLS := Lib.hid (I5.out.ap.bel.trans (hk.below (B := w.heap.size) (fun k hk => by have hk2 : k = go := hk; rw [hk2]; exact hgo) I5.out.ap.bel.size))
     have z4 : w11.frozen? ⟨go, i * 10 + 5, none⟩ = false := rfzG I5.out.ap.row HPP.out _
     clear htg hk hr hvo hgo
     go_upto_region 29 with (fail)
     clear z4 g0
     generalize w11.setCell ⟨go, i * 10 + 5, none⟩ (.slice a7 o2.length c7) = ws at *
     have v0 : ws.cell? ⟨gw, 0, none⟩ = some (.slice (some ⟨go, 0, none⟩) V.length cap) := BWS.out.cell 0
     have r0 : ws.cell? ⟨gr, 0, none⟩ = some (.slice none 0 0) := BRS.out.cell 0
     have z0 : ws.frozen? ⟨gr, 0, none⟩ = false := BRS.out.frozen 0
     go_wp2_with fail
     clear v0 r0 z0
     have k0 : (ws.setCell ⟨gr, 0, none⟩ (.slice (some ⟨go, 0, none⟩) V.length cap)).cell? ⟨gr, 0, none⟩ = some (.slice (some ⟨go, 0, none⟩) V.length cap) := (BRS.out.set_ 0 (.slice (some ⟨go, 0, none⟩) V.length cap)).cell 0
     have hvz := HVS.out.keep (keep1 ws gr 0 (.slice (some ⟨go, 0, none⟩) V.length cap)) (fun k hk e => hk.ne BRS.out.tyd (by decide) e) (fun k hk e => hk.ne BRS.out.tyd (by decide) e)
     have hbz := BLS.out.setCell (p := ⟨gr, 0, none⟩) N1.out.2.2.2.2.1 (.slice (some ⟨go, 0, none⟩) V.length cap)
     refine bodyPost_ret (v := .tuple #[.agg #[.slice (some ⟨go, 0, none⟩) V.length cap], .int .i64 0]) (by simp [results, Try.results28, go_sem, k0]) rfl ⟨_, rfl, hvz, hbz⟩
end Go.Proofs.Ytmaijkoopjocdaa
