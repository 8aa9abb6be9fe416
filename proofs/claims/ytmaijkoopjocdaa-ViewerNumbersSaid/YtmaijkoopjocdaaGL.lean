/- Merged: VTake VGet Snp1 RGet. -/
import Derived.Test.YtmaijkoopjocdaaTak4
import Derived.Test.YtmaijkoopjocdaaTak5
/- The walk of viewer.Viewer's Take. -/
namespace Go.Proofs.Ytmaijkoopjocdaa
open Go.RowKit Go.Lib

theorem vtake_any {W w : World} {pv n : Nat} {hv : Value} {s : LSt} {cc : Nat} (h : VW W w pv n hv s) (hk : SOk n cc s) (hasc : Asc s.H) (hn : n ≤ 255) (hcc : cc ≤ 500000) {v : Value} {b : List Int} (hsl : BYL.Sl w v b) (hl : b.length ≤ 900000) (hok : ∀ z ∈ b, isByte z) :
  Calls Try.prog 8 #[.pointer (some ⟨pv, 0, none⟩), v] w fun e w' => e = .returned (.int .i64 (takeP n s b).1) ∧ ∃ hv', VW W w' pv n hv' (takeP n s b).2 ∧ Keeps (FV pv hv) w w' ∧ ∀ g, hv'.ownBlock = some g → hv.ownBlock = some g ∨ w.heap.size ≤ g := by
 unfold takeP
 cases hd : decM b with
 | none => exact take_none h hsl hl hok hd
 | some m =>
  dsimp only
  obtain ⟨q, ii, sd, p, t, c, im⟩ := m
  dsimp only
  by_cases hq : q < 1
  ·rw [if_pos (.inl hq)]; exact take_low h hk hasc hsl hl hok hd hq
  ·by_cases hf : fineC n ⟨q, ii, sd, p, t, c, im⟩ = 0
   ·have hfp := fineC_iff.1 hf
    rw [if_neg (by rintro (x | x); exact hq x; rw [hfp] at x; cases x)]
    by_cases ho : q ≤ s.seq ∨ hasQ q s.H = true
    ·rw [if_pos ho]; exact take_old h hk hasc hcc hsl hl hok hd hq hf ho
    ·rw [if_neg ho]
     by_cases he : q - 1 = s.seq
     ·rw [if_pos he]; exact take_next h hk hasc hn hcc hsl hl hok hd hq hf ho he
     ·rw [if_neg he]
      by_cases hfu : 4096 ≤ s.H.length
      ·rw [if_pos hfu]; exact take_full h hk hasc hcc hsl hl hok hd hq hf ho he hfu
      ·rw [if_neg hfu]; exact take_gap h hk hasc hsl hl hok hd hq hf ho he hfu
   ·have hfp : fineP n ⟨q, ii, sd, p, t, c, im⟩ = false := by cases hx : fineP n ⟨q, ii, sd, p, t, c, im⟩ with | false => rfl | true => exact absurd (fineC_iff.2 hx) hf
    rw [if_pos (.inr hfp)]; exact take_unfit h hk hasc hsl hl hok hd hq hf
end Go.Proofs.Ytmaijkoopjocdaa

/- The walks of viewer.Viewer's Synced, Seq, View, Held. -/
namespace Go.Proofs.Ytmaijkoopjocdaa
open Go.RowKit Go.Lib

section
variable {W w w' : World} {pv n : Nat} {hv : Value} {s : LSt}
set_option maxRecDepth 20000 in
set_option maxHeartbeats 1000000 in
theorem vsynced_any (h : VW W w pv n hv s) : Calls Try.prog 33 #[.pointer (some ⟨pv, 0, none⟩)] w fun e w' => e = .returned (.bool (decide (s.H.length = 0))) ∧ w = w' := by
 obtain ⟨a, c, hb, _⟩ := h.box
 obtain ⟨ah, ch, rfl⟩ := h.held.form
 have k3 : w.cell? ⟨pv, 3, none⟩ = some (.slice ah s.H.length ch) := hb.cell 3
 have hd : ((s.H.length : Int) == 0) = decide (s.H.length = 0) := by rw [Bool.eq_iff_iff]; simp
 have HD := Lib.hid hd
 obtain ⟨y, hy⟩ : ∃ y, ((s.H.length : Int) == 0) = y := ⟨_, rfl⟩
 rw [← HD.out, hy]
 clear hb h hd
 go_enter Try.func33, Try.ntmps33
 go_wp2_with fail
 go_ret
 exact ⟨by rw [← hy]; try rfl, by trivial⟩
set_option maxRecDepth 20000 in
set_option maxHeartbeats 1000000 in
theorem vseq_any (h : VW W w pv n hv s) : Calls Try.prog 31 #[.pointer (some ⟨pv, 0, none⟩)] w fun e w' => e = .returned (.int .i64 s.seq) ∧ w = w' := by
 obtain ⟨a, c, hb, _⟩ := h.box
 have k2 : w.cell? ⟨pv, 2, none⟩ = some (.int .i64 s.seq) := hb.cell 2
 clear hb h
 go_enter Try.func31, Try.ntmps31
 go_wp2_with fail
 go_ret
 exact ⟨by trivial, by trivial⟩
set_option maxRecDepth 20000 in
set_option maxHeartbeats 1000000 in
theorem vheld_any (h : VW W w pv n hv s) : Calls Try.prog 32 #[.pointer (some ⟨pv, 0, none⟩)] w fun e w' => e = .returned (.int .i64 s.H.length) ∧ w = w' := by
 obtain ⟨a, c, hb, _⟩ := h.box
 obtain ⟨ah, ch, rfl⟩ := h.held.form
 have k3 : w.cell? ⟨pv, 3, none⟩ = some (.slice ah s.H.length ch) := hb.cell 3
 clear hb h
 go_enter Try.func32, Try.ntmps32
 go_wp2_with fail
 go_ret
 exact ⟨by trivial, by trivial⟩
set_option maxRecDepth 20000 in
set_option maxHeartbeats 2000000 in
theorem vview_any (h : VW W w pv n hv s) (hl : s.V.length ≤ 255) {K : Nat} (hK : LenV s.V K) (hK2 : K ≤ 800000) : Calls Try.prog 36 #[.pointer (some ⟨pv, 0, none⟩)] w fun e w' => ∃ v', e = .returned (.agg #[v']) ∧ VO PRL LVL w' w.heap.size v' s.V ∧ Below w.heap.size w w' := by
 have hba := Below.allocN w (.cells #[.slice none 0 0] 50)
 obtain ⟨a, c, hb, hvo⟩ := (h.below hba).box
 have HC := Lib.hid (copy_any hvo hl hK (by omega))
 have HB := Lib.hid hb
 have HBA := Lib.hid hba
 have HG : Hid (Blk (w.alloc (.cells #[.slice none 0 0] 50)) w.heap.size 50 #[.slice none 0 0]) := Lib.hid (Blk.new _ _ _)
 clear h hba hb hvo hK
 go_enter Try.func36, Try.ntmps36
 go_upto_region 1 with (fail)
 obtain ⟨gr, hgr⟩ : ∃ gr, w.heap.size = gr := ⟨_, rfl⟩
 have HGE := Lib.hid (Nat.le_of_eq hgr)
 rw [hgr] at HG ⊢
 clear hgr
 generalize w.alloc (.cells #[.slice none 0 0] 50) = w1 at *
 have k1 : w1.cell? ⟨pv, 1, none⟩ = some (.slice a s.V.length c) := HB.out.cell 1
 go_wp2_with fail
 refine HC.out.mono ?_
 rintro e w2 ⟨v', rfl, hvd, hb2⟩
 have hvo2 := hvd.vo
 obtain ⟨a2, c2, rfl⟩ := hvo2.form
 have hg2 := HG.out.below hb2
 have r0 : w2.cell? ⟨gr, 0, none⟩ = some (.slice none 0 0) := hg2.cell 0
 have rz : w2.frozen? ⟨gr, 0, none⟩ = false := hg2.frozen 0
 have hgt : Tyd w2 gr 50 := hg2.tyd
 have HV := Lib.hid ((hvo2.base (B' := w.heap.size) HBA.out.size).keep (keep1 w2 gr 0 (.slice a2 s.V.length c2)) (fun g hg e => hg.ne hgt (by decide) e) (fun g hg e => hg.ne hgt (by decide) e))
 have HBF := Lib.hid ((HBA.out.trans (hb2.mono HBA.out.size)).setCell (p := ⟨gr, 0, none⟩) HGE.out (.slice a2 s.V.length c2))
 have HGF : Hid (Blk (w2.setCell ⟨gr, 0, none⟩ (.slice a2 s.V.length c2)) gr 50 #[.slice a2 s.V.length c2]) := Lib.hid (hg2.set_ 0 _)
 clear hvd hvo2 hg2 hgt hb2 HC HB HG HBA k1
 go_wp2_with fail
 clear r0 rz
 generalize w2.setCell ⟨gr, 0, none⟩ (.slice a2 s.V.length c2) = wf at *
 have f0 : wf.cell? ⟨gr, 0, none⟩ = some (.slice a2 s.V.length c2) := HGF.out.cell 0
 refine bodyPost_ret (v := .agg #[.slice a2 s.V.length c2]) (by simp [results, Try.results36, go_sem, f0]) rfl ⟨_, rfl, HV.out, HBF.out⟩
end
end Go.Proofs.Ytmaijkoopjocdaa

/- The walk of snap.get. -/
namespace Go.Proofs.Ytmaijkoopjocdaa
open Go.RowKit Go.Lib

section
variable {W w w' : World} {pr : Nat} {s : RS}
theorem RDR.tyd (h : RDR W w pr s) : Tyd w pr 129 := by
 obtain ⟨a, c, hb, _⟩ := h.box
 exact hb.tyd
theorem RDR.lt (h : RDR W w pr s) : pr < w.heap.size := h.tyd.lt
set_option maxRecDepth 20000 in
set_option maxHeartbeats 8000000 in
theorem get_any (h : RDR W w pr s) :
  Calls Try.prog 86 #[.pointer (some ⟨pr, 0, none⟩)] w fun e w' => e = .returned (readLv s).1.agg ∧ RDR W w' pr (readLv s).2 ∧ Keeps (fun g => g = pr) w w' := by
 obtain ⟨p, s1, h1⟩ : ∃ p t, s.long = (p, t) := ⟨_, _, rfl⟩
 obtain ⟨q, s2, h2⟩ : ∃ p t, s1.long = (p, t) := ⟨_, _, rfl⟩
 obtain ⟨c, s3, h3⟩ : ∃ p t, s2.long = (p, t) := ⟨_, _, rfl⟩
 have hv : readLv s = (⟨p, q, c⟩, s3) := by unfold readLv; simp only [h1, h2, h3]
 rw [hv]
 unfold Lv.agg
 dsimp only
 have hba := Below.allocN w (.cells #[.int .i64 0, .int .i64 0, .int .i64 0] 92)
 have R0 := Lib.hid (h.below hba)
 have HG : Hid (Blk (w.alloc (.cells #[.int .i64 0, .int .i64 0, .int .i64 0] 92)) w.heap.size 92 #[.int .i64 0, .int .i64 0, .int .i64 0]) := Lib.hid (Blk.new _ _ _)
 have K0 : Hid (Keeps (fun g => g = pr) w (w.alloc (.cells #[.int .i64 0, .int .i64 0, .int .i64 0] 92))) := Lib.hid (Below.keeps hba)
 have NP : Hid (w.heap.size ≠ pr) := Lib.hid (by have := h.lt; omega)
 have NW : Hid (W.heap.size ≤ w.heap.size) := Lib.hid h.bel.size
 have H1 := Lib.hid h1
 have H2 := Lib.hid h2
 have H3 := Lib.hid h3
 have HSZ : Hid (w.heap.size ≤ w.heap.size) := Lib.hid (Nat.le_refl _)
 clear h hba h1 h2 h3 hv
 go_enter Try.func86, Try.ntmps86
 go_upto_region 1 with (fail)
 obtain ⟨g, hg⟩ : ∃ g, w.heap.size = g := ⟨_, rfl⟩
 have HGW := Lib.hid (Nat.le_of_eq hg)
 rw [hg] at HG NP NW ⊢
 clear hg
 generalize w.alloc (.cells #[.int .i64 0, .int .i64 0, .int .i64 0] 92) = w1 at *
 go_wp2_with fail
 refine (rlong_eq R0.out H1.out).mono ?_
 rintro e w2 ⟨rfl, hr, hk⟩
 have R1 := Lib.hid hr
 have G1 := Lib.hid (HG.out.keeps hk NP.out)
 have K1 := Lib.hid (K0.out.trans hk)
 clear hr hk HG R0 K0
 go_wp2_with fail
 refine (rlong_eq R1.out H2.out).mono ?_
 rintro e w3 ⟨rfl, hr, hk⟩
 have R2 := Lib.hid hr
 have G2 := Lib.hid (G1.out.keeps hk NP.out)
 have K2 := Lib.hid (K1.out.trans hk)
 clear hr hk G1 R1 K1
 go_wp2_with fail
 refine (rlong_eq R2.out H3.out).mono ?_
 rintro e w4 ⟨rfl, hr, hk⟩
 have R3 := Lib.hid hr
 have G3 := Lib.hid (G2.out.keeps hk NP.out)
 have K3 := Lib.hid (K2.out.trans hk)
 clear hr hk G2 R2 K2
 have l0 : w4.cell? ⟨g, 0, none⟩ = some (.int .i64 0) := G3.out.cell 0
 have l1 : w4.cell? ⟨g, 1, none⟩ = some (.int .i64 0) := G3.out.cell 1
 have l2 : w4.cell? ⟨g, 2, none⟩ = some (.int .i64 0) := G3.out.cell 2
 have fz : ∀ o, w4.frozen? ⟨g, o, none⟩ = false := fun o => G3.out.frozen o
 have hkf := Keeps.fillN3 w4 g (.int .i64 p) (.int .i64 q) (.int .i64 c)
 have RF := Lib.hid (R3.out.keep hkf (Ne.symm NP.out) (fun b ht e => ht.ne G3.out.tyd (by decide) e) (fun k hk => by have hk2 : k = g := hk; rw [hk2]; exact NW.out))
 have GF := Lib.hid (G3.out.fillN3 (.int .i64 p) (.int .i64 q) (.int .i64 c))
 have KF : Hid (Keeps (fun g => g = pr) w (((w4.setCell ⟨g, 0, none⟩ (.int .i64 p)).setCell ⟨g, 1, none⟩ (.int .i64 q)).setCell ⟨g, 2, none⟩ (.int .i64 c))) := Lib.hid (K3.out.step hkf (fun k hk he => by have he2 : k = g := he; have := HGW.out; omega))
 clear hkf
 go_wp2_with fail
 clear l0 l1 l2 fz
 generalize ((w4.setCell ⟨g, 0, none⟩ (.int .i64 p)).setCell ⟨g, 1, none⟩ (.int .i64 q)).setCell ⟨g, 2, none⟩ (.int .i64 c) = wf at *
 have k0 : wf.cell? ⟨g, 0, none⟩ = some (.int .i64 p) := GF.out.cell 0
 have k1 : wf.cell? ⟨g, 1, none⟩ = some (.int .i64 q) := GF.out.cell 1
 have k2 : wf.cell? ⟨g, 2, none⟩ = some (.int .i64 c) := GF.out.cell 2
 refine bodyPost_ret (v := .agg #[.int .i64 p, .int .i64 q, .int .i64 c]) (by simp [results, Try.results86, go_sem, k0, k1, k2]) rfl ⟨rfl, RF.out, KF.out⟩
end
end Go.Proofs.Ytmaijkoopjocdaa

/- The walk of cornhillref20.read. -/
namespace Go.Proofs.Ytmaijkoopjocdaa
open Go.RowKit Go.Lib

section
variable {W w w' : World} {pr : Nat} {s : RS}
theorem RR4.tyd (h : RR4 W w pr s) : Tyd w pr 111 := by
 obtain ⟨a, c, X, p, hb, _⟩ := h.box
 exact hb.tyd
theorem RR4.lt (h : RR4 W w pr s) : pr < w.heap.size := h.tyd.lt
set_option maxRecDepth 20000 in
set_option maxHeartbeats 8000000 in
theorem rread_any (h : RR4 W w pr s) :
  Calls Try.prog 68 #[.pointer (some ⟨pr, 0, none⟩)] w fun e w' => e = .returned (readLv s).1.agg ∧ RR4 W w' pr (readLv s).2 ∧ Keeps (fun g => g = pr) w w' := by
 obtain ⟨p, s1, h1⟩ : ∃ p t, s.long = (p, t) := ⟨_, _, rfl⟩
 obtain ⟨q, s2, h2⟩ : ∃ p t, s1.long = (p, t) := ⟨_, _, rfl⟩
 obtain ⟨c, s3, h3⟩ : ∃ p t, s2.long = (p, t) := ⟨_, _, rfl⟩
 have hv : readLv s = (⟨p, q, c⟩, s3) := by unfold readLv; simp only [h1, h2, h3]
 rw [hv]
 unfold Lv.agg
 dsimp only
 have hba := Below.allocN w (.cells #[.int .i64 0, .int .i64 0, .int .i64 0] 79)
 have R0 := Lib.hid (h.below hba)
 have HG : Hid (Blk (w.alloc (.cells #[.int .i64 0, .int .i64 0, .int .i64 0] 79)) w.heap.size 79 #[.int .i64 0, .int .i64 0, .int .i64 0]) := Lib.hid (Blk.new _ _ _)
 have K0 : Hid (Keeps (fun g => g = pr) w (w.alloc (.cells #[.int .i64 0, .int .i64 0, .int .i64 0] 79))) := Lib.hid (Below.keeps hba)
 have NP : Hid (w.heap.size ≠ pr) := Lib.hid (by have := h.lt; omega)
 have NW : Hid (W.heap.size ≤ w.heap.size) := Lib.hid h.bel.size
 have H1 := Lib.hid h1
 have H2 := Lib.hid h2
 have H3 := Lib.hid h3
 have HSZ : Hid (w.heap.size ≤ w.heap.size) := Lib.hid (Nat.le_refl _)
 clear h hba h1 h2 h3 hv
 go_enter Try.func68, Try.ntmps68
 go_upto_region 1 with (fail)
 obtain ⟨g, hg⟩ : ∃ g, w.heap.size = g := ⟨_, rfl⟩
 have HGW := Lib.hid (Nat.le_of_eq hg)
 rw [hg] at HG NP NW ⊢
 clear hg
 generalize w.alloc (.cells #[.int .i64 0, .int .i64 0, .int .i64 0] 79) = w1 at *
 go_wp2_with fail
 refine (long4_eq R0.out H1.out).mono ?_
 rintro e w2 ⟨rfl, hr, hk⟩
 have R1 := Lib.hid hr
 have G1 := Lib.hid (HG.out.keeps hk NP.out)
 have K1 := Lib.hid (K0.out.trans hk)
 clear hr hk HG R0 K0
 go_wp2_with fail
 refine (long4_eq R1.out H2.out).mono ?_
 rintro e w3 ⟨rfl, hr, hk⟩
 have R2 := Lib.hid hr
 have G2 := Lib.hid (G1.out.keeps hk NP.out)
 have K2 := Lib.hid (K1.out.trans hk)
 clear hr hk G1 R1 K1
 go_wp2_with fail
 refine (long4_eq R2.out H3.out).mono ?_
 rintro e w4 ⟨rfl, hr, hk⟩
 have R3 := Lib.hid hr
 have G3 := Lib.hid (G2.out.keeps hk NP.out)
 have K3 := Lib.hid (K2.out.trans hk)
 clear hr hk G2 R2 K2
 have l0 : w4.cell? ⟨g, 0, none⟩ = some (.int .i64 0) := G3.out.cell 0
 have l1 : w4.cell? ⟨g, 1, none⟩ = some (.int .i64 0) := G3.out.cell 1
 have l2 : w4.cell? ⟨g, 2, none⟩ = some (.int .i64 0) := G3.out.cell 2
 have fz : ∀ o, w4.frozen? ⟨g, o, none⟩ = false := fun o => G3.out.frozen o
 have hkf := Keeps.fillN3 w4 g (.int .i64 p) (.int .i64 q) (.int .i64 c)
 have RF := Lib.hid (R3.out.keep hkf (Ne.symm NP.out) (fun k hk => by have hk2 : k = g := hk; rw [hk2]; exact NW.out))
 have GF := Lib.hid (G3.out.fillN3 (.int .i64 p) (.int .i64 q) (.int .i64 c))
 have KF : Hid (Keeps (fun g => g = pr) w (((w4.setCell ⟨g, 0, none⟩ (.int .i64 p)).setCell ⟨g, 1, none⟩ (.int .i64 q)).setCell ⟨g, 2, none⟩ (.int .i64 c))) := Lib.hid (K3.out.step hkf (fun k hk he => by have he2 : k = g := he; have := HGW.out; omega))
 clear hkf
 go_wp2_with fail
 clear l0 l1 l2 fz
 generalize ((w4.setCell ⟨g, 0, none⟩ (.int .i64 p)).setCell ⟨g, 1, none⟩ (.int .i64 q)).setCell ⟨g, 2, none⟩ (.int .i64 c) = wf at *
 have k0 : wf.cell? ⟨g, 0, none⟩ = some (.int .i64 p) := GF.out.cell 0
 have k1 : wf.cell? ⟨g, 1, none⟩ = some (.int .i64 q) := GF.out.cell 1
 have k2 : wf.cell? ⟨g, 2, none⟩ = some (.int .i64 c) := GF.out.cell 2
 refine bodyPost_ret (v := .agg #[.int .i64 p, .int .i64 q, .int .i64 c]) (by simp [results, Try.results68, go_sem, k0, k1, k2]) rfl ⟨rfl, RF.out, KF.out⟩
end
end Go.Proofs.Ytmaijkoopjocdaa
