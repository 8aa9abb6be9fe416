/- How the document's listener lies; the walks of cornhillref21's New and held. -/
import Derived.Test.YtmaijkoopjocdaaGL
import Derived.Test.YtmaijkoopjocdaaRCount
import Derived.Test.YtmaijkoopjocdaaGO
namespace Go.Proofs.Ytmaijkoopjocdaa
open Go.RowKit Go.Lib

structure RW (W w : World) (pw : Nat) (hw : Value) (s : LSt) : Prop where
 box : ∃ (a : Option Addr) (c : Nat), Blk w pw 55 #[.slice a s.V.length c, .int .i64 s.seq, hw] ∧ VO RPR RLV w W.heap.size (.slice a s.V.length c) s.V
 held : MSG.Row w W.heap.size hw s.H
 base : W.heap.size ≤ pw
 bel : Below W.heap.size W w
section
variable {W w w' : World} {pw : Nat} {hw : Value} {s : LSt}
theorem RW.keep {F : Nat → Prop} (h : RW W w pw hw s) (hk : Keeps F w w') (hp : ¬ F pw) (hh : ∀ g, hw.ownBlock = some g → ¬ F g) (hy : ∀ g, Tyd w g RPR.t → ¬ F g) (hz : ∀ g, Tyd w g RLV.t → ¬ F g) (hF : ∀ g, F g → W.heap.size ≤ g) : RW W w' pw hw s := by
 obtain ⟨⟨a, c, h1, h2⟩, h3, h4, h5⟩ := h
 exact ⟨⟨a, c, h1.keeps hk hp, h2.keep hk hy hz⟩, h3.keep' hk hh, h4, h5.trans (hk.below hF h5.size)⟩
theorem RW.below (h : RW W w pw hw s) (hb : Below w.heap.size w w') : RW W w' pw hw s :=
 h.keep (F := fun _ => False) (Below.keeps hb) (fun x => x) (fun _ _ x => x) (fun _ _ x => x) (fun _ _ x => x) (fun _ x => x.elim)
theorem RW.seq_ (h : RW W w pw hw s) (q : Int) : RW W (w.setCell ⟨pw, 1, none⟩ (.int .i64 q)) pw hw ⟨s.V, q, s.H⟩ := by
 obtain ⟨⟨a, c, h1, h2⟩, h3, h4, h5⟩ := h
 have hk := keep1 w pw 1 (.int .i64 q)
 have hb := h1.set_ 1 (.int .i64 q)
 simp only [List.setIfInBounds_toArray, List.set_cons_zero, List.set_cons_succ] at hb
 exact ⟨⟨a, c, hb, h2.keep hk (fun g hg e => hg.ne h1.tyd (by decide) e) (fun g hg e => hg.ne h1.tyd (by decide) e)⟩, h3.keep hk (fun g hg e => hg.ne h1.tyd (by decide) e), h4, h5.setCell (p := ⟨pw, 1, none⟩) h4 _⟩
theorem RW.view_ {V : Vw} {a : Option Addr} {c : Nat} (h : RW W w pw hw s) (hv2 : VO RPR RLV w W.heap.size (.slice a V.length c) V) : RW W (w.setCell ⟨pw, 0, none⟩ (.slice a V.length c)) pw hw ⟨V, s.seq, s.H⟩ := by
 obtain ⟨⟨a0, c0, h1, h2⟩, h3, h4, h5⟩ := h
 have hk := keep1 w pw 0 (.slice a V.length c)
 have hb := h1.set_ 0 (.slice a V.length c)
 simp only [List.setIfInBounds_toArray, List.set_cons_zero] at hb
 exact ⟨⟨a, c, hb, hv2.keep hk (fun g hg e => hg.ne h1.tyd (by decide) e) (fun g hg e => hg.ne h1.tyd (by decide) e)⟩, h3.keep hk (fun g hg e => hg.ne h1.tyd (by decide) e), h4, h5.setCell (p := ⟨pw, 0, none⟩) h4 _⟩
theorem RW.held_ {H : List Mg} {hw' : Value} (h : RW W w pw hw s) (hr : MSG.Row w W.heap.size hw' H) : RW W (w.setCell ⟨pw, 2, none⟩ hw') pw hw' ⟨s.V, s.seq, H⟩ := by
 obtain ⟨⟨a, c, h1, h2⟩, h3, h4, h5⟩ := h
 have hk := keep1 w pw 2 hw'
 have hb := h1.set_ 2 hw'
 simp only [List.setIfInBounds_toArray, List.set_cons_zero, List.set_cons_succ] at hb
 exact ⟨⟨a, c, hb, h2.keep hk (fun g hg e => hg.ne h1.tyd (by decide) e) (fun g hg e => hg.ne h1.tyd (by decide) e)⟩, hr.keep hk (fun g hg e => hg.ne h1.tyd (by decide) e), h4, h5.setCell (p := ⟨pw, 2, none⟩) h4 _⟩
theorem rpr_info : (Try.prog.info? 82).map (fun i => (i.zero, i.size, i.bytes)) = some (some (.agg zeroPr.cells.toArray), 10, 112) := by kernel_rfl
theorem countP_nat (p : Prod) : ∃ n : Nat, countP p = n ∧ n ≤ 21 := by
 unfold countP
 split
 ·rename_i h; exact ⟨_, rfl, countN_le (check_len h).2⟩
 ·exact ⟨0, rfl, by decide⟩
set_option maxRecDepth 20000 in
set_option maxHeartbeats 8000000 in
theorem rnew_any (p : Prod) (w : World) (hp : PV w p) :
  Calls Try.prog 6 #[p.agg] w fun e w' => ∃ pw, e = .returned (.pointer (some ⟨pw, 0, none⟩)) ∧ RW w w' pw (.slice none 0 0) (newLs (countP p).toNat) := by
 obtain ⟨n, hn, hn21⟩ := countP_nat p
 have HB0 : Hid (Below w.heap.size w (w.alloc (.cells #[.string p.code, .slice p.ma p.months.length p.mc, .int .i64 p.tick, .int .i64 p.low, .int .i64 p.high, .int .i64 p.wide, .int .i64 p.rule, .int .i64 p.top, .int .i64 p.least, .int .i64 p.part, .slice p.sa p.settle.length p.sc] 25))) := Lib.hid (Below.allocN _ _)
 have HP0 := Lib.hid (hp.below HB0.out)
 have hct := rcount_inst_any p _ HP0.out
 unfold Prod.agg Prod.cells at hct ⊢
 rw [hn] at hct ⊢
 rw [Int.toNat_natCast]
 have HCT := Lib.hid hct
 obtain ⟨i0, hi, hz0, hz1, hz2⟩ := info_parts rpr_info
 have hmk := fun w => run_makeSlice (P := Try.prog) w 42 82 i0 _ Try.underlying42 hi hz0 .i64 .i64 n n (by omega) (by omega) (by rw [hz1]; omega) (by rw [hz2]; omega) (by omega)
 rw [hz1, Int.toNat_natCast, made_prs] at hmk
 have HMK := Lib.hid hmk
 clear hp hct hi hz0 hz1 hz2 hmk hn
 go_enter Try.func6, Try.ntmps6
 go_wp2_with fail
 refine HCT.out.mono ?_
 rintro e w2 ⟨rfl, hb2⟩
 have HB2 := Lib.hid (HB0.out.trans (hb2.mono HB0.out.size))
 clear hb2 HCT HB0 HP0
 have hmk := HMK.out w2
 go_wp2_with fail
 go_ret
 have hvo := VO.made (Z := RPR) (Y := RLV) w2 rfl rfl n (by omega)
 have hb3 := Below.allocN w2 (.cells ((List.replicate n zeroPr).flatMap Pr.cells).toArray 82)
 have hb4 := Below.allocN (w2.alloc (.cells ((List.replicate n zeroPr).flatMap Pr.cells).toArray 82)) (.cells #[.slice (some ⟨w2.heap.size, 0, none⟩) n n, .int .i64 0, .slice none 0 0] 55)
 have hbx := Blk.new (w2.alloc (.cells ((List.replicate n zeroPr).flatMap Pr.cells).toArray 82)) 55 #[.slice (some ⟨w2.heap.size, 0, none⟩) n n, .int .i64 0, .slice none 0 0]
 rw [show (w2.alloc (.cells ((List.replicate n zeroPr).flatMap Pr.cells).toArray 82)).heap.size = w2.heap.size + 1 by simp] at hbx
 have hlen : (newLs n).V.length = n := List.length_replicate
 have hs2 := HB2.out.size
 refine ⟨_, rfl, ⟨some ⟨w2.heap.size, 0, none⟩, n, ?_, ?_⟩, Lay.Row.nil _ _, by omega, HB2.out.trans ((hb3.trans (hb4.mono hb3.size)).mono HB2.out.size)⟩
 ·rw [hlen]; exact hbx
 ·rw [hlen]; exact (hvo.below hb4).base hs2
/-! ### which of those that are held -/
def heldI (q : Int) : Nat → List Mg → Int
 | _, [] => -1
 | k, m :: t => if m.seq = q then (k : Int) else heldI q (k + 1) t
theorem heldI_eq (q : Int) : ∀ (H : List Mg) (k : Nat), heldI q k H = match H.findIdx? (fun m => m.seq == q) with | none => -1 | some j => ((k + j : Nat) : Int)
 | [], _ => rfl
 | m :: t, k => by
  unfold heldI
  rw [List.findIdx?_cons, heldI_eq q t (k + 1)]
  by_cases h : m.seq = q
  ·have hb : (m.seq == q) = true := by rw [beq_iff_eq]; exact h
   rw [if_pos h, hb]; simp
  ·have hb : (m.seq == q) = false := by rw [beq_eq_false_iff_ne]; exact h
   rw [if_neg h, hb]
   cases t.findIdx? (fun m => m.seq == q) with
   | none => rfl
   | some j =>
    show ((k + 1 + j : Nat) : Int) = ((k + (j + 1) : Nat) : Int)
    rw [show k + 1 + j = k + (j + 1) by omega]
set_option maxRecDepth 20000 in
set_option maxHeartbeats 8000000 in
theorem held_any (h : RW W w pw hw s) (hl : s.H.length ≤ 500000) (q : Int) :
  Calls Try.prog 29 #[.pointer (some ⟨pw, 0, none⟩), .int .i64 q] w fun e w' => e = .returned (.int .i64 (heldI q 0 s.H)) ∧ w = w' := by
 obtain ⟨a0, c0, hbx, _⟩ := h.box
 obtain ⟨ah, ch, rfl⟩ := h.held.form
 have HBX := Lib.hid hbx
 have HH := Lib.hid h.held
 have b2 : w.cell? ⟨pw, 2, none⟩ = some (.slice ah s.H.length ch) := hbx.cell 2
 clear hbx h
 go_enter Try.func29, Try.ntmps29
 go_wp2_with fail
 go_loopw [5] (fun i w' => ∃ k : Nat, i = .int .i64 k ∧ k ≤ s.H.length ∧ heldI q 0 s.H = heldI q k (s.H.drop k) ∧ w = w') (fun i _ => s.H.length - (RowKit.intOf i).toNat)
 case atStart => exact ⟨0, rfl, Nat.zero_le _, rfl, by trivial⟩
 case round =>
  obtain ⟨k, rfl, hk, hrf, rfl⟩ := hrel
  have HRF := Lib.hid hrf
  clear hrf
  by_cases hlt : k < s.H.length
  ·have hlt' : (k : Int) < (s.H.length : Int) := by omega
   obtain ⟨x, hx⟩ : ∃ x, s.H[k]? = some x := ⟨_, List.getElem?_eq_getElem hlt⟩
   obtain ⟨gb, cap, he, _, hcx⟩ := HH.out.at_ k x hx
   injection he with he1 _ he3
   subst he1
   subst he3
   have x0 : w.cell? ⟨gb, k * 7, none⟩ = some (.int .i64 x.seq) := hcx 0 _ rfl
   have HST : Hid (heldI q k (s.H.drop k) = if x.seq = q then (k : Int) else heldI q (k + 1) (s.H.drop (k + 1))) := Lib.hid (by
    obtain ⟨h1, h2⟩ := get_of hx
    rw [List.drop_eq_getElem_cons h1, h2]; rfl)
   clear hcx hx
   by_cases hq : x.seq = q
   ·have HF : Hid (heldI q 0 s.H = k) := Lib.hid (by rw [HRF.out, HST.out, if_pos hq])
    have hqb : (x.seq == q) = true := by rw [beq_iff_eq]; exact hq
    clear hq
    go_wp2_with fail
    go_ret
    exact ⟨by rw [HF.out]; try rfl, by trivial⟩
   ·have HF : Hid (heldI q 0 s.H = heldI q (k + 1) (s.H.drop (k + 1))) := Lib.hid (by rw [HRF.out, HST.out, if_neg hq])
    have hqb : (x.seq == q) = false := by rw [beq_eq_false_iff_ne]; exact hq
    clear hq
    go_wp2_with fail
    go_roundw
    case rel => exact ⟨k + 1, by go_num, hlt, HF.out, by trivial⟩
    case measure => simp [RowKit.intOf]; omega
  ·have hkl : k = s.H.length := by omega
   have HF : Hid (heldI q 0 s.H = -1) := Lib.hid (by rw [HRF.out, hkl, List.drop_length]; rfl)
   clear hkl
   go_wp2_with fail
   go_ret
   exact ⟨by rw [HF.out]; try rfl, by trivial⟩
end
end Go.Proofs.Ytmaijkoopjocdaa
