/- Merged: New NewBad LLev. -/
import Derived.Test.YtmaijkoopjocdaaLegs
import Derived.Test.YtmaijkoopjocdaaGN
/- The walk of viewer.New. -/
namespace Go.Proofs.Ytmaijkoopjocdaa
open Go.RowKit Go.Lib

theorem made_prs (n : Nat) : madeCells (Value.agg zeroPr.cells.toArray).cells (n * 10) = ((List.replicate n zeroPr).flatMap Pr.cells).toArray := by
 apply Array.toList_inj.1
 apply List.ext_getElem?
 intro j
 by_cases hj : j < n * 10
 ·have h := fm_get Pr.cells 10 (fun _ => rfl) (List.replicate n zeroPr) (j / 10) (j % 10) (by simp; omega) (by omega)
  rw [show j / 10 * 10 + j % 10 = j by omega, List.getElem_replicate] at h
  show _ = ((List.replicate n zeroPr).flatMap Pr.cells)[j]?
  rw [h]
  simp only [madeCells, Array.toList_map, Array.toList_range, List.getElem?_map, List.getElem?_range hj, Option.map_some]
  have hr : j % 10 < 10 := Nat.mod_lt _ (by omega)
  show some ((zeroPr.cells.toArray)[j % 10]!) = _
  generalize j % 10 = r at hr
  have h8 : r = 0 ∨ r = 1 ∨ r = 2 ∨ r = 3 ∨ r = 4 ∨ r = 5 ∨ r = 6 ∨ r = 7 ∨ r = 8 ∨ r = 9 := by omega
  rcases h8 with rfl | rfl | rfl | rfl | rfl | rfl | rfl | rfl | rfl | rfl <;> rfl
 ·have h1 : (madeCells (Value.agg zeroPr.cells.toArray).cells (n * 10)).toList.length = n * 10 := by rw [Array.length_toList, size_madeCells]
  rw [List.getElem?_eq_none (by omega), List.getElem?_eq_none (by
   show ((List.replicate n zeroPr).flatMap Pr.cells).length ≤ j
   rw [fm_length Pr.cells 10 (fun _ => rfl)]; simp; omega)]
/-- a view of no levels, laid anew -/
theorem VO.made {Z : Lay Pr} {Y : Lay Lv} (w : World) (hZ : Z.cells = Pr.cells) (hm : Z.m = 10) (n : Nat) (hn : n ≤ 255) : VO Z Y (w.alloc (.cells ((List.replicate n zeroPr).flatMap Pr.cells).toArray Z.t)) w.heap.size (.slice (some ⟨w.heap.size, 0, none⟩) n n) (List.replicate n (zeroSd, zeroSd)) := by
 refine ⟨List.replicate n zeroPr, ?_, by simp, fun j p x hp hx => ?_⟩
 ·unfold Lay.Row
  rw [hZ, hm, List.length_replicate]
  have hfl : ((List.replicate n zeroPr).flatMap Pr.cells).length = n * 10 := by rw [fm_length Pr.cells 10 (fun _ => rfl), List.length_replicate]
  exact ⟨hfl, .inr ⟨w.heap.size, n, _, rfl, Nat.le_refl _, Blk.new w _ _, Nat.le_refl _, by unfold maxLen; omega, by rw [List.size_toArray, hfl], by rw [List.take_of_length_le (by rw [hfl]; exact Nat.le_refl _)]⟩⟩
 ·rw [List.getElem?_replicate] at hp hx
  split at hp
  ·injection hp with hp
   rw [if_pos (by assumption)] at hx
   injection hx with hx
   subst hp; subst hx
   exact ⟨ShO.zero _ _, ShO.zero _ _⟩
  ·cases hp
theorem pr_info : (Try.prog.info? 95).map (fun i => (i.zero, i.size, i.bytes)) = some (some (.agg zeroPr.cells.toArray), 10, 112) := by kernel_rfl
theorem countN_le {n : Nat} (h : n ≤ 6) : countN n ≤ 21 := by
 have : n = 0 ∨ n = 1 ∨ n = 2 ∨ n = 3 ∨ n = 4 ∨ n = 5 ∨ n = 6 := by omega
 rcases this with rfl | rfl | rfl | rfl | rfl | rfl | rfl <;> decide
set_option maxRecDepth 20000 in
set_option maxHeartbeats 8000000 in
theorem vnew_any (p : Prod) (w : World) (hp : PV w p) (hz : checkP p = 0) :
  Calls Try.prog 5 #[p.agg] w fun e w' => ∃ pv, e = .returned (.tuple #[.pointer (some ⟨pv, 0, none⟩), .int .i64 0]) ∧ VW w w' pv (countN p.months.length) (.slice none 0 0) (newLs (countN p.months.length)) := by
 unfold Prod.agg Prod.cells
 have HB0 : Hid (Below w.heap.size w (w.alloc (.cells #[.string p.code, .slice p.ma p.months.length p.mc, .int .i64 p.tick, .int .i64 p.low, .int .i64 p.high, .int .i64 p.wide, .int .i64 p.rule, .int .i64 p.top, .int .i64 p.least, .int .i64 p.part, .slice p.sa p.settle.length p.sc] 25))) := Lib.hid (Below.allocN _ _)
 have HPC0 : Hid (PC (w.alloc (.cells #[.string p.code, .slice p.ma p.months.length p.mc, .int .i64 p.tick, .int .i64 p.low, .int .i64 p.high, .int .i64 p.wide, .int .i64 p.rule, .int .i64 p.top, .int .i64 p.least, .int .i64 p.part, .slice p.sa p.settle.length p.sc] 25)) w.heap.size p) := Lib.hid (PC.new w p)
 have HLT : Hid (w.heap.size < (w.alloc (.cells #[.string p.code, .slice p.ma p.months.length p.mc, .int .i64 p.tick, .int .i64 p.low, .int .i64 p.high, .int .i64 p.wide, .int .i64 p.rule, .int .i64 p.top, .int .i64 p.least, .int .i64 p.part, .slice p.sa p.settle.length p.sc] 25)).heap.size) := Lib.hid (by simp)
 have HP0 := Lib.hid (hp.below HB0.out)
 have hck := check_any p _ HP0.out
 unfold Prod.agg Prod.cells at hck
 rw [hz] at hck
 have HCK := Lib.hid hck
 have hcn := countN_le (check_len hz).2
 have HCP : Hid (countP p = countN p.months.length) := Lib.hid (if_pos hz)
 obtain ⟨i0, hi, hz0, hz1, hz2⟩ := info_parts pr_info
 have hmk := fun w => run_makeSlice (P := Try.prog) w 48 95 i0 _ Try.underlying48 hi hz0 .i64 .i64 (countN p.months.length) (countN p.months.length) (by omega) (by omega) (by rw [hz1]; omega) (by rw [hz2]; omega) (by omega)
 rw [hz1, Int.toNat_natCast, made_prs] at hmk
 have HMK := Lib.hid hmk
 obtain ⟨n, hn⟩ : ∃ n, countN p.months.length = n := ⟨_, rfl⟩
 rw [hn] at HMK HCP hcn ⊢
 clear hp hck hz hi hz0 hz1 hz2 hmk hn
 go_enter Try.func5, Try.ntmps5
 go_wp2_with fail
 refine HCK.out.mono ?_
 rintro e w1 ⟨rfl, hb1⟩
 have HB1 := Lib.hid (HB0.out.trans (hb1.mono HB0.out.size))
 obtain ⟨b0, b1, b2, b3, b4, b5, b6, b7, b8, b9, b10⟩ := HPC0.out.below hb1 HLT.out
 have HP1 := Lib.hid (HP0.out.below hb1)
 have hg1 : w.heap.size < w1.heap.size := Nat.lt_of_lt_of_le HLT.out hb1.size
 have hct := count_inst_any p w1 HP1.out
 unfold Prod.agg Prod.cells at hct
 rw [HCP.out] at hct
 have HCT := Lib.hid hct
 clear hct hb1 HCK
 go_wp2_with fail
 refine HCT.out.mono ?_
 rintro e w2 ⟨rfl, hb2⟩
 have HB2 := Lib.hid (HB1.out.trans (hb2.mono HB1.out.size))
 clear hb2 HCT b0 b1 b2 b3 b4 b5 b6 b7 b8 b9 b10 HP1 HB1 hg1 HB0 HPC0 HLT HP0
 have hmk := HMK.out w2
 go_wp2_with fail
 go_ret2
 have hvo := VO.made (Z := PRL) (Y := LVL) w2 rfl rfl n (by omega)
 have hb3 := Below.allocN w2 (.cells ((List.replicate n zeroPr).flatMap Pr.cells).toArray 95)
 have hb4 := Below.allocN (w2.alloc (.cells ((List.replicate n zeroPr).flatMap Pr.cells).toArray 95)) (.cells #[.int .i64 n, .slice (some ⟨w2.heap.size, 0, none⟩) n n, .int .i64 0, .slice none 0 0] 53)
 have hbx := Blk.new (w2.alloc (.cells ((List.replicate n zeroPr).flatMap Pr.cells).toArray 95)) 53 #[.int .i64 n, .slice (some ⟨w2.heap.size, 0, none⟩) n n, .int .i64 0, .slice none 0 0]
 rw [show (w2.alloc (.cells ((List.replicate n zeroPr).flatMap Pr.cells).toArray 95)).heap.size = w2.heap.size + 1 by simp] at hbx
 have hlen : (newLs n).V.length = n := List.length_replicate
 have hs2 := HB2.out.size
 refine ⟨_, rfl, ⟨some ⟨w2.heap.size, 0, none⟩, n, ?_, ?_⟩, Lay.Row.nil _ _, by omega, HB2.out.trans ((hb3.trans (hb4.mono hb3.size)).mono HB2.out.size)⟩
 ·rw [hlen]; exact hbx
 ·rw [hlen]; exact (hvo.below hb4).base hs2
end Go.Proofs.Ytmaijkoopjocdaa

/- The walk of viewer.New where the product is refused. -/
namespace Go.Proofs.Ytmaijkoopjocdaa
open Go.RowKit Go.Lib

set_option maxRecDepth 20000 in
set_option maxHeartbeats 8000000 in
theorem vnew_bad (p : Prod) (w : World) (hp : PV w p) (hz : checkP p ≠ 0) :
  Calls Try.prog 5 #[p.agg] w fun e w' => e = .returned (.tuple #[.pointer none, .int .i64 (checkP p)]) ∧ Below w.heap.size w w' := by
 unfold Prod.agg Prod.cells
 have HB0 : Hid (Below w.heap.size w (w.alloc (.cells #[.string p.code, .slice p.ma p.months.length p.mc, .int .i64 p.tick, .int .i64 p.low, .int .i64 p.high, .int .i64 p.wide, .int .i64 p.rule, .int .i64 p.top, .int .i64 p.least, .int .i64 p.part, .slice p.sa p.settle.length p.sc] 25))) := Lib.hid (Below.allocN _ _)
 have HP0 := Lib.hid (hp.below HB0.out)
 have hck := check_any p _ HP0.out
 unfold Prod.agg Prod.cells at hck
 obtain ⟨cz, hcz⟩ : ∃ z, checkP p = z := ⟨_, rfl⟩
 rw [hcz] at hck hz ⊢
 have hzb : (cz != 0) = true := by rw [bne_iff_ne]; exact hz
 have HCK := Lib.hid hck
 clear hp hck hz hcz
 go_enter Try.func5, Try.ntmps5
 go_wp2_with fail
 refine HCK.out.mono ?_
 rintro e w1 ⟨rfl, hb1⟩
 have HB1 := Lib.hid (HB0.out.trans (hb1.mono HB0.out.size))
 clear hb1 HCK HP0 HB0
 go_wp2_with fail
 go_ret2
 exact ⟨by trivial, HB1.out⟩
end Go.Proofs.Ytmaijkoopjocdaa

/- The walk of cornhilllaw21.level. -/
namespace Go.Proofs.Ytmaijkoopjocdaa
open Go.RowKit Go.Lib

set_option maxRecDepth 20000 in
set_option maxHeartbeats 2000000 in
theorem llevel_any (x : Lv) (w : World) : Calls Try.prog 60 #[x.agg] w fun e w' => e = .returned x.agg ∧ Below w.heap.size w w' := by
 unfold Lv.agg
 have HB := Lib.hid (Below.allocN w (.cells #[.int .i64 x.price, .int .i64 x.qty, .int .i64 x.count] 92))
 go_enter Try.func60, Try.ntmps60
 go_wp2_with fail
 obtain ⟨w1, hw1⟩ : ∃ w1, w.alloc (.cells #[.int .i64 x.price, .int .i64 x.qty, .int .i64 x.count] 92) = w1 := ⟨_, rfl⟩
 rw [hw1] at HB ⊢
 have hz : w1.heap.size = w.heap.size + 1 := by rw [← hw1]; simp
 have hbx := Blk.new w1 79 #[.int .i64 x.price, .int .i64 x.qty, .int .i64 x.count]
 rw [hz] at hbx
 have hb := HB.out.trans ((Below.allocN w1 (.cells #[.int .i64 x.price, .int .i64 x.qty, .int .i64 x.count] 79)).mono HB.out.size)
 have k0 := hbx.cell 0
 have k1 := hbx.cell 1
 have k2 := hbx.cell 2
 simp only [List.getElem?_toArray, List.getElem?_cons_zero, List.getElem?_cons_succ] at k0 k1 k2
 generalize w1.alloc (.cells #[.int .i64 x.price, .int .i64 x.qty, .int .i64 x.count] 79) = w2 at *
 clear hw1 hz hbx
 refine bodyPost_ret (v := .agg #[.int .i64 x.price, .int .i64 x.qty, .int .i64 x.count]) (by simp [results, Try.results60, go_sem, k0, k1, k2]) rfl ⟨rfl, hb⟩
end Go.Proofs.Ytmaijkoopjocdaa
