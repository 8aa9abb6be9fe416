/- The walk of cornhilllaw15.LegsRules. -/
import Derived.Test.YtjjddlfbadahhaaRules
import Derived.StillTailTactics
namespace Go.Proofs.Ytjjddlfbadahhaa
open Go.RowKit

/-- a product that comes in as it may be -/
structure PIn (w : World) (p : Prod) : Prop where
  code : p.code.size ≤ maxLen
  mon : Ints w p.ma p.months
  set_ : Ints w p.sa p.settle
  mlen : p.months.length ≤ 9223372036854775807
  slen : p.settle.length ≤ 9223372036854775807
  tick : i64ok p.tick
  low : i64ok p.low
  high : i64ok p.high
  wide : i64ok p.wide
  rule : i64ok p.rule
  top : i64ok p.top
  least : i64ok p.least
  part : i64ok p.part
theorem PIn.px {w : World} {p : Prod} (h : PIn w p) : PX p := ⟨h.mlen, h.tick, h.wide, h.rule, h.top, h.least, h.part⟩
theorem countN_room : ∀ n, n ≤ 6 → 2 ≤ n → n + 1 ≤ countN n := by decide
theorem wide_div {p : Prod} (h : checkP p = 0) : ∃ d : Nat, p.wide = p.tick * d ∧ p.wide.tdiv p.tick = d ∧ d ≤ 2000000 := by
  obtain ⟨_, _, ⟨d, hd⟩, _⟩ := check_dvd h
  have ht := check_tick h
  have hb := check_band h
  have h0 : 0 ≤ d := by
    by_cases hn : d < 0
    · have := mul_bd ht.1 (i := d) (a := d) (b := -1) (Int.le_refl _) (by omega)
      omega
    · omega
  have h1 : d ≤ 2000000 := by
    have h2 := Int.mul_le_mul_of_nonneg_right (a := 1) (b := p.tick) (c := d) ht.1 h0
    omega
  refine ⟨d.toNat, by rw [Int.toNat_of_nonneg h0]; exact hd, ?_, by omega⟩
  rw [hd, Int.toNat_of_nonneg h0, Int.mul_tdiv_cancel_left _ (by omega)]
set_option maxRecDepth 100000 in
set_option maxHeartbeats 8000000 in
theorem lrules_any (px : Prod) (inst steps : Int) (w : World) (hX : PIn w px) (hi1 : -9223372036854775808 ≤ inst) (hi2 : inst ≤ 9223372036854775807) (hs1 : -9223372036854775808 ≤ steps) (hs2 : steps ≤ 9223372036854775807) :
    Calls Try.prog 6 #[px.agg, .int .i64 inst, .int .i64 steps] w fun e w' => e = .returned (.bool true) ∧ Below w.heap.size w w' := by
  have s1 : ∀ (w : World) (o : Obj), (w.alloc o).heap.size = w.heap.size + 1 := fun w o => by simp
  have hkp := keep_any px (w.alloc (.cells #[.string px.code, .slice px.ma px.months.length px.mc, .int .i64 px.tick, .int .i64 px.low, .int .i64 px.high, .int .i64 px.wide, .int .i64 px.rule, .int .i64 px.top, .int .i64 px.least, .int .i64 px.part, .slice px.sa px.settle.length px.sc] 25)) hX.px
  unfold Prod.agg Prod.cells at hkp ⊢
  have HB0 : Hid (Below w.heap.size w (w.alloc (.cells #[.string px.code, .slice px.ma px.months.length px.mc, .int .i64 px.tick, .int .i64 px.low, .int .i64 px.high, .int .i64 px.wide, .int .i64 px.rule, .int .i64 px.top, .int .i64 px.least, .int .i64 px.part, .slice px.sa px.settle.length px.sc] 25))) := Lib.hid (Below.allocN _ _)
  go_enter Try.func6, Try.ntmps6
  go_wp2_with fail
  refine hkp.mono ?_
  rintro e w1 ⟨k, ma, mc, sa, sc, hok, rfl, hpv, hb1⟩
  have hck := keep_check k hok ma mc sa sc
  have HB1 := Lib.hid (HB0.out.trans (hb1.mono HB0.out.size))
  clear hkp hb1 HB0 hX hok
  generalize k.prod ma mc sa sc = p at *
  have hD : Below w1.heap.size w1 (w1.alloc (.cells #[.string p.code, .slice p.ma p.months.length p.mc, .int .i64 p.tick, .int .i64 p.low, .int .i64 p.high, .int .i64 p.wide, .int .i64 p.rule, .int .i64 p.top, .int .i64 p.least, .int .i64 p.part, .slice p.sa p.settle.length p.sc] 25)) := Below.allocN _ _
  have hpc : PC (w1.alloc (.cells #[.string p.code, .slice p.ma p.months.length p.mc, .int .i64 p.tick, .int .i64 p.low, .int .i64 p.high, .int .i64 p.wide, .int .i64 p.rule, .int .i64 p.top, .int .i64 p.least, .int .i64 p.part, .slice p.sa p.settle.length p.sc] 25)) w1.heap.size p := PC.new w1 p
  have HLT : Hid (w1.heap.size < (w1.alloc (.cells #[.string p.code, .slice p.ma p.months.length p.mc, .int .i64 p.tick, .int .i64 p.low, .int .i64 p.high, .int .i64 p.wide, .int .i64 p.rule, .int .i64 p.top, .int .i64 p.least, .int .i64 p.part, .slice p.sa p.settle.length p.sc] 25)).heap.size) := Lib.hid (by rw [s1]; omega)
  have HB2 := Lib.hid (HB1.out.trans (hD.mono HB1.out.size))
  have HPV := Lib.hid (hpv.below hD)
  have HCK := Lib.hid hck
  have HPC := Lib.hid hpc
  clear hpv hD hpc hck HB1
  go_upto_region 2 with (fail)
  generalize (w1.alloc (.cells #[.string p.code, .slice p.ma p.months.length p.mc, .int .i64 p.tick, .int .i64 p.low, .int .i64 p.high, .int .i64 p.wide, .int .i64 p.rule, .int .i64 p.top, .int .i64 p.least, .int .i64 p.part, .slice p.sa p.settle.length p.sc] 25)) = wp at *
  obtain ⟨b0, b1, b2, b3, b4, b5, b6, b7, b8, b9, b10⟩ := HPC.out
  go_upto_region 3 with (fail)
  have hlen := check_len HCK.out
  have hwb := withI_bd inst 0 ((countN p.months.length : Int) - p.months.length - 1) (by have := countN_room p.months.length hlen.2 hlen.1; omega)
  obtain ⟨s, hs⟩ : ∃ s : Int, (p.months.length : Int) + withI inst 0 ((countN p.months.length : Int) - p.months.length - 1) = s := ⟨_, rfl⟩
  have HS := Lib.hid hs
  have hsb : (p.months.length : Int) ≤ s ∧ s < countN p.months.length := by omega
  clear hs hwb
  go_cut [8, 9] (fun u v wx => u = .int .i64 p.months.length ∧ v = .int .i64 s ∧ wp = wx)
  case first =>
    have hn : p.months.length = 2 ∨ p.months.length = 3 ∨ p.months.length = 4 ∨ p.months.length = 5 ∨ p.months.length = 6 := by omega
    clear hsb hlen
    rcases hn with hn | hn | hn | hn | hn
    · have hss : 2 + withI inst 0 0 = s := by have := HS.out; rw [hn] at this; exact this
      have hx : IntKind.i64.wrap (2 + withI inst 0 0) = s := by rw [hss]; exact IntWalk.i64_in _ (by have := withI_bd inst 0 0 (by omega); omega)
      have HSS := Lib.hid hss
      clear hss
      go_wp2_with (go_at_call 13; refine (within_any inst 0 0 _ hi1 hi2 (by omega) (by omega) (by omega)).mono ?_; rintro e w5 ⟨rfl, rfl⟩)
      go_meet
      exact ⟨by first | rfl | (rw [hn]; rfl), rfl, rfl⟩
    · have hss : 3 + withI inst 0 2 = s := by have := HS.out; rw [hn] at this; exact this
      have hx : IntKind.i64.wrap (3 + withI inst 0 2) = s := by rw [hss]; exact IntWalk.i64_in _ (by have := withI_bd inst 0 2 (by omega); omega)
      have HSS := Lib.hid hss
      clear hss
      go_wp2_with (go_at_call 13; refine (within_any inst 0 2 _ hi1 hi2 (by omega) (by omega) (by omega)).mono ?_; rintro e w5 ⟨rfl, rfl⟩)
      go_meet
      exact ⟨by first | rfl | (rw [hn]; rfl), rfl, rfl⟩
    · have hss : 4 + withI inst 0 5 = s := by have := HS.out; rw [hn] at this; exact this
      have hx : IntKind.i64.wrap (4 + withI inst 0 5) = s := by rw [hss]; exact IntWalk.i64_in _ (by have := withI_bd inst 0 5 (by omega); omega)
      have HSS := Lib.hid hss
      clear hss
      go_wp2_with (go_at_call 13; refine (within_any inst 0 5 _ hi1 hi2 (by omega) (by omega) (by omega)).mono ?_; rintro e w5 ⟨rfl, rfl⟩)
      go_meet
      exact ⟨by first | rfl | (rw [hn]; rfl), rfl, rfl⟩
    · have hss : 5 + withI inst 0 9 = s := by have := HS.out; rw [hn] at this; exact this
      have hx : IntKind.i64.wrap (5 + withI inst 0 9) = s := by rw [hss]; exact IntWalk.i64_in _ (by have := withI_bd inst 0 9 (by omega); omega)
      have HSS := Lib.hid hss
      clear hss
      go_wp2_with (go_at_call 13; refine (within_any inst 0 9 _ hi1 hi2 (by omega) (by omega) (by omega)).mono ?_; rintro e w5 ⟨rfl, rfl⟩)
      go_meet
      exact ⟨by first | rfl | (rw [hn]; rfl), rfl, rfl⟩
    · have hss : 6 + withI inst 0 14 = s := by have := HS.out; rw [hn] at this; exact this
      have hx : IntKind.i64.wrap (6 + withI inst 0 14) = s := by rw [hss]; exact IntWalk.i64_in _ (by have := withI_bd inst 0 14 (by omega); omega)
      have HSS := Lib.hid hss
      clear hss
      go_wp2_with (go_at_call 13; refine (within_any inst 0 14 _ hi1 hi2 (by omega) (by omega) (by omega)).mono ?_; rintro e w5 ⟨rfl, rfl⟩)
      go_meet
      exact ⟨by first | rfl | (rw [hn]; rfl), rfl, rfl⟩
  case rest =>
  obtain ⟨rfl, rfl, rfl⟩ := hcut
  have hcs : (p.months.length : Int) ≤ s ∧ s < countP p := by rw [countP_some HCK.out]; exact hsb
  obtain ⟨i, j, hlg, hij, hjn⟩ := legs_spread HCK.out hcs.1 hcs.2
  obtain ⟨d, hwd, hdiv, hdb⟩ := wide_div HCK.out
  have htk := check_tick HCK.out
  have hbd := check_band HCK.out
  have hgb := withI_bd steps 0 (2 * (d : Int)) (by omega)
  obtain ⟨g, hg⟩ : ∃ g : Int, withI steps 0 (2 * (d : Int)) = g := ⟨_, rfl⟩
  rw [hg] at hgb
  obtain ⟨kk, hkk⟩ : ∃ kk : Int, p.tick * (g - (d : Int)) = kk := ⟨_, rfl⟩
  have hkm := mul_bd htk.1 (i := g - (d : Int)) (a := -(d : Int)) (b := d) (by omega) (by omega)
  have hkb : -p.wide ≤ kk ∧ kk ≤ p.wide := by rw [Int.mul_neg] at hkm; omega
  have hkd : p.tick ∣ kk := ⟨_, hkk.symm⟩
  obtain ⟨y, hy⟩ : ∃ y, p.settle[j]? = some y := ⟨_, List.getElem?_eq_getElem (by rw [check_slen HCK.out]; omega)⟩
  obtain ⟨a, b, hpr, hab, hpa, hpb, hr1, hr2, ha1, ha2, hb1, hb2⟩ := rules HCK.out hcs.1 hcs.2 hkd hkb hlg (by omega) hjn hy
  have hyb := check_settle HCK.out hy
  have hsl := check_slen HCK.out
  have HSL := Lib.hid hsl
  have HHY := Lib.hid hy
  have HWI := Lib.hid fun w => within_any steps 0 (2 * (d : Int)) w hs1 hs2 (by omega) (by omega) (by omega)
  rw [hg] at HWI
  have HDIV := Lib.hid hdiv
  have HL := Lib.hid fun wz (h : PV wz p) => legs_any p s wz h
  rw [hlg] at HL
  have HPR := Lib.hid fun wz (h : PV wz p) => prices_any p s kk wz h
  rw [hpr] at HPR
  have HPA := Lib.hid fun wz (h : PV wz p) => price_any p (i : Int) a wz h
  rw [hpa] at HPA
  have HPB := Lib.hid fun wz (h : PV wz p) => price_any p (j : Int) b wz h
  rw [hpb] at HPB
  have HPY := Lib.hid fun wz (h : PV wz p) => price_any p (i : Int) (y + kk) wz h
  have HR1 := Lib.hid hr1
  have HR2 := Lib.hid hr2
  have HAB := Lib.hid hab
  have HKK := Lib.hid hkk
  unfold Prod.agg Prod.cells at HL HPR HPA HPB HPY
  have hjs : (j : Int) < (p.settle.length : Int) := by omega
  clear hlg hpr hpa hpb hr1 hr2 hab hkk hkd hkm hwd hdiv hy hg hsl hcs hsb hlen
  go_wp2_with fail
  refine (HL.out _ HPV.out).mono ?_
  rintro e w2 ⟨rfl, hb2'⟩
  have HB3 := Lib.hid (HB2.out.trans (hb2'.mono HB2.out.size))
  have HPC3 := Lib.hid (HPC.out.below hb2' HLT.out)
  have HPV3 := Lib.hid (HPV.out.below hb2')
  have HLT3 : Hid (w1.heap.size < w2.heap.size) := Lib.hid (Nat.lt_of_lt_of_le HLT.out hb2'.size)
  clear b0 b1 b2 b3 b4 b5 b6 b7 b8 b9 b10 hb2' HB2 HPC HPV HLT
  obtain ⟨b0, b1, b2, b3, b4, b5, b6, b7, b8, b9, b10⟩ := HPC3.out
  have hz1 : (p.tick == 0) = false := by rw [beq_eq_false_iff_ne]; omega
  have hz2 : (p.tick == -1) = false := by rw [beq_eq_false_iff_ne]; omega
  have hdv : p.wide.tdiv p.tick = (d : Int) := HDIV.out
  have y1 : IntKind.i64.wrap (2 * (d : Int)) = 2 * (d : Int) := IntWalk.i64_in _ (by omega)
  have y2 : IntKind.i64.wrap (g - (d : Int)) = g - (d : Int) := IntWalk.i64_in _ (by omega)
  have y3 : IntKind.i64.wrap (p.tick * (g - (d : Int))) = kk := by rw [HKK.out]; exact IntWalk.i64_in _ (by omega)
  have y4 : IntKind.i64.wrap (d : Int) = (d : Int) := IntWalk.i64_in _ (by omega)
  go_upto_region 5 with (fail)
  have HWQ : Hid (∀ n, Calls Try.prog 13 #[.int .i64 steps, .int .i64 0, .int .i64 (2 * (d : Int))] (w2.drewN n) fun e w' => e = .returned (.int .i64 g) ∧ w' = w2.drewN n) := Lib.hid fun n => (HWI.out _).mono fun e w' h => ⟨h.1, h.2.symm⟩
  go_quiet ((go_at_call 13; exact Calls.quiet_of_same (HWQ.out _)))
  have hd3 := Below.drewN_of w2 nq
  have HB4 := Lib.hid (HB3.out.trans (hd3.mono HB3.out.size))
  have HPC4 := Lib.hid (HPC3.out.below hd3 HLT3.out)
  have HPV4 := Lib.hid (HPV3.out.below hd3)
  have HLT4 : Hid (w1.heap.size < (w2.drewN nq).heap.size) := Lib.hid HLT3.out
  clear b0 b1 b2 b3 b4 b5 b6 b7 b8 b9 b10 hd3 hdv y1 y2 y3 y4 HPC3 HPV3 HLT3 HB3 HWQ hz1 hz2
  generalize w2.drewN nq = w3 at *
  obtain ⟨b0, b1, b2, b3, b4, b5, b6, b7, b8, b9, b10⟩ := HPC4.out
  go_wp2_with fail
  refine (HPR.out _ HPV4.out).mono ?_
  rintro e w4 ⟨rfl, hb5⟩
  have HB5 := Lib.hid (HB4.out.trans (hb5.mono HB4.out.size))
  have HPC5 := Lib.hid (HPC4.out.below hb5 HLT4.out)
  have HPV5 := Lib.hid (HPV4.out.below hb5)
  have HLT5 : Hid (w1.heap.size < w4.heap.size) := Lib.hid (Nat.lt_of_lt_of_le HLT4.out hb5.size)
  clear b0 b1 b2 b3 b4 b5 b6 b7 b8 b9 b10 hb5 HPC4 HPV4 HLT4 HB4
  obtain ⟨b0, b1, b2, b3, b4, b5, b6, b7, b8, b9, b10⟩ := HPC5.out
  have y5 : IntKind.i64.wrap (a - b) = kk := by rw [HAB.out]; exact IntWalk.i64_in _ (by omega)
  have y6 : (kk != kk) = false := by simp
  go_wp2_with fail
  refine (HPA.out _ HPV5.out).mono ?_
  rintro e w5 ⟨rfl, hb6⟩
  have HB6 := Lib.hid (HB5.out.trans (hb6.mono HB5.out.size))
  have HPC6 := Lib.hid (HPC5.out.below hb6 HLT5.out)
  have HPV6 := Lib.hid (HPV5.out.below hb6)
  have HLT6 : Hid (w1.heap.size < w5.heap.size) := Lib.hid (Nat.lt_of_lt_of_le HLT5.out hb6.size)
  clear b0 b1 b2 b3 b4 b5 b6 b7 b8 b9 b10 hb6 HPC5 HPV5 HLT5 HB5
  obtain ⟨b0, b1, b2, b3, b4, b5, b6, b7, b8, b9, b10⟩ := HPC6.out
  go_wp2_with fail
  refine (HPB.out _ HPV6.out).mono ?_
  rintro e w6 ⟨rfl, hb7⟩
  have HB7 := Lib.hid (HB6.out.trans (hb7.mono HB6.out.size))
  have HPC7 := Lib.hid (HPC6.out.below hb7 HLT6.out)
  have HPV7 := Lib.hid (HPV6.out.below hb7)
  have HLT7 : Hid (w1.heap.size < w6.heap.size) := Lib.hid (Nat.lt_of_lt_of_le HLT6.out hb7.size)
  clear b0 b1 b2 b3 b4 b5 b6 b7 b8 b9 b10 hb7 HPC6 HPV6 HLT6 HB6
  obtain ⟨b0, b1, b2, b3, b4, b5, b6, b7, b8, b9, b10⟩ := HPC7.out
  obtain ⟨_, sb, off, hsa, _, c0⟩ := HPV7.out.set_ j y HHY.out
  rw [hsa] at b10
  have HSA := Lib.hid hsa
  clear hsa
  have y7 : IntKind.i64.wrap (y + kk) = y + kk := IntWalk.i64_in _ (by omega)
  go_upto_region 9 with (fail)
  go_still_tail 9, (by kernel_rfl)
  change wpList _ _ _ _ _ w6.drew
  have hdr : Below w6.heap.size w6 w6.drew := Below.drewN_of w6 1
  have HB8 := Lib.hid (HB7.out.trans (hdr.mono HB7.out.size))
  have HPC8 := Lib.hid (HPC7.out.below hdr HLT7.out)
  have HPV8 := Lib.hid (HPV7.out.below hdr)
  have HLT8 : Hid (w1.heap.size < w6.drew.heap.size) := Lib.hid HLT7.out
  clear b0 b1 b2 b3 b4 b5 b6 b7 b8 b9 b10 hdr HPC7 HPV7 HLT7 HB7 c0 y5 y6 y7
  generalize w6.drew = w7 at *
  try simp only [Act.put, List.setIfInBounds_toArray, List.set_cons_zero, List.set_cons_succ]
  have hpy := HPY.out _ HPV8.out
  rw [HSA.out] at hpy
  go_wp2_with fail
  refine hpy.mono ?_
  rintro e w8 ⟨rfl, hb9⟩
  have HB9 := Lib.hid (HB8.out.trans (hb9.mono HB8.out.size))
  have HPC9 := Lib.hid (HPC8.out.below hb9 HLT8.out)
  have HPV9 := Lib.hid (HPV8.out.below hb9)
  clear hb9 HPC8 HPV8 HLT8 HB8 hpy
  obtain ⟨b0, b1, b2, b3, b4, b5, b6, b7, b8, b9, b10⟩ := HPC9.out
  obtain ⟨_, sb2, off2, hsa2, _, c0⟩ := HPV9.out.set_ j y HHY.out
  rw [hsa2] at b10
  clear hsa2
  by_cases hz : priceP p (i : Int) (y + kk) = 0
  · obtain rfl : b = y := HR1.out hz
    rw [hz]
    clear hz
    go_wp2_with fail
    refine (known15_any _).mono ?_
    rintro e w9 ⟨rfl, hb10⟩
    go_wp2_with fail
    go_ret
    exact ⟨by trivial, HB9.out.trans (hb10.mono HB9.out.size)⟩
  · have hp1 : (priceP p (i : Int) (y + kk) == 0) = false := by rw [beq_eq_false_iff_ne]; exact hz
    have hor := HR2.out hz
    clear hz
    generalize priceP p (i : Int) (y + kk) = pr at *
    by_cases hah : a = p.high
    · subst hah
      clear hor
      go_wp2_with fail
      refine (known15_any _).mono ?_
      rintro e w9 ⟨rfl, hb10⟩
      go_wp2_with fail
      go_ret
      exact ⟨by trivial, HB9.out.trans (hb10.mono HB9.out.size)⟩
    · have e1 : (a == p.high) = false := by rw [beq_eq_false_iff_ne]; exact hah
      have hal : a = p.low := by
        rcases hor with h | h
        · exact absurd h hah
        · exact h
      clear hah hor
      subst hal
      go_wp2_with fail
      refine (known15_any _).mono ?_
      rintro e w9 ⟨rfl, hb10⟩
      go_wp2_with fail
      go_ret
      exact ⟨by trivial, HB9.out.trans (hb10.mono HB9.out.size)⟩
end Go.Proofs.Ytjjddlfbadahhaa
