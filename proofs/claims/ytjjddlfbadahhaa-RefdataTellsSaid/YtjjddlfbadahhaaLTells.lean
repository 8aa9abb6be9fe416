/- The walk of cornhilllaw15.LegsTells. -/
import Derived.Test.YtjjddlfbadahhaaShort
import Derived.Test.YtjjddlfbadahhaaKnown
import Derived.Test.YtjjddlfbadahhaaLRules
import Derived.Test.YtjjddlfbadahhaaLim2
namespace Go.Proofs.Ytjjddlfbadahhaa
open Go.RowKit

theorem PIn.below {w w' : World} {p : Prod} (h : PIn w p) (hb : Below w.heap.size w w') : PIn w' p :=
  ⟨h.code, h.mon.below hb, h.set_.below hb, h.mlen, h.slen, h.tick, h.low, h.high, h.wide, h.rule, h.top, h.least, h.part⟩
theorem short_pv {w : World} {p : Prod} (hp : PIn w p) : PV w (shortP p) :=
  ⟨Nat.le_trans (headS_le p.code 20) (by omega), hp.mon.take 8, hp.set_.take 8, by show (p.months.take 8).length ≤ 1000000; rw [List.length_take]; omega, by show (p.settle.take 8).length ≤ 1000000; rw [List.length_take]; omega, hp.tick, hp.low, hp.high, hp.wide⟩
theorem short_px {w : World} {p : Prod} (hp : PIn w p) : PX (shortP p) :=
  ⟨by show (p.months.take 8).length ≤ 9223372036854775807; rw [List.length_take]; omega, hp.tick, hp.wide, hp.rule, hp.top, hp.least, hp.part⟩
/-- where a walk stands that has two products in blocks -/
structure Two (w w1 : World) (gx gp : Nat) (x p : Prod) : Prop where
  bel : Below w.heap.size w w1
  xc : PC w1 gx x
  pc : PC w1 gp p
  xv : PV w1 x
  pv : PV w1 p
  xlt : gx < w1.heap.size
  plt : gp < w1.heap.size
theorem Two.next {w w1 w2 : World} {gx gp : Nat} {x p : Prod} (h : Two w w1 gx gp x p) (hb : Below w1.heap.size w1 w2) : Two w w2 gx gp x p :=
  ⟨h.bel.trans (hb.mono h.bel.size), h.xc.below hb h.xlt, h.pc.below hb h.plt, h.xv.below hb, h.pv.below hb, Nat.lt_of_lt_of_le h.xlt hb.size, Nat.lt_of_lt_of_le h.plt hb.size⟩
theorem Blk.below {w w' : World} {g : Nat} {t : TypeId} {cs : Array Value} (h : Blk w g t cs) (hb : Below w.heap.size w w') : Blk w' g t cs := h.keeps (Below.keeps (F := fun _ => False) hb) (fun x => x)

set_option maxRecDepth 100000 in
set_option maxHeartbeats 8000000 in
theorem ltells_any (px : Prod) (inst price steps : Int) (w : World) (hX : PIn w px) (hc1 : px.months.length ≤ px.mc) (hc2 : px.settle.length ≤ px.sc) (hi1 : -9223372036854775808 ≤ inst) (hi2 : inst ≤ 9223372036854775807) (_ : -9223372036854775808 ≤ price) (_ : price ≤ 9223372036854775807) (hs1 : -9223372036854775808 ≤ steps) (hs2 : steps ≤ 9223372036854775807) :
    Calls Try.prog 5 #[px.agg, .int .i64 inst, .int .i64 price, .int .i64 steps] w fun e w' => e = .returned (.bool true) ∧ Below w.heap.size w w' := by
  have s1 : ∀ (w : World) (o : Obj), (w.alloc o).heap.size = w.heap.size + 1 := fun w o => by simp
  have hsh := short_any px (w.alloc (.cells #[.string px.code, .slice px.ma px.months.length px.mc, .int .i64 px.tick, .int .i64 px.low, .int .i64 px.high, .int .i64 px.wide, .int .i64 px.rule, .int .i64 px.top, .int .i64 px.least, .int .i64 px.part, .slice px.sa px.settle.length px.sc] 25)) (hX.below (Below.allocN _ _)) hc1 hc2
  have HXV := Lib.hid fun (w' : World) (hb : Below w.heap.size w w') => (short_pv hX).below hb
  have HXX := Lib.hid (short_px hX)
  have hx0 : Blk (w.alloc (.cells #[.string px.code, .slice px.ma px.months.length px.mc, .int .i64 px.tick, .int .i64 px.low, .int .i64 px.high, .int .i64 px.wide, .int .i64 px.rule, .int .i64 px.top, .int .i64 px.least, .int .i64 px.part, .slice px.sa px.settle.length px.sc] 25)) w.heap.size 25 px.cells := Blk.new _ _ _
  have hb0 : Below w.heap.size w (w.alloc (.cells #[.string px.code, .slice px.ma px.months.length px.mc, .int .i64 px.tick, .int .i64 px.low, .int .i64 px.high, .int .i64 px.wide, .int .i64 px.rule, .int .i64 px.top, .int .i64 px.least, .int .i64 px.part, .slice px.sa px.settle.length px.sc] 25)) := Below.allocN _ _
  generalize shortP px = x at *
  unfold Prod.agg Prod.cells at hsh ⊢
  go_enter Try.func5, Try.ntmps5
  go_wp2_with fail
  refine hsh.mono ?_
  rintro e w1 ⟨rfl, _, hb1⟩
  have hx1 := hx0.below hb1
  have HB1 := Lib.hid (hb0.trans (hb1.mono hb0.size))
  have hg : ∀ i, w1.cell? ⟨w.heap.size, i, none⟩ = px.cells[i]? := fun i => hx1.cell i
  unfold Prod.cells at hg
  have d0 := hg 0
  have d1 := hg 1
  have d2 := hg 2
  have d3 := hg 3
  have d4 := hg 4
  have d5 := hg 5
  have d6 := hg 6
  have d7 := hg 7
  have d8 := hg 8
  have d9 := hg 9
  have d10 := hg 10
  have fz : ∀ i, w1.frozen? ⟨w.heap.size, i, none⟩ = false := fun i => hx1.frozen i
  clear hg hsh hx0 hb0 hb1 hX
  have HX1 := Lib.hid hx1
  clear hx1
  go_upto_region 2 with (fail)
  clear d0 d1 d2 d3 d4 d5 d6 d7 d8 d9 d10 fz
  have hk2 : Keeps (fun g => g = w.heap.size) w1 (((((((((((w1.setCell ⟨w.heap.size, 0, none⟩ (.string x.code)).setCell ⟨w.heap.size, 1, none⟩ (.slice x.ma x.months.length x.mc)).setCell ⟨w.heap.size, 2, none⟩ (.int .i64 x.tick)).setCell ⟨w.heap.size, 3, none⟩ (.int .i64 x.low)).setCell ⟨w.heap.size, 4, none⟩ (.int .i64 x.high)).setCell ⟨w.heap.size, 5, none⟩ (.int .i64 x.wide)).setCell ⟨w.heap.size, 6, none⟩ (.int .i64 x.rule)).setCell ⟨w.heap.size, 7, none⟩ (.int .i64 x.top)).setCell ⟨w.heap.size, 8, none⟩ (.int .i64 x.least)).setCell ⟨w.heap.size, 9, none⟩ (.int .i64 x.part)).setCell ⟨w.heap.size, 10, none⟩ (.slice x.sa x.settle.length x.sc)) := Keeps.fill _ _ _ _ _ _ _ _ _ _ _ _ _
  have hB2 : Blk (((((((((((w1.setCell ⟨w.heap.size, 0, none⟩ (.string x.code)).setCell ⟨w.heap.size, 1, none⟩ (.slice x.ma x.months.length x.mc)).setCell ⟨w.heap.size, 2, none⟩ (.int .i64 x.tick)).setCell ⟨w.heap.size, 3, none⟩ (.int .i64 x.low)).setCell ⟨w.heap.size, 4, none⟩ (.int .i64 x.high)).setCell ⟨w.heap.size, 5, none⟩ (.int .i64 x.wide)).setCell ⟨w.heap.size, 6, none⟩ (.int .i64 x.rule)).setCell ⟨w.heap.size, 7, none⟩ (.int .i64 x.top)).setCell ⟨w.heap.size, 8, none⟩ (.int .i64 x.least)).setCell ⟨w.heap.size, 9, none⟩ (.int .i64 x.part)).setCell ⟨w.heap.size, 10, none⟩ (.slice x.sa x.settle.length x.sc)) w.heap.size 25 x.cells := HX1.out.fill _ _ _ _ _ _ _ _ _ _ _
  have hb2 : Below w.heap.size w (((((((((((w1.setCell ⟨w.heap.size, 0, none⟩ (.string x.code)).setCell ⟨w.heap.size, 1, none⟩ (.slice x.ma x.months.length x.mc)).setCell ⟨w.heap.size, 2, none⟩ (.int .i64 x.tick)).setCell ⟨w.heap.size, 3, none⟩ (.int .i64 x.low)).setCell ⟨w.heap.size, 4, none⟩ (.int .i64 x.high)).setCell ⟨w.heap.size, 5, none⟩ (.int .i64 x.wide)).setCell ⟨w.heap.size, 6, none⟩ (.int .i64 x.rule)).setCell ⟨w.heap.size, 7, none⟩ (.int .i64 x.top)).setCell ⟨w.heap.size, 8, none⟩ (.int .i64 x.least)).setCell ⟨w.heap.size, 9, none⟩ (.int .i64 x.part)).setCell ⟨w.heap.size, 10, none⟩ (.slice x.sa x.settle.length x.sc)) := HB1.out.trans (hk2.below (fun g hg => by have hg' : g = w.heap.size := hg; omega) HB1.out.size)
  clear hk2 HX1 HB1
  generalize (((((((((((w1.setCell ⟨w.heap.size, 0, none⟩ (.string x.code)).setCell ⟨w.heap.size, 1, none⟩ (.slice x.ma x.months.length x.mc)).setCell ⟨w.heap.size, 2, none⟩ (.int .i64 x.tick)).setCell ⟨w.heap.size, 3, none⟩ (.int .i64 x.low)).setCell ⟨w.heap.size, 4, none⟩ (.int .i64 x.high)).setCell ⟨w.heap.size, 5, none⟩ (.int .i64 x.wide)).setCell ⟨w.heap.size, 6, none⟩ (.int .i64 x.rule)).setCell ⟨w.heap.size, 7, none⟩ (.int .i64 x.top)).setCell ⟨w.heap.size, 8, none⟩ (.int .i64 x.least)).setCell ⟨w.heap.size, 9, none⟩ (.int .i64 x.part)).setCell ⟨w.heap.size, 10, none⟩ (.slice x.sa x.settle.length x.sc)) = w2 at *
  have HX2 := Lib.hid hB2
  have HB2 := Lib.hid hb2
  have HXC := Lib.hid (PC.of5 hB2)
  clear hB2 hb2
  have hkp := keep_any x w2 HXX.out
  unfold Prod.agg Prod.cells at hkp
  obtain ⟨b0, b1, b2, b3, b4, b5, b6, b7, b8, b9, b10⟩ := HXC.out
  go_wp2_with fail
  refine hkp.mono ?_
  rintro e w3 ⟨kp, ma, mc, sa, sc, hok, rfl, hpv, hb3⟩
  have hck := keep_check kp hok ma mc sa sc
  have HB3 := Lib.hid (HB2.out.trans (hb3.mono HB2.out.size))
  have HX3 := Lib.hid (HX2.out.below hb3)
  clear hkp hok b0 b1 b2 b3 b4 b5 b6 b7 b8 b9 b10 HXC HX2 HB2 hb3
  generalize kp.prod ma mc sa sc = p at *
  clear kp ma mc sa sc
  go_upto_region 3 with (fail)
  have T4 : Hid (Two w (w3.alloc (.cells #[.string p.code, .slice p.ma p.months.length p.mc, .int .i64 p.tick, .int .i64 p.low, .int .i64 p.high, .int .i64 p.wide, .int .i64 p.rule, .int .i64 p.top, .int .i64 p.least, .int .i64 p.part, .slice p.sa p.settle.length p.sc] 25)) w.heap.size w3.heap.size x p) := Lib.hid ⟨HB3.out.trans ((Below.allocN _ _).mono HB3.out.size), PC.of5 (HX3.out.alloc _), PC.new w3 p, HXV.out _ (HB3.out.trans ((Below.allocN _ _).mono HB3.out.size)), hpv.below (Below.allocN _ _), by have := HX3.out.lt; rw [s1]; omega, by rw [s1]; omega⟩
  have HCK := Lib.hid hck
  clear hpv hck HX3 HB3 HXV HXX
  generalize (w3.alloc (.cells #[.string p.code, .slice p.ma p.months.length p.mc, .int .i64 p.tick, .int .i64 p.low, .int .i64 p.high, .int .i64 p.wide, .int .i64 p.rule, .int .i64 p.top, .int .i64 p.least, .int .i64 p.part, .slice p.sa p.settle.length p.sc] 25)) = w4 at *
  have hlen := check_len HCK.out
  have htk := check_tick HCK.out
  obtain ⟨b0, b1, b2, b3, b4, b5, b6, b7, b8, b9, b10⟩ := T4.out.pc
  go_upto_region 4 with (fail)
  have hwb := withI_bd inst 0 ((countN p.months.length : Int) - p.months.length - 1) (by have := countN_room p.months.length hlen.2 hlen.1; omega)
  obtain ⟨s, hs⟩ : ∃ s : Int, (p.months.length : Int) + withI inst 0 ((countN p.months.length : Int) - p.months.length - 1) = s := ⟨_, rfl⟩
  have HS := Lib.hid hs
  clear hs hwb
  go_cut [10, 11] (fun u v wx => u = .int .i64 p.months.length ∧ v = .int .i64 s ∧ w4 = wx)
  case first =>
    have hn : p.months.length = 2 ∨ p.months.length = 3 ∨ p.months.length = 4 ∨ p.months.length = 5 ∨ p.months.length = 6 := by omega
    clear hlen
    rcases hn with hn | hn | hn | hn | hn
    · have hss : 2 + withI inst 0 0 = s := by have := HS.out; rw [hn] at this; exact this
      have hx : IntKind.i64.wrap (2 + withI inst 0 0) = s := by rw [hss]; exact IntWalk.i64_in _ (by have := withI_bd inst 0 0 (by omega); omega)
      have HSS := Lib.hid hss
      clear hss
      go_wp2_with (go_at_call 13; refine (within_any inst 0 0 _ hi1 hi2 (by omega) (by omega) (by omega)).mono ?_; rintro e w5 ⟨rfl, rfl⟩)
      go_meet
      exact ⟨by first | rfl | (rw [hn]; rfl), rfl, rfl⟩
    · have hss : 3 + withI inst 0 2 = s := by have := HS.out; rw [hn] at this; exact this
      have hx : IntKind.i64.wrap (3 + withI inst 0 2) = s := by rw [hss]; exact IntWalk.i64_in _ (by have := withI_bd inst 0 2 (by omega); omega)
      have HSS := Lib.hid hss
      clear hss
      go_wp2_with (go_at_call 13; refine (within_any inst 0 2 _ hi1 hi2 (by omega) (by omega) (by omega)).mono ?_; rintro e w5 ⟨rfl, rfl⟩)
      go_meet
      exact ⟨by first | rfl | (rw [hn]; rfl), rfl, rfl⟩
    · have hss : 4 + withI inst 0 5 = s := by have := HS.out; rw [hn] at this; exact this
      have hx : IntKind.i64.wrap (4 + withI inst 0 5) = s := by rw [hss]; exact IntWalk.i64_in _ (by have := withI_bd inst 0 5 (by omega); omega)
      have HSS := Lib.hid hss
      clear hss
      go_wp2_with (go_at_call 13; refine (within_any inst 0 5 _ hi1 hi2 (by omega) (by omega) (by omega)).mono ?_; rintro e w5 ⟨rfl, rfl⟩)
      go_meet
      exact ⟨by first | rfl | (rw [hn]; rfl), rfl, rfl⟩
    · have hss : 5 + withI inst 0 9 = s := by have := HS.out; rw [hn] at this; exact this
      have hx : IntKind.i64.wrap (5 + withI inst 0 9) = s := by rw [hss]; exact IntWalk.i64_in _ (by have := withI_bd inst 0 9 (by omega); omega)
      have HSS := Lib.hid hss
      clear hss
      go_wp2_with (go_at_call 13; refine (within_any inst 0 9 _ hi1 hi2 (by omega) (by omega) (by omega)).mono ?_; rintro e w5 ⟨rfl, rfl⟩)
      go_meet
      exact ⟨by first | rfl | (rw [hn]; rfl), rfl, rfl⟩
    · have hss : 6 + withI inst 0 14 = s := by have := HS.out; rw [hn] at this; exact this
      have hx : IntKind.i64.wrap (6 + withI inst 0 14) = s := by rw [hss]; exact IntWalk.i64_in _ (by have := withI_bd inst 0 14 (by omega); omega)
      have HSS := Lib.hid hss
      clear hss
      go_wp2_with (go_at_call 13; refine (within_any inst 0 14 _ hi1 hi2 (by omega) (by omega) (by omega)).mono ?_; rintro e w5 ⟨rfl, rfl⟩)
      go_meet
      exact ⟨by first | rfl | (rw [hn]; rfl), rfl, rfl⟩
  case rest =>
  obtain ⟨rfl, rfl, rfl⟩ := hcut
  have hgb := withI_bd steps 0 200 (by omega)
  have HWI := Lib.hid fun w => within_any steps 0 200 w hs1 hs2 (by omega) (by omega) (by omega)
  generalize withI steps 0 200 = g at *
  obtain ⟨kk, hkk⟩ : ∃ kk : Int, p.tick * (g - 100) = kk := ⟨_, rfl⟩
  have hkm := mul_bd htk.1 (i := g - 100) (a := -100) (b := 100) (by omega) (by omega)
  have y1 : IntKind.i64.wrap (g - 100) = g - 100 := IntWalk.i64_in _ (by omega)
  have y2 : IntKind.i64.wrap (p.tick * (g - 100)) = kk := by rw [hkk]; exact IntWalk.i64_in _ (by omega)
  have HKK := Lib.hid hkk
  clear hkk hkm
  go_upto_region 5 with (fail)
  have HWQ : Hid (∀ n, Calls Try.prog 13 #[.int .i64 steps, .int .i64 0, .int .i64 200] (w4.drewN n) fun e w' => e = .returned (.int .i64 g) ∧ w' = w4.drewN n) := Lib.hid fun n => (HWI.out _).mono fun e w' h => ⟨h.1, h.2.symm⟩
  go_quiet ((go_at_call 13; exact Calls.quiet_of_same (HWQ.out _)))
  have T5 := Lib.hid (T4.out.next (Below.drewN_of w4 nq))
  clear b0 b1 b2 b3 b4 b5 b6 b7 b8 b9 b10 T4 y1 y2 HWQ HWI
  generalize w4.drewN nq = w5 at *
  have F1 := Lib.hid fun wz (h : PV wz x) => same15_any x inst price wz h
  have F2 := Lib.hid fun wz (h : PV wz p) => same15_any p inst price wz h
  have F3 := Lib.hid fun wz (h : PV wz p) => same15_any p s kk wz h
  have F4 := Lib.hid fun wz (h : PV wz p) => same15_any p s price wz h
  unfold Prod.agg Prod.cells at F1 F2 F3 F4
  obtain ⟨b0, b1, b2, b3, b4, b5, b6, b7, b8, b9, b10⟩ := T5.out.xc
  go_wp2_with fail
  refine (F1.out _ T5.out.xv).mono ?_
  rintro e w6 ⟨rfl, hb⟩
  have T6 := Lib.hid (T5.out.next hb)
  clear b0 b1 b2 b3 b4 b5 b6 b7 b8 b9 b10 hb T5
  obtain ⟨b0, b1, b2, b3, b4, b5, b6, b7, b8, b9, b10⟩ := T6.out.pc
  go_wp2_with fail
  refine (F2.out _ T6.out.pv).mono ?_
  rintro e w7 ⟨rfl, hb⟩
  have T7 := Lib.hid (T6.out.next hb)
  clear b0 b1 b2 b3 b4 b5 b6 b7 b8 b9 b10 hb T6
  obtain ⟨b0, b1, b2, b3, b4, b5, b6, b7, b8, b9, b10⟩ := T7.out.pc
  go_wp2_with fail
  refine (F3.out _ T7.out.pv).mono ?_
  rintro e w8 ⟨rfl, hb⟩
  have T8 := Lib.hid (T7.out.next hb)
  clear b0 b1 b2 b3 b4 b5 b6 b7 b8 b9 b10 hb T7
  obtain ⟨b0, b1, b2, b3, b4, b5, b6, b7, b8, b9, b10⟩ := T8.out.pc
  go_wp2_with fail
  refine (F4.out _ T8.out.pv).mono ?_
  rintro e w9 ⟨rfl, hb⟩
  have T9 := Lib.hid (T8.out.next hb)
  clear b0 b1 b2 b3 b4 b5 b6 b7 b8 b9 b10 hb T8
  go_wp2_with fail
  refine (known15_any _).mono ?_
  rintro e wk ⟨rfl, hb⟩
  have T10 := Lib.hid (T9.out.next hb)
  clear hb T9
  go_wp2_with fail
  go_ret
  exact ⟨by trivial, T10.out.bel⟩
end Go.Proofs.Ytjjddlfbadahhaa
