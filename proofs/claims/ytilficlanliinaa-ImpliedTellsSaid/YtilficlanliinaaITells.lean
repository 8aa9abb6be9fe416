/- The walk of cornhilllaw14.ImpliedTells. Printed by mk_itells.py. -/
import Derived.Test.YtilficlanliinaaHeld
import Derived.Deep.DeepCutAuto
namespace Go.Proofs.Ytilficlanliinaa
open Go.RowKit

set_option maxRecDepth 100000 in
set_option maxHeartbeats 16000000 in
theorem itells_any (px : Prod) (ta : Option Addr) (tc : Nat) (L : List Tp) (inst side : Int) (w : World) (hX : PIn w px) (hc1 : px.months.length ≤ px.mc) (hc2 : px.settle.length ≤ px.sc) (hT : TP.Rd w ta L) (hok : ∀ x ∈ L, x.ok) (hL : L.length ≤ 9223372036854775807) (hcap : L.length ≤ tc) (hi1 : -9223372036854775808 ≤ inst) (hi2 : inst ≤ 9223372036854775807) (_ : -9223372036854775808 ≤ side) (_ : side ≤ 9223372036854775807) :
    Calls Try.prog 7 #[px.agg, .slice ta L.length tc, .int .i64 inst, .int .i64 side] w fun e w' => e = .returned (.bool true) ∧ Below w.heap.size w w' := by
  have s1 : ∀ (w : World) (o : Obj), (w.alloc o).heap.size = w.heap.size + 1 := fun w o => by simp
  have HT := Lib.hid hT
  have HOK := Lib.hid hok
  clear hT hok
  have hsh := short_any px (w.alloc (.cells #[.string px.code, .slice px.ma px.months.length px.mc, .int .i64 px.tick, .int .i64 px.low, .int .i64 px.high, .int .i64 px.wide, .int .i64 px.rule, .int .i64 px.top, .int .i64 px.least, .int .i64 px.part, .slice px.sa px.settle.length px.sc] 25)) (hX.below (Below.allocN _ _)) hc1 hc2
  have HXV := Lib.hid fun (w' : World) (hb : Below w.heap.size w w') => (short_pv hX).below hb
  have HXX := Lib.hid (short_px hX)
  have hx0 : Blk (w.alloc (.cells #[.string px.code, .slice px.ma px.months.length px.mc, .int .i64 px.tick, .int .i64 px.low, .int .i64 px.high, .int .i64 px.wide, .int .i64 px.rule, .int .i64 px.top, .int .i64 px.least, .int .i64 px.part, .slice px.sa px.settle.length px.sc] 25)) w.heap.size 25 px.cells := Blk.new _ _ _
  have hb0 : Below w.heap.size w (w.alloc (.cells #[.string px.code, .slice px.ma px.months.length px.mc, .int .i64 px.tick, .int .i64 px.low, .int .i64 px.high, .int .i64 px.wide, .int .i64 px.rule, .int .i64 px.top, .int .i64 px.least, .int .i64 px.part, .slice px.sa px.settle.length px.sc] 25)) := Below.allocN _ _
  generalize shortP px = x at *
  unfold Prod.agg Prod.cells at hsh ⊢
  go_enter Try.func7, Try.ntmps7
  go_wp2_with fail
  refine hsh.mono ?_
  rintro e w1 ⟨rfl, _, hb1⟩
  have hx1 := hx0.below hb1
  have HB1 := Lib.hid (hb0.trans (hb1.mono hb0.size))
  have hg : ∀ i, w1.cell? ⟨w.heap.size, i, none⟩ = px.cells[i]? := fun i => hx1.cell i
  unfold Prod.cells at hg
  have d0 := hg 0
  have d1 := hg 1
  have d2 := hg 2
  have d3 := hg 3
  have d4 := hg 4
  have d5 := hg 5
  have d6 := hg 6
  have d7 := hg 7
  have d8 := hg 8
  have d9 := hg 9
  have d10 := hg 10
  have fz : ∀ i, w1.frozen? ⟨w.heap.size, i, none⟩ = false := fun i => hx1.frozen i
  clear hg hsh hx0 hb0 hb1 hX
  have HX1 := Lib.hid hx1
  clear hx1
  go_upto_region 2 with (fail)
  clear d0 d1 d2 d3 d4 d5 d6 d7 d8 d9 d10 fz
  have hk2 : Keeps (fun g => g = w.heap.size) w1 (((((((((((w1.setCell ⟨w.heap.size, 0, none⟩ (.string x.code)).setCell ⟨w.heap.size, 1, none⟩ (.slice x.ma x.months.length x.mc)).setCell ⟨w.heap.size, 2, none⟩ (.int .i64 x.tick)).setCell ⟨w.heap.size, 3, none⟩ (.int .i64 x.low)).setCell ⟨w.heap.size, 4, none⟩ (.int .i64 x.high)).setCell ⟨w.heap.size, 5, none⟩ (.int .i64 x.wide)).setCell ⟨w.heap.size, 6, none⟩ (.int .i64 x.rule)).setCell ⟨w.heap.size, 7, none⟩ (.int .i64 x.top)).setCell ⟨w.heap.size, 8, none⟩ (.int .i64 x.least)).setCell ⟨w.heap.size, 9, none⟩ (.int .i64 x.part)).setCell ⟨w.heap.size, 10, none⟩ (.slice x.sa x.settle.length x.sc)) := Keeps.fill _ _ _ _ _ _ _ _ _ _ _ _ _
  have hB2 : Blk (((((((((((w1.setCell ⟨w.heap.size, 0, none⟩ (.string x.code)).setCell ⟨w.heap.size, 1, none⟩ (.slice x.ma x.months.length x.mc)).setCell ⟨w.heap.size, 2, none⟩ (.int .i64 x.tick)).setCell ⟨w.heap.size, 3, none⟩ (.int .i64 x.low)).setCell ⟨w.heap.size, 4, none⟩ (.int .i64 x.high)).setCell ⟨w.heap.size, 5, none⟩ (.int .i64 x.wide)).setCell ⟨w.heap.size, 6, none⟩ (.int .i64 x.rule)).setCell ⟨w.heap.size, 7, none⟩ (.int .i64 x.top)).setCell ⟨w.heap.size, 8, none⟩ (.int .i64 x.least)).setCell ⟨w.heap.size, 9, none⟩ (.int .i64 x.part)).setCell ⟨w.heap.size, 10, none⟩ (.slice x.sa x.settle.length x.sc)) w.heap.size 25 x.cells := HX1.out.fill _ _ _ _ _ _ _ _ _ _ _
  have hb2 : Below w.heap.size w (((((((((((w1.setCell ⟨w.heap.size, 0, none⟩ (.string x.code)).setCell ⟨w.heap.size, 1, none⟩ (.slice x.ma x.months.length x.mc)).setCell ⟨w.heap.size, 2, none⟩ (.int .i64 x.tick)).setCell ⟨w.heap.size, 3, none⟩ (.int .i64 x.low)).setCell ⟨w.heap.size, 4, none⟩ (.int .i64 x.high)).setCell ⟨w.heap.size, 5, none⟩ (.int .i64 x.wide)).setCell ⟨w.heap.size, 6, none⟩ (.int .i64 x.rule)).setCell ⟨w.heap.size, 7, none⟩ (.int .i64 x.top)).setCell ⟨w.heap.size, 8, none⟩ (.int .i64 x.least)).setCell ⟨w.heap.size, 9, none⟩ (.int .i64 x.part)).setCell ⟨w.heap.size, 10, none⟩ (.slice x.sa x.settle.length x.sc)) := HB1.out.trans (hk2.below (fun g hg => by have hg' : g = w.heap.size := hg; omega) HB1.out.size)
  clear hk2 HX1 HB1
  generalize (((((((((((w1.setCell ⟨w.heap.size, 0, none⟩ (.string x.code)).setCell ⟨w.heap.size, 1, none⟩ (.slice x.ma x.months.length x.mc)).setCell ⟨w.heap.size, 2, none⟩ (.int .i64 x.tick)).setCell ⟨w.heap.size, 3, none⟩ (.int .i64 x.low)).setCell ⟨w.heap.size, 4, none⟩ (.int .i64 x.high)).setCell ⟨w.heap.size, 5, none⟩ (.int .i64 x.wide)).setCell ⟨w.heap.size, 6, none⟩ (.int .i64 x.rule)).setCell ⟨w.heap.size, 7, none⟩ (.int .i64 x.top)).setCell ⟨w.heap.size, 8, none⟩ (.int .i64 x.least)).setCell ⟨w.heap.size, 9, none⟩ (.int .i64 x.part)).setCell ⟨w.heap.size, 10, none⟩ (.slice x.sa x.settle.length x.sc)) = w2 at *
  have HX2 := Lib.hid hB2
  have HB2 := Lib.hid hb2
  have HXC := Lib.hid (PC.of5 hB2)
  clear hB2 hb2
  have hkp := keep_any x w2 HXX.out
  unfold Prod.agg Prod.cells at hkp
  obtain ⟨b0, b1, b2, b3, b4, b5, b6, b7, b8, b9, b10⟩ := HXC.out
  go_wp2_with fail
  refine hkp.mono ?_
  rintro e w3 ⟨kp, ma, mc, sa, sc, hok, rfl, hpv, hb3⟩
  have hck := keep_check kp hok ma mc sa sc
  have HB3 := Lib.hid (HB2.out.trans (hb3.mono HB2.out.size))
  have HX3 := Lib.hid (HX2.out.below hb3)
  clear hkp hok b0 b1 b2 b3 b4 b5 b6 b7 b8 b9 b10 HXC HX2 HB2 hb3
  generalize kp.prod ma mc sa sc = p at *
  clear kp ma mc sa sc
  go_upto_region 3 with (fail)
  have T4 : Hid (Two w (w3.alloc (.cells #[.string p.code, .slice p.ma p.months.length p.mc, .int .i64 p.tick, .int .i64 p.low, .int .i64 p.high, .int .i64 p.wide, .int .i64 p.rule, .int .i64 p.top, .int .i64 p.least, .int .i64 p.part, .slice p.sa p.settle.length p.sc] 25)) w.heap.size w3.heap.size x p) := Lib.hid ⟨HB3.out.trans ((Below.allocN _ _).mono HB3.out.size), PC.of5 (HX3.out.alloc _), PC.new w3 p, HXV.out _ (HB3.out.trans ((Below.allocN _ _).mono HB3.out.size)), hpv.below (Below.allocN _ _), by have := HX3.out.lt; rw [s1]; omega, by rw [s1]; omega⟩
  have HCK := Lib.hid hck
  clear hpv hck HX3 HB3 HXV HXX
  generalize (w3.alloc (.cells #[.string p.code, .slice p.ma p.months.length p.mc, .int .i64 p.tick, .int .i64 p.low, .int .i64 p.high, .int .i64 p.wide, .int .i64 p.rule, .int .i64 p.top, .int .i64 p.least, .int .i64 p.part, .slice p.sa p.settle.length p.sc] 25)) = w4 at *
  have hlen := check_len HCK.out
  have HL2 : Hid ((L.take 30).length ≤ 30) := Lib.hid (by rw [List.length_take]; omega)
  have HT2 := Lib.hid fun (wz : World) (hb : Below w.heap.size w wz) => (HT.out.take 30).below hb
  have HOK2 : Hid (∀ x ∈ L.take 30, x.ok) := Lib.hid fun x hx => HOK.out x (List.mem_of_mem_take hx)
  go_upto_if 18 with (fail)
  obtain ⟨l2, hl2⟩ : ∃ l2, (L.take 30).length = l2 := ⟨_, rfl⟩
  have HLL := Lib.hid hl2
  clear hl2
  go_cut [1] (fun u wx => u = .slice ta l2 tc ∧ w4 = wx)
  case first =>
    have hl := HLL.out
    rw [List.length_take] at hl
    by_cases h30 : 30 < L.length
    · have h30' : (30 : Int) < (L.length : Int) := by omega
      have h30c : (30 : Int) ≤ (tc : Int) := by omega
      obtain rfl : l2 = 30 := by omega
      clear hl
      go_wp2_with fail
      go_meet
      exact ⟨rfl, rfl⟩
    · have h30' : ¬ (30 : Int) < (L.length : Int) := by omega
      obtain rfl : l2 = L.length := by omega
      clear hl
      go_wp2_with fail
      go_meet
      exact ⟨rfl, rfl⟩
  case rest =>
  obtain ⟨rfl, rfl⟩ := hcut
  have hl30 : l2 ≤ 30 := by rw [← HLL.out]; exact HL2.out
  have hto := tops_any p ta tc (L.take 30) w4 T4.out.pv HCK.out (HT2.out _ T4.out.bel) HOK2.out (by have := HL2.out; omega)
  rw [HLL.out] at hto
  have HN := Lib.hid (countN_room p.months.length (check_len HCK.out).2 (check_len HCK.out).1)
  have hcn := countN_bd p.months.length (check_len HCK.out).2
  have hnr := HN.out
  obtain ⟨n, hn⟩ : ∃ n, countN p.months.length = n := ⟨_, rfl⟩
  rw [hn] at hto hcn hnr
  have HNN := Lib.hid hn
  unfold Prod.agg Prod.cells at hto
  clear hn hL hcap HT HOK
  obtain ⟨b0, b1, b2, b3, b4, b5, b6, b7, b8, b9, b10⟩ := T4.out.pc
  go_wp2_with fail
  refine hto.mono ?_
  rintro e w5 ⟨gt, rfl, htp, hgt, hb⟩
  have T5 := Lib.hid (T4.out.next hb)
  have HTP := Lib.hid htp
  have HTO := Lib.hid (topsP_ok HCK.out (L.take 30))
  have HTL : Hid ((topsP p (L.take 30)).length = n) := Lib.hid (by rw [topsP_len, HNN.out])
  clear hto hb htp hgt b0 b1 b2 b3 b4 b5 b6 b7 b8 b9 b10 T4
  generalize topsP p (L.take 30) = S at *
  have hw2 := withI_bd inst 0 ((n : Int) - 1) (by omega)
  have HWI := Lib.hid fun w => within_any inst 0 ((n : Int) - 1) w hi1 hi2 (by omega) (by omega) (by omega)
  have y2 : IntKind.i64.wrap ((n : Int) - 1) = (n : Int) - 1 := IntWalk.i64_in _ (by omega)
  generalize withI inst 0 ((n : Int) - 1) = kk at *
  have G := Lib.hid fun (i s : Int) wz (h : PV wz p) (h2 : TP.Rd wz (some ⟨gt, 0, none⟩) S) => held_any p i s (some ⟨gt, 0, none⟩) n S wz h h2 HTO.out (by rw [HTL.out]; omega)
  rw [HTL.out] at G
  have GX := Lib.hid fun wz (h : PV wz x) (h2 : TP.Rd wz ta (L.take 30)) => held_any x inst side ta tc (L.take 30) wz h h2 HOK2.out (by have := HL2.out; omega)
  have GP := Lib.hid fun wz (h : PV wz p) (h2 : TP.Rd wz ta (L.take 30)) => held_any p kk side ta tc (L.take 30) wz h h2 HOK2.out (by have := HL2.out; omega)
  rw [HLL.out] at GX GP
  unfold Prod.agg Prod.cells at G GX GP
  obtain ⟨b0, b1, b2, b3, b4, b5, b6, b7, b8, b9, b10⟩ := T5.out.pc
  go_wp2_with (go_at_call 12; refine (HWI.out _).mono ?_; rintro e w6 ⟨rfl, rfl⟩)
  refine (G.out kk 1 _ T5.out.pv HTP.out.tops).mono ?_
  rintro e u5 ⟨rfl, hb⟩
  have T6 := Lib.hid (T5.out.next hb)
  have HTP' := Lib.hid (HTP.out.below hb)
  clear HTP
  have HTP := HTP'
  clear hb b0 b1 b2 b3 b4 b5 b6 b7 b8 b9 b10 T5 HTP'
  obtain ⟨b0, b1, b2, b3, b4, b5, b6, b7, b8, b9, b10⟩ := T6.out.pc
  go_wp2_with fail
  refine (G.out kk 2 _ T6.out.pv HTP.out.tops).mono ?_
  rintro e u6 ⟨rfl, hb⟩
  have T7 := Lib.hid (T6.out.next hb)
  have HTP' := Lib.hid (HTP.out.below hb)
  clear HTP
  have HTP := HTP'
  clear hb b0 b1 b2 b3 b4 b5 b6 b7 b8 b9 b10 T6 HTP'
  obtain ⟨b0, b1, b2, b3, b4, b5, b6, b7, b8, b9, b10⟩ := T7.out.pc
  go_wp2_with fail
  refine (G.out inst side _ T7.out.pv HTP.out.tops).mono ?_
  rintro e u7 ⟨rfl, hb⟩
  have T8 := Lib.hid (T7.out.next hb)
  have HTP' := Lib.hid (HTP.out.below hb)
  clear HTP
  have HTP := HTP'
  clear hb b0 b1 b2 b3 b4 b5 b6 b7 b8 b9 b10 T7 HTP'
  obtain ⟨b0, b1, b2, b3, b4, b5, b6, b7, b8, b9, b10⟩ := T8.out.xc
  go_wp2_with fail
  refine (GX.out _ T8.out.xv (HT2.out _ T8.out.bel)).mono ?_
  rintro e u8 ⟨rfl, hb⟩
  have T9 := Lib.hid (T8.out.next hb)
  have HTP' := Lib.hid (HTP.out.below hb)
  clear HTP
  have HTP := HTP'
  clear hb b0 b1 b2 b3 b4 b5 b6 b7 b8 b9 b10 T8 HTP'
  obtain ⟨b0, b1, b2, b3, b4, b5, b6, b7, b8, b9, b10⟩ := T9.out.pc
  go_wp2_with fail
  refine (GP.out _ T9.out.pv (HT2.out _ T9.out.bel)).mono ?_
  rintro e u9 ⟨rfl, hb⟩
  have T10 := Lib.hid (T9.out.next hb)
  have HTP' := Lib.hid (HTP.out.below hb)
  clear HTP
  have HTP := HTP'
  clear hb b0 b1 b2 b3 b4 b5 b6 b7 b8 b9 b10 T9 HTP'
  go_wp2_with fail
  refine (known14_any _).mono ?_
  rintro e wk ⟨rfl, hb⟩
  have T11 := Lib.hid (T10.out.next hb)
  clear hb T10
  go_wp2_with fail
  go_ret
  exact ⟨by trivial, T11.out.bel⟩
end Go.Proofs.Ytilficlanliinaa
