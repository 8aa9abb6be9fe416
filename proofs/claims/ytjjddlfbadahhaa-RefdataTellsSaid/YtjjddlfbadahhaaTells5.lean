/- The walk of cornhilllaw5.RefdataTells. Printed by mk_tells5.py. -/
import Derived.Test.YtjjddlfbadahhaaTurn
import Derived.Test.YtjjddlfbadahhaaSame5
import Derived.Test.YtjjddlfbadahhaaTwo
namespace Go.Proofs.Ytjjddlfbadahhaa
open Go.RowKit

/-- where a walk stands that has three products in blocks -/
structure Tri (w w1 : World) (gx gp gq : Nat) (x p q : Prod) : Prop where
  two : Two w w1 gx gp x p
  qc : PC w1 gq q
  qv : PV w1 q
  qlt : gq < w1.heap.size
theorem Tri.next {w w1 w2 : World} {gx gp gq : Nat} {x p q : Prod} (h : Tri w w1 gx gp gq x p q) (hb : Below w1.heap.size w1 w2) : Tri w w2 gx gp gq x p q :=
  ⟨h.two.next hb, h.qc.below hb h.qlt, h.qv.below hb, Nat.lt_of_lt_of_le h.qlt hb.size⟩
theorem Tri.all {w w1 : World} {gx gp gq : Nat} {x p q : Prod} (h : Tri w w1 gx gp gq x p q) : PC w1 gx x ∧ PC w1 gp p ∧ PC w1 gq q := ⟨h.two.xc, h.two.pc, h.qc⟩
set_option maxRecDepth 100000 in
set_option maxHeartbeats 16000000 in
theorem tells5_any (px : Prod) (how n inst price : Int) (name : ByteArray) (near far : Int) (w : World) (hX : PIn w px) (hc1 : px.months.length ≤ px.mc) (hc2 : px.settle.length ≤ px.sc) (hh1 : -9223372036854775808 ≤ how) (hh2 : how ≤ 9223372036854775807) (hn1 : -9223372036854775808 ≤ n) (hn2 : n ≤ 9223372036854775807) (_ : -9223372036854775808 ≤ inst) (_ : inst ≤ 9223372036854775807) (_ : -9223372036854775808 ≤ price) (_ : price ≤ 9223372036854775807) (_ : name.size ≤ maxLen) (_ : -9223372036854775808 ≤ near) (_ : near ≤ 9223372036854775807) (_ : -9223372036854775808 ≤ far) (_ : far ≤ 9223372036854775807) :
    Calls Try.prog 9 #[px.agg, .int .i64 how, .int .i64 n, .int .i64 inst, .int .i64 price, .string name, .int .i64 near, .int .i64 far] w fun e w' => e = .returned (.bool true) ∧ Below w.heap.size w w' := by
  have s1 : ∀ (w : World) (o : Obj), (w.alloc o).heap.size = w.heap.size + 1 := fun w o => by simp
  have hsh := short_any px (w.alloc (.cells #[.string px.code, .slice px.ma px.months.length px.mc, .int .i64 px.tick, .int .i64 px.low, .int .i64 px.high, .int .i64 px.wide, .int .i64 px.rule, .int .i64 px.top, .int .i64 px.least, .int .i64 px.part, .slice px.sa px.settle.length px.sc] 25)) (hX.below (Below.allocN _ _)) hc1 hc2
  have HXV := Lib.hid fun (w' : World) (hb : Below w.heap.size w w') => (short_pv hX).below hb
  have HXX := Lib.hid (short_px hX)
  have hx0 : Blk (w.alloc (.cells #[.string px.code, .slice px.ma px.months.length px.mc, .int .i64 px.tick, .int .i64 px.low, .int .i64 px.high, .int .i64 px.wide, .int .i64 px.rule, .int .i64 px.top, .int .i64 px.least, .int .i64 px.part, .slice px.sa px.settle.length px.sc] 25)) w.heap.size 25 px.cells := Blk.new _ _ _
  have hb0 : Below w.heap.size w (w.alloc (.cells #[.string px.code, .slice px.ma px.months.length px.mc, .int .i64 px.tick, .int .i64 px.low, .int .i64 px.high, .int .i64 px.wide, .int .i64 px.rule, .int .i64 px.top, .int .i64 px.least, .int .i64 px.part, .slice px.sa px.settle.length px.sc] 25)) := Below.allocN _ _
  generalize shortP px = x at *
  unfold Prod.agg Prod.cells at hsh ⊢
  go_enter Try.func9, Try.ntmps9
  go_wp2_with fail
  refine hsh.mono ?_
  rintro e w1 ⟨rfl, _, hb1⟩
  have hx1 := hx0.below hb1
  have HB1 := Lib.hid (hb0.trans (hb1.mono hb0.size))
  have hg : ∀ i, w1.cell? ⟨w.heap.size, i, none⟩ = px.cells[i]? := fun i => hx1.cell i
  unfold Prod.cells at hg
  have d0 := hg 0
  have d1 := hg 1
  have d2 := hg 2
  have d3 := hg 3
  have d4 := hg 4
  have d5 := hg 5
  have d6 := hg 6
  have d7 := hg 7
  have d8 := hg 8
  have d9 := hg 9
  have d10 := hg 10
  have fz : ∀ i, w1.frozen? ⟨w.heap.size, i, none⟩ = false := fun i => hx1.frozen i
  clear hg hsh hx0 hb0 hb1 hX
  have HX1 := Lib.hid hx1
  clear hx1
  go_upto_region 2 with (fail)
  clear d0 d1 d2 d3 d4 d5 d6 d7 d8 d9 d10 fz
  have hk2 : Keeps (fun g => g = w.heap.size) w1 (((((((((((w1.setCell ⟨w.heap.size, 0, none⟩ (.string x.code)).setCell ⟨w.heap.size, 1, none⟩ (.slice x.ma x.months.length x.mc)).setCell ⟨w.heap.size, 2, none⟩ (.int .i64 x.tick)).setCell ⟨w.heap.size, 3, none⟩ (.int .i64 x.low)).setCell ⟨w.heap.size, 4, none⟩ (.int .i64 x.high)).setCell ⟨w.heap.size, 5, none⟩ (.int .i64 x.wide)).setCell ⟨w.heap.size, 6, none⟩ (.int .i64 x.rule)).setCell ⟨w.heap.size, 7, none⟩ (.int .i64 x.top)).setCell ⟨w.heap.size, 8, none⟩ (.int .i64 x.least)).setCell ⟨w.heap.size, 9, none⟩ (.int .i64 x.part)).setCell ⟨w.heap.size, 10, none⟩ (.slice x.sa x.settle.length x.sc)) := Keeps.fill _ _ _ _ _ _ _ _ _ _ _ _ _
  have hB2 : Blk (((((((((((w1.setCell ⟨w.heap.size, 0, none⟩ (.string x.code)).setCell ⟨w.heap.size, 1, none⟩ (.slice x.ma x.months.length x.mc)).setCell ⟨w.heap.size, 2, none⟩ (.int .i64 x.tick)).setCell ⟨w.heap.size, 3, none⟩ (.int .i64 x.low)).setCell ⟨w.heap.size, 4, none⟩ (.int .i64 x.high)).setCell ⟨w.heap.size, 5, none⟩ (.int .i64 x.wide)).setCell ⟨w.heap.size, 6, none⟩ (.int .i64 x.rule)).setCell ⟨w.heap.size, 7, none⟩ (.int .i64 x.top)).setCell ⟨w.heap.size, 8, none⟩ (.int .i64 x.least)).setCell ⟨w.heap.size, 9, none⟩ (.int .i64 x.part)).setCell ⟨w.heap.size, 10, none⟩ (.slice x.sa x.settle.length x.sc)) w.heap.size 25 x.cells := HX1.out.fill _ _ _ _ _ _ _ _ _ _ _
  have hb2 : Below w.heap.size w (((((((((((w1.setCell ⟨w.heap.size, 0, none⟩ (.string x.code)).setCell ⟨w.heap.size, 1, none⟩ (.slice x.ma x.months.length x.mc)).setCell ⟨w.heap.size, 2, none⟩ (.int .i64 x.tick)).setCell ⟨w.heap.size, 3, none⟩ (.int .i64 x.low)).setCell ⟨w.heap.size, 4, none⟩ (.int .i64 x.high)).setCell ⟨w.heap.size, 5, none⟩ (.int .i64 x.wide)).setCell ⟨w.heap.size, 6, none⟩ (.int .i64 x.rule)).setCell ⟨w.heap.size, 7, none⟩ (.int .i64 x.top)).setCell ⟨w.heap.size, 8, none⟩ (.int .i64 x.least)).setCell ⟨w.heap.size, 9, none⟩ (.int .i64 x.part)).setCell ⟨w.heap.size, 10, none⟩ (.slice x.sa x.settle.length x.sc)) := HB1.out.trans (hk2.below (fun g hg => by have hg' : g = w.heap.size := hg; omega) HB1.out.size)
  clear hk2 HX1 HB1
  generalize (((((((((((w1.setCell ⟨w.heap.size, 0, none⟩ (.string x.code)).setCell ⟨w.heap.size, 1, none⟩ (.slice x.ma x.months.length x.mc)).setCell ⟨w.heap.size, 2, none⟩ (.int .i64 x.tick)).setCell ⟨w.heap.size, 3, none⟩ (.int .i64 x.low)).setCell ⟨w.heap.size, 4, none⟩ (.int .i64 x.high)).setCell ⟨w.heap.size, 5, none⟩ (.int .i64 x.wide)).setCell ⟨w.heap.size, 6, none⟩ (.int .i64 x.rule)).setCell ⟨w.heap.size, 7, none⟩ (.int .i64 x.top)).setCell ⟨w.heap.size, 8, none⟩ (.int .i64 x.least)).setCell ⟨w.heap.size, 9, none⟩ (.int .i64 x.part)).setCell ⟨w.heap.size, 10, none⟩ (.slice x.sa x.settle.length x.sc)) = w2 at *
  have HX2 := Lib.hid hB2
  have HB2 := Lib.hid hb2
  have HXC := Lib.hid (PC.of5 hB2)
  clear hB2 hb2
  have hkp := keep_any x w2 HXX.out
  unfold Prod.agg Prod.cells at hkp
  obtain ⟨b0, b1, b2, b3, b4, b5, b6, b7, b8, b9, b10⟩ := HXC.out
  go_wp2_with fail
  refine (head_any name 60 _ (by omega)).mono ?_
  rintro e w2' ⟨rfl, rfl⟩
  generalize headS name 60 = nm at *
  go_wp2_with fail
  refine hkp.mono ?_
  rintro e w3 ⟨kp, ma, mc, sa, sc, hok, rfl, hpv, hb3⟩
  have hl1 : (kp.prod ma mc sa sc).months.length = kp.n := monthsK_len kp.n
  have hl2 : (kp.prod ma mc sa sc).settle.length = kp.n := settleK_len kp.tick kp.n
  have hkn := hok.n
  have HTU := Lib.hid fun v wz (h : PV wz (kp.prod ma mc sa sc)) => turned_off (kp.prod ma mc sa sc) v n wz h hn1 hn2 (by omega) (by omega) (by omega) (by omega)
  clear hl1 hl2 hkn
  have HB3 := Lib.hid (HB2.out.trans (hb3.mono HB2.out.size))
  have HX3 := Lib.hid (HX2.out.below hb3)
  clear hkp hok b0 b1 b2 b3 b4 b5 b6 b7 b8 b9 b10 HXC HX2 HB2 hb3
  generalize kp.prod ma mc sa sc = p at *
  go_upto_region 4 with (fail)
  have T4 : Hid (Two w (w3.alloc (.cells #[.string p.code, .slice p.ma p.months.length p.mc, .int .i64 p.tick, .int .i64 p.low, .int .i64 p.high, .int .i64 p.wide, .int .i64 p.rule, .int .i64 p.top, .int .i64 p.least, .int .i64 p.part, .slice p.sa p.settle.length p.sc] 25)) w.heap.size w3.heap.size x p) := Lib.hid ⟨HB3.out.trans ((Below.allocN _ _).mono HB3.out.size), PC.of5 (HX3.out.alloc _), PC.new w3 p, HXV.out _ (HB3.out.trans ((Below.allocN _ _).mono HB3.out.size)), hpv.below (Below.allocN _ _), by have := HX3.out.lt; rw [s1]; omega, by rw [s1]; omega⟩
  clear hpv HX3 HB3 HXV HXX
  generalize (w3.alloc (.cells #[.string p.code, .slice p.ma p.months.length p.mc, .int .i64 p.tick, .int .i64 p.low, .int .i64 p.high, .int .i64 p.wide, .int .i64 p.rule, .int .i64 p.top, .int .i64 p.least, .int .i64 p.part, .slice p.sa p.settle.length p.sc] 25)) = w4 at *
  have HW := Lib.hid fun w => within_any how 0 20 w hh1 hh2 (by omega) (by omega) (by omega)
  generalize withI how 0 20 = v at *
  have htu := HTU.out v
  unfold Prod.agg Prod.cells at htu
  have HT := Lib.hid htu
  clear htu HTU
  go_cut [18] (fun u wx => ∃ (g : Nat) (q : Prod), u = .pointer (some ⟨g, 0, none⟩) ∧ Tri w wx w.heap.size w3.heap.size g x p q)
  case first =>
    have T5 := Lib.hid (T4.out.next (Below.drewN_of w4 1))
    clear T4
    go_wp2_with fail
    refine wp_region_E (S := fun w' => w'.cell? ⟨w3.heap.size, 0, none⟩ = some (.string p.code) ∧ w'.cell? ⟨w3.heap.size, 1, none⟩ = some (.slice p.ma p.months.length p.mc) ∧ w'.cell? ⟨w3.heap.size, 2, none⟩ = some (.int .i64 p.tick) ∧ w'.cell? ⟨w3.heap.size, 3, none⟩ = some (.int .i64 p.low) ∧ w'.cell? ⟨w3.heap.size, 4, none⟩ = some (.int .i64 p.high) ∧ w'.cell? ⟨w3.heap.size, 5, none⟩ = some (.int .i64 p.wide) ∧ w'.cell? ⟨w3.heap.size, 6, none⟩ = some (.int .i64 p.rule) ∧ w'.cell? ⟨w3.heap.size, 7, none⟩ = some (.int .i64 p.top) ∧ w'.cell? ⟨w3.heap.size, 8, none⟩ = some (.int .i64 p.least) ∧ w'.cell? ⟨w3.heap.size, 9, none⟩ = some (.int .i64 p.part) ∧ w'.cell? ⟨w3.heap.size, 10, none⟩ = some (.slice p.sa p.settle.length p.sc)) (by kernel_rfl) T5.out.pc (fun hHeld => ?_)
    refine wpE_take (i := 0) (oi := ?oi5) (v := ?v5) ?hi5 (by kernel_rfl) (by kernel_rfl) (by kernel_rfl) (by kernel_rfl) ?hQ5 ?hy5 (by assumption) ?rest5
    case hi5 => (simp only [List.getElem?_toArray]; rfl)
    case hQ5 => exact fun _ _ _ h => h
    case hy5 => exact Or.inl ⟨by rfl, by (intro w hSw; (try dsimp only at hSw); go_simp; try with_reducible rfl)⟩
    try simp only [Act.put, List.setIfInBounds_toArray, List.set_cons_zero, List.set_cons_succ]
    refine wpE_take (i := 1) (oi := ?oi6) (v := ?v6) ?hi6 (by kernel_rfl) (by kernel_rfl) (by kernel_rfl) (by kernel_rfl) ?hQ6 ?hy6 (by assumption) ?rest6
    case hi6 => (simp only [List.getElem?_toArray]; rfl)
    case hQ6 => exact fun _ _ _ h => h
    case hy6 => exact Or.inl ⟨by rfl, by (intro w hSw; (try dsimp only at hSw); go_simp; try with_reducible rfl)⟩
    try simp only [Act.put, List.setIfInBounds_toArray, List.set_cons_zero, List.set_cons_succ]
    refine wpE_take (i := 3) (oi := ?oi7) (v := ?v7) ?hi7 (by kernel_rfl) (by kernel_rfl) (by kernel_rfl) (by kernel_rfl) ?hQ7 ?hy7 (by assumption) ?rest7
    case hi7 => (simp only [List.getElem?_toArray]; rfl)
    case hQ7 => exact fun _ _ _ h => h
    case hy7 => exact Or.inl ⟨by rfl, by (intro w hSw; (try dsimp only at hSw); go_simp; try with_reducible rfl)⟩
    try simp only [Act.put, List.setIfInBounds_toArray, List.set_cons_zero, List.set_cons_succ]
    refine wpE_two (i := 2) (j := 5) (oi := ?oa1) (oj := ?ob1) ?ha1 ?hb1 (by kernel_rfl) (fun K hK => ?_) (fun K hK => ?_)
    case ha1 => (simp only [List.getElem?_toArray]; rfl)
    case hb1 => (simp only [List.getElem?_toArray]; rfl)
    · go_simp
      go_at_call 13
      refine (HW.out _).mono ?_
      rintro e w5 ⟨rfl, rfl⟩
      refine hK.out _ _ T5.out.pc (fun hHeld => ?_)
      clear hK K
      refine wpE_two (i := 4) (j := 5) (oi := ?oa2) (oj := ?ob2) ?ha2 ?hb2 (by kernel_rfl) (fun K hK => ?_) (fun K hK => ?_)
      case ha2 => (simp only [List.getElem?_toArray]; rfl)
      case hb2 => (simp only [List.getElem?_toArray]; rfl)
      · go_simp
        go_at_call 24
        refine (HT.out _ T5.out.pv).mono ?_
        rintro e w5 ⟨q, rfl, hqv, hb, _⟩
        have T6 := Lib.hid (T5.out.next hb)
        have HQ := Lib.hid hqv
        clear hb T5 hqv
        refine hK.out _ _ T6.out.pc (fun hHeld => ?_)
        clear hK K
        refine wpE_one (i := 5) (o := ?o40) ?ho40 (by kernel_rfl) (fun K hK => ?_)
        case ho40 => (simp only [List.getElem?_toArray]; rfl)
        go_simp
        refine hK.out _ _ (T6.out.next (Below.allocN _ _)).pc (fun hHeld => ?_)
        clear hK K
        refine wpE_last (i := 6) (o := ?o50) ?ho50 (by kernel_rfl) (by kernel_rfl) (by kernel_rfl) (fun K hK => ?_)
        case ho50 => (simp only [List.getElem?_toArray]; rfl)
        go_simp
        refine hK.out _ _ ?_
        clear hK K
        go_wp2_with fail
        go_meet
        exact ⟨w5.heap.size, q, rfl, T6.out.next (Below.allocN _ _), PC.new w5 q, HQ.out.below (Below.allocN _ _), by rw [s1]; omega⟩
      · go_simp
        have T6 := Lib.hid (T5.out.next (Below.allocN _ (.cells zeroP.cells 25)))
        have hz0 := Blk.new w4.drew 25 zeroP.cells
        have HZ := Lib.hid hz0
        clear hz0
        refine hK.out _ _ T6.out.pc (fun hHeld => ?_)
        clear hK K
        refine wpE_one (i := 4) (o := ?o41) ?ho41 (by kernel_rfl) (fun K hK => ?_)
        case ho41 => (simp only [List.getElem?_toArray]; rfl)
        go_simp
        go_at_call 24
        refine (HT.out _ T6.out.pv).mono ?_
        rintro e w6 ⟨q, rfl, hqv, hb, hma, hsa⟩
        have T7 := Lib.hid (T6.out.next hb)
        have HZ7 := Lib.hid (HZ.out.below hb)
        have HQ := Lib.hid hqv
        rw [s1] at hma hsa
        have HMA : Hid (Off w4.heap.size q.ma) := Lib.hid (by obtain ⟨b, o, h, hlt⟩ := hma; exact ⟨b, o, h, by (have hlt' : w4.heap.size + 1 + 1 < b := hlt); omega⟩)
        have HSA : Hid (Off w4.heap.size q.sa) := Lib.hid (by obtain ⟨b, o, h, hlt⟩ := hsa; exact ⟨b, o, h, by (have hlt' : w4.heap.size + 1 + 1 < b := hlt); omega⟩)
        have HB6 : Hid (Below w4.drew.heap.size w4.drew w6) := Lib.hid ((Below.allocN _ _).trans (hb.mono (by rw [s1]; exact Nat.le_succ _)))
        clear hb T6 hqv HZ hma hsa
        refine hK.out _ _ T7.out.pc (fun hHeld => ?_)
        clear hK K
        have hg : ∀ i, w6.cell? ⟨w4.heap.size, i, none⟩ = zeroP.cells[i]? := fun i => HZ7.out.cell i
        have d0 := hg 0
        have d1 := hg 1
        have d2 := hg 2
        have d3 := hg 3
        have d4 := hg 4
        have d5 := hg 5
        have d6 := hg 6
        have d7 := hg 7
        have d8 := hg 8
        have d9 := hg 9
        have d10 := hg 10
        simp only [zeroP, Prod.cells, List.length_nil, List.getElem?_toArray, List.getElem?_cons_zero, List.getElem?_cons_succ] at d0 d1 d2 d3 d4 d5 d6 d7 d8 d9 d10
        have fz : ∀ i, w6.frozen? ⟨w4.heap.size, i, none⟩ = false := fun i => HZ7.out.frozen i
        clear hg
        refine wpE_last (i := 6) (o := ?o51) ?ho51 (by kernel_rfl) (by kernel_rfl) (by kernel_rfl) (fun K hK => ?_)
        case ho51 => (simp only [List.getElem?_toArray]; rfl)
        go_simp
        refine hK.out _ _ ?_
        clear hK K
        go_wp2_with fail
        clear d0 d1 d2 d3 d4 d5 d6 d7 d8 d9 d10 fz
        go_meet
        have hk : Keeps (fun g => g = w4.heap.size) w6 (((((((((((w6.setCell ⟨w4.heap.size, 0, none⟩ (.string q.code)).setCell ⟨w4.heap.size, 1, none⟩ (.slice q.ma q.months.length q.mc)).setCell ⟨w4.heap.size, 2, none⟩ (.int .i64 q.tick)).setCell ⟨w4.heap.size, 3, none⟩ (.int .i64 q.low)).setCell ⟨w4.heap.size, 4, none⟩ (.int .i64 q.high)).setCell ⟨w4.heap.size, 5, none⟩ (.int .i64 q.wide)).setCell ⟨w4.heap.size, 6, none⟩ (.int .i64 q.rule)).setCell ⟨w4.heap.size, 7, none⟩ (.int .i64 q.top)).setCell ⟨w4.heap.size, 8, none⟩ (.int .i64 q.least)).setCell ⟨w4.heap.size, 9, none⟩ (.int .i64 q.part)).setCell ⟨w4.heap.size, 10, none⟩ (.slice q.sa q.settle.length q.sc)) := Keeps.fill _ _ _ _ _ _ _ _ _ _ _ _ _
        have hbf : Below w4.drew.heap.size w4.drew (((((((((((w6.setCell ⟨w4.heap.size, 0, none⟩ (.string q.code)).setCell ⟨w4.heap.size, 1, none⟩ (.slice q.ma q.months.length q.mc)).setCell ⟨w4.heap.size, 2, none⟩ (.int .i64 q.tick)).setCell ⟨w4.heap.size, 3, none⟩ (.int .i64 q.low)).setCell ⟨w4.heap.size, 4, none⟩ (.int .i64 q.high)).setCell ⟨w4.heap.size, 5, none⟩ (.int .i64 q.wide)).setCell ⟨w4.heap.size, 6, none⟩ (.int .i64 q.rule)).setCell ⟨w4.heap.size, 7, none⟩ (.int .i64 q.top)).setCell ⟨w4.heap.size, 8, none⟩ (.int .i64 q.least)).setCell ⟨w4.heap.size, 9, none⟩ (.int .i64 q.part)).setCell ⟨w4.heap.size, 10, none⟩ (.slice q.sa q.settle.length q.sc)) := HB6.out.trans (hk.below (fun g hg => by have hg' : g = w4.heap.size := hg; exact Nat.le_of_eq hg'.symm) HB6.out.size)
        have hqf : PV (((((((((((w6.setCell ⟨w4.heap.size, 0, none⟩ (.string q.code)).setCell ⟨w4.heap.size, 1, none⟩ (.slice q.ma q.months.length q.mc)).setCell ⟨w4.heap.size, 2, none⟩ (.int .i64 q.tick)).setCell ⟨w4.heap.size, 3, none⟩ (.int .i64 q.low)).setCell ⟨w4.heap.size, 4, none⟩ (.int .i64 q.high)).setCell ⟨w4.heap.size, 5, none⟩ (.int .i64 q.wide)).setCell ⟨w4.heap.size, 6, none⟩ (.int .i64 q.rule)).setCell ⟨w4.heap.size, 7, none⟩ (.int .i64 q.top)).setCell ⟨w4.heap.size, 8, none⟩ (.int .i64 q.least)).setCell ⟨w4.heap.size, 9, none⟩ (.int .i64 q.part)).setCell ⟨w4.heap.size, 10, none⟩ (.slice q.sa q.settle.length q.sc)) q := ⟨HQ.out.code, HQ.out.mon.far HMA.out hk, HQ.out.set_.far HSA.out hk, HQ.out.mlen, HQ.out.slen, HQ.out.tick, HQ.out.low, HQ.out.high, HQ.out.wide⟩
        have hzf : Blk (((((((((((w6.setCell ⟨w4.heap.size, 0, none⟩ (.string q.code)).setCell ⟨w4.heap.size, 1, none⟩ (.slice q.ma q.months.length q.mc)).setCell ⟨w4.heap.size, 2, none⟩ (.int .i64 q.tick)).setCell ⟨w4.heap.size, 3, none⟩ (.int .i64 q.low)).setCell ⟨w4.heap.size, 4, none⟩ (.int .i64 q.high)).setCell ⟨w4.heap.size, 5, none⟩ (.int .i64 q.wide)).setCell ⟨w4.heap.size, 6, none⟩ (.int .i64 q.rule)).setCell ⟨w4.heap.size, 7, none⟩ (.int .i64 q.top)).setCell ⟨w4.heap.size, 8, none⟩ (.int .i64 q.least)).setCell ⟨w4.heap.size, 9, none⟩ (.int .i64 q.part)).setCell ⟨w4.heap.size, 10, none⟩ (.slice q.sa q.settle.length q.sc)) w4.heap.size 25 q.cells := HZ7.out.fill _ _ _ _ _ _ _ _ _ _ _
        exact ⟨w4.heap.size, q, rfl, T5.out.next hbf, PC.of5 hzf, hqf, hzf.lt⟩
    · go_simp
      have T6 := Lib.hid (T5.out.next (Below.allocN _ (.cells zeroP.cells 25)))
      have hz0 := Blk.new w4.drew 25 zeroP.cells
      have HZ := Lib.hid hz0
      clear hz0
      refine hK.out _ _ T6.out.pc (fun hHeld => ?_)
      clear hK K
      refine wpE_one (i := 2) (o := ?o42) ?ho42 (by kernel_rfl) (fun K hK => ?_)
      case ho42 => (simp only [List.getElem?_toArray]; rfl)
      go_simp
      go_at_call 13
      refine (HW.out _).mono ?_
      rintro e w5' ⟨rfl, rfl⟩
      refine hK.out _ _ T6.out.pc (fun hHeld => ?_)
      clear hK K
      refine wpE_one (i := 4) (o := ?o43) ?ho43 (by kernel_rfl) (fun K hK => ?_)
      case ho43 => (simp only [List.getElem?_toArray]; rfl)
      go_simp
      go_at_call 24
      refine (HT.out _ T6.out.pv).mono ?_
      rintro e w6 ⟨q, rfl, hqv, hb, hma, hsa⟩
      have T7 := Lib.hid (T6.out.next hb)
      have HZ7 := Lib.hid (HZ.out.below hb)
      have HQ := Lib.hid hqv
      rw [s1] at hma hsa
      have HMA : Hid (Off w4.heap.size q.ma) := Lib.hid (by obtain ⟨b, o, h, hlt⟩ := hma; exact ⟨b, o, h, by (have hlt' : w4.heap.size + 1 + 1 < b := hlt); omega⟩)
      have HSA : Hid (Off w4.heap.size q.sa) := Lib.hid (by obtain ⟨b, o, h, hlt⟩ := hsa; exact ⟨b, o, h, by (have hlt' : w4.heap.size + 1 + 1 < b := hlt); omega⟩)
      have HB6 : Hid (Below w4.drew.heap.size w4.drew w6) := Lib.hid ((Below.allocN _ _).trans (hb.mono (by rw [s1]; exact Nat.le_succ _)))
      clear hb T6 hqv HZ hma hsa
      refine hK.out _ _ T7.out.pc (fun hHeld => ?_)
      clear hK K
      have hg : ∀ i, w6.cell? ⟨w4.heap.size, i, none⟩ = zeroP.cells[i]? := fun i => HZ7.out.cell i
      have d0 := hg 0
      have d1 := hg 1
      have d2 := hg 2
      have d3 := hg 3
      have d4 := hg 4
      have d5 := hg 5
      have d6 := hg 6
      have d7 := hg 7
      have d8 := hg 8
      have d9 := hg 9
      have d10 := hg 10
      simp only [zeroP, Prod.cells, List.length_nil, List.getElem?_toArray, List.getElem?_cons_zero, List.getElem?_cons_succ] at d0 d1 d2 d3 d4 d5 d6 d7 d8 d9 d10
      have fz : ∀ i, w6.frozen? ⟨w4.heap.size, i, none⟩ = false := fun i => HZ7.out.frozen i
      clear hg
      refine wpE_last (i := 6) (o := ?o52) ?ho52 (by kernel_rfl) (by kernel_rfl) (by kernel_rfl) (fun K hK => ?_)
      case ho52 => (simp only [List.getElem?_toArray]; rfl)
      go_simp
      refine hK.out _ _ ?_
      clear hK K
      go_wp2_with fail
      clear d0 d1 d2 d3 d4 d5 d6 d7 d8 d9 d10 fz
      go_meet
      have hk : Keeps (fun g => g = w4.heap.size) w6 (((((((((((w6.setCell ⟨w4.heap.size, 0, none⟩ (.string q.code)).setCell ⟨w4.heap.size, 1, none⟩ (.slice q.ma q.months.length q.mc)).setCell ⟨w4.heap.size, 2, none⟩ (.int .i64 q.tick)).setCell ⟨w4.heap.size, 3, none⟩ (.int .i64 q.low)).setCell ⟨w4.heap.size, 4, none⟩ (.int .i64 q.high)).setCell ⟨w4.heap.size, 5, none⟩ (.int .i64 q.wide)).setCell ⟨w4.heap.size, 6, none⟩ (.int .i64 q.rule)).setCell ⟨w4.heap.size, 7, none⟩ (.int .i64 q.top)).setCell ⟨w4.heap.size, 8, none⟩ (.int .i64 q.least)).setCell ⟨w4.heap.size, 9, none⟩ (.int .i64 q.part)).setCell ⟨w4.heap.size, 10, none⟩ (.slice q.sa q.settle.length q.sc)) := Keeps.fill _ _ _ _ _ _ _ _ _ _ _ _ _
      have hbf : Below w4.drew.heap.size w4.drew (((((((((((w6.setCell ⟨w4.heap.size, 0, none⟩ (.string q.code)).setCell ⟨w4.heap.size, 1, none⟩ (.slice q.ma q.months.length q.mc)).setCell ⟨w4.heap.size, 2, none⟩ (.int .i64 q.tick)).setCell ⟨w4.heap.size, 3, none⟩ (.int .i64 q.low)).setCell ⟨w4.heap.size, 4, none⟩ (.int .i64 q.high)).setCell ⟨w4.heap.size, 5, none⟩ (.int .i64 q.wide)).setCell ⟨w4.heap.size, 6, none⟩ (.int .i64 q.rule)).setCell ⟨w4.heap.size, 7, none⟩ (.int .i64 q.top)).setCell ⟨w4.heap.size, 8, none⟩ (.int .i64 q.least)).setCell ⟨w4.heap.size, 9, none⟩ (.int .i64 q.part)).setCell ⟨w4.heap.size, 10, none⟩ (.slice q.sa q.settle.length q.sc)) := HB6.out.trans (hk.below (fun g hg => by have hg' : g = w4.heap.size := hg; exact Nat.le_of_eq hg'.symm) HB6.out.size)
      have hqf : PV (((((((((((w6.setCell ⟨w4.heap.size, 0, none⟩ (.string q.code)).setCell ⟨w4.heap.size, 1, none⟩ (.slice q.ma q.months.length q.mc)).setCell ⟨w4.heap.size, 2, none⟩ (.int .i64 q.tick)).setCell ⟨w4.heap.size, 3, none⟩ (.int .i64 q.low)).setCell ⟨w4.heap.size, 4, none⟩ (.int .i64 q.high)).setCell ⟨w4.heap.size, 5, none⟩ (.int .i64 q.wide)).setCell ⟨w4.heap.size, 6, none⟩ (.int .i64 q.rule)).setCell ⟨w4.heap.size, 7, none⟩ (.int .i64 q.top)).setCell ⟨w4.heap.size, 8, none⟩ (.int .i64 q.least)).setCell ⟨w4.heap.size, 9, none⟩ (.int .i64 q.part)).setCell ⟨w4.heap.size, 10, none⟩ (.slice q.sa q.settle.length q.sc)) q := ⟨HQ.out.code, HQ.out.mon.far HMA.out hk, HQ.out.set_.far HSA.out hk, HQ.out.mlen, HQ.out.slen, HQ.out.tick, HQ.out.low, HQ.out.high, HQ.out.wide⟩
      have hzf : Blk (((((((((((w6.setCell ⟨w4.heap.size, 0, none⟩ (.string q.code)).setCell ⟨w4.heap.size, 1, none⟩ (.slice q.ma q.months.length q.mc)).setCell ⟨w4.heap.size, 2, none⟩ (.int .i64 q.tick)).setCell ⟨w4.heap.size, 3, none⟩ (.int .i64 q.low)).setCell ⟨w4.heap.size, 4, none⟩ (.int .i64 q.high)).setCell ⟨w4.heap.size, 5, none⟩ (.int .i64 q.wide)).setCell ⟨w4.heap.size, 6, none⟩ (.int .i64 q.rule)).setCell ⟨w4.heap.size, 7, none⟩ (.int .i64 q.top)).setCell ⟨w4.heap.size, 8, none⟩ (.int .i64 q.least)).setCell ⟨w4.heap.size, 9, none⟩ (.int .i64 q.part)).setCell ⟨w4.heap.size, 10, none⟩ (.slice q.sa q.settle.length q.sc)) w4.heap.size 25 q.cells := HZ7.out.fill _ _ _ _ _ _ _ _ _ _ _
      exact ⟨w4.heap.size, q, rfl, T5.out.next hbf, PC.of5 hzf, hqf, hzf.lt⟩
  case rest =>
  obtain ⟨gq, q, rfl, hT⟩ := hcut
  have T5 := Lib.hid (hT.next (Below.drewN_of wc 1))
  clear hT T4 HT HW
  have FX := Lib.hid fun wz (h : PV wz x) => same5_any x inst price nm near far wz h
  have FP := Lib.hid fun wz (h : PV wz p) => same5_any p inst price nm near far wz h
  have FQ := Lib.hid fun wz (h : PV wz q) => same5_any q inst price nm near far wz h
  have FN := Lib.hid fun wz (h : PV wz p) => rname_any p inst wz h
  have FR := Lib.hid fun wz (h : PV wz p) => same5_any p inst price (nameP p inst) near far wz h
  unfold Prod.agg Prod.cells at FX FP FQ FN FR
  generalize nameP p inst = nn at *
  go_wp2_with fail
  refine wp_region_E (S := fun w' => (w'.cell? ⟨w.heap.size, 0, none⟩ = some (.string x.code) ∧ w'.cell? ⟨w.heap.size, 1, none⟩ = some (.slice x.ma x.months.length x.mc) ∧ w'.cell? ⟨w.heap.size, 2, none⟩ = some (.int .i64 x.tick) ∧ w'.cell? ⟨w.heap.size, 3, none⟩ = some (.int .i64 x.low) ∧ w'.cell? ⟨w.heap.size, 4, none⟩ = some (.int .i64 x.high) ∧ w'.cell? ⟨w.heap.size, 5, none⟩ = some (.int .i64 x.wide) ∧ w'.cell? ⟨w.heap.size, 6, none⟩ = some (.int .i64 x.rule) ∧ w'.cell? ⟨w.heap.size, 7, none⟩ = some (.int .i64 x.top) ∧ w'.cell? ⟨w.heap.size, 8, none⟩ = some (.int .i64 x.least) ∧ w'.cell? ⟨w.heap.size, 9, none⟩ = some (.int .i64 x.part) ∧ w'.cell? ⟨w.heap.size, 10, none⟩ = some (.slice x.sa x.settle.length x.sc)) ∧ (w'.cell? ⟨w3.heap.size, 0, none⟩ = some (.string p.code) ∧ w'.cell? ⟨w3.heap.size, 1, none⟩ = some (.slice p.ma p.months.length p.mc) ∧ w'.cell? ⟨w3.heap.size, 2, none⟩ = some (.int .i64 p.tick) ∧ w'.cell? ⟨w3.heap.size, 3, none⟩ = some (.int .i64 p.low) ∧ w'.cell? ⟨w3.heap.size, 4, none⟩ = some (.int .i64 p.high) ∧ w'.cell? ⟨w3.heap.size, 5, none⟩ = some (.int .i64 p.wide) ∧ w'.cell? ⟨w3.heap.size, 6, none⟩ = some (.int .i64 p.rule) ∧ w'.cell? ⟨w3.heap.size, 7, none⟩ = some (.int .i64 p.top) ∧ w'.cell? ⟨w3.heap.size, 8, none⟩ = some (.int .i64 p.least) ∧ w'.cell? ⟨w3.heap.size, 9, none⟩ = some (.int .i64 p.part) ∧ w'.cell? ⟨w3.heap.size, 10, none⟩ = some (.slice p.sa p.settle.length p.sc)) ∧ (w'.cell? ⟨gq, 0, none⟩ = some (.string q.code) ∧ w'.cell? ⟨gq, 1, none⟩ = some (.slice q.ma q.months.length q.mc) ∧ w'.cell? ⟨gq, 2, none⟩ = some (.int .i64 q.tick) ∧ w'.cell? ⟨gq, 3, none⟩ = some (.int .i64 q.low) ∧ w'.cell? ⟨gq, 4, none⟩ = some (.int .i64 q.high) ∧ w'.cell? ⟨gq, 5, none⟩ = some (.int .i64 q.wide) ∧ w'.cell? ⟨gq, 6, none⟩ = some (.int .i64 q.rule) ∧ w'.cell? ⟨gq, 7, none⟩ = some (.int .i64 q.top) ∧ w'.cell? ⟨gq, 8, none⟩ = some (.int .i64 q.least) ∧ w'.cell? ⟨gq, 9, none⟩ = some (.int .i64 q.part) ∧ w'.cell? ⟨gq, 10, none⟩ = some (.slice q.sa q.settle.length q.sc))) (by kernel_rfl) T5.out.all (fun hHeld => ?_)
  refine wpE_take (i := 0) (oi := ?oi8) (v := ?v8) ?hi8 (by kernel_rfl) (by kernel_rfl) (by kernel_rfl) (by kernel_rfl) ?hQ8 ?hy8 (by assumption) ?rest8
  case hi8 => (simp only [List.getElem?_toArray]; rfl)
  case hQ8 => exact fun _ _ _ h => h
  case hy8 => exact Or.inl ⟨by rfl, by (intro w hSw; (try dsimp only at hSw); go_simp; try with_reducible rfl)⟩
  try simp only [Act.put, List.setIfInBounds_toArray, List.set_cons_zero, List.set_cons_succ]
  refine wpE_take (i := 1) (oi := ?oi9) (v := ?v9) ?hi9 (by kernel_rfl) (by kernel_rfl) (by kernel_rfl) (by kernel_rfl) ?hQ9 ?hy9 (by assumption) ?rest9
  case hi9 => (simp only [List.getElem?_toArray]; rfl)
  case hQ9 => exact fun _ _ _ h => h
  case hy9 => exact Or.inl ⟨by rfl, by (intro w hSw; (try dsimp only at hSw); go_simp; try with_reducible rfl)⟩
  try simp only [Act.put, List.setIfInBounds_toArray, List.set_cons_zero, List.set_cons_succ]
  refine wpE_take (i := 2) (oi := ?oi10) (v := ?v10) ?hi10 (by kernel_rfl) (by kernel_rfl) (by kernel_rfl) (by kernel_rfl) ?hQ10 ?hy10 (by assumption) ?rest10
  case hi10 => (simp only [List.getElem?_toArray]; rfl)
  case hQ10 => exact fun _ _ _ h => h
  case hy10 => exact Or.inl ⟨by rfl, by (intro w hSw; (try dsimp only at hSw); go_simp; try with_reducible rfl)⟩
  try simp only [Act.put, List.setIfInBounds_toArray, List.set_cons_zero, List.set_cons_succ]
  refine wpE_take (i := 3) (oi := ?oi11) (v := ?v11) ?hi11 (by kernel_rfl) (by kernel_rfl) (by kernel_rfl) (by kernel_rfl) ?hQ11 ?hy11 (by assumption) ?rest11
  case hi11 => (simp only [List.getElem?_toArray]; rfl)
  case hQ11 => exact fun _ _ _ h => h
  case hy11 => exact Or.inl ⟨by rfl, by (intro w hSw; (try dsimp only at hSw); go_simp; try with_reducible rfl)⟩
  try simp only [Act.put, List.setIfInBounds_toArray, List.set_cons_zero, List.set_cons_succ]
  refine wpE_take (i := 4) (oi := ?oi12) (v := ?v12) ?hi12 (by kernel_rfl) (by kernel_rfl) (by kernel_rfl) (by kernel_rfl) ?hQ12 ?hy12 (by assumption) ?rest12
  case hi12 => (simp only [List.getElem?_toArray]; rfl)
  case hQ12 => exact fun _ _ _ h => h
  case hy12 => exact Or.inl ⟨by rfl, by (intro w hSw; (try dsimp only at hSw); go_simp; try with_reducible rfl)⟩
  try simp only [Act.put, List.setIfInBounds_toArray, List.set_cons_zero, List.set_cons_succ]
  refine wpE_take (i := 5) (oi := ?oi13) (v := ?v13) ?hi13 (by kernel_rfl) (by kernel_rfl) (by kernel_rfl) (by kernel_rfl) ?hQ13 ?hy13 (by assumption) ?rest13
  case hi13 => (simp only [List.getElem?_toArray]; rfl)
  case hQ13 => exact fun _ _ _ h => h
  case hy13 => exact Or.inl ⟨by rfl, by (intro w hSw; (try dsimp only at hSw); go_simp; try with_reducible rfl)⟩
  try simp only [Act.put, List.setIfInBounds_toArray, List.set_cons_zero, List.set_cons_succ]
  refine wpE_one (i := 6) (o := ?o44) ?ho44 (by kernel_rfl) (fun K hK => ?_)
  case ho44 => (simp only [List.getElem?_toArray]; rfl)
  go_simp
  go_at_call 25
  refine (FX.out _ T5.out.two.xv).mono ?_
  rintro e v6 ⟨rfl, hb⟩
  have T6 := Lib.hid (T5.out.next hb)
  clear hb T5
  refine hK.out _ _ T6.out.all (fun hHeld => ?_)
  clear hK K
  refine wpE_take (i := 7) (oi := ?oi14) (v := ?v14) ?hi14 (by kernel_rfl) (by kernel_rfl) (by kernel_rfl) (by kernel_rfl) ?hQ14 ?hy14 (by assumption) ?rest14
  case hi14 => (simp only [List.getElem?_toArray]; rfl)
  case hQ14 => exact fun _ _ _ h => h
  case hy14 => exact Or.inl ⟨by rfl, by (intro w hSw; (try dsimp only at hSw); go_simp; try with_reducible rfl)⟩
  try simp only [Act.put, List.setIfInBounds_toArray, List.set_cons_zero, List.set_cons_succ]
  refine wpE_take (i := 8) (oi := ?oi15) (v := ?v15) ?hi15 (by kernel_rfl) (by kernel_rfl) (by kernel_rfl) (by kernel_rfl) ?hQ15 ?hy15 (by assumption) ?rest15
  case hi15 => (simp only [List.getElem?_toArray]; rfl)
  case hQ15 => exact fun _ _ _ h => h
  case hy15 => exact Or.inl ⟨by rfl, by (intro w hSw; (try dsimp only at hSw); go_simp; try with_reducible rfl)⟩
  try simp only [Act.put, List.setIfInBounds_toArray, List.set_cons_zero, List.set_cons_succ]
  refine wpE_take (i := 9) (oi := ?oi16) (v := ?v16) ?hi16 (by kernel_rfl) (by kernel_rfl) (by kernel_rfl) (by kernel_rfl) ?hQ16 ?hy16 (by assumption) ?rest16
  case hi16 => (simp only [List.getElem?_toArray]; rfl)
  case hQ16 => exact fun _ _ _ h => h
  case hy16 => exact Or.inl ⟨by rfl, by (intro w hSw; (try dsimp only at hSw); go_simp; try with_reducible rfl)⟩
  try simp only [Act.put, List.setIfInBounds_toArray, List.set_cons_zero, List.set_cons_succ]
  refine wpE_take (i := 10) (oi := ?oi17) (v := ?v17) ?hi17 (by kernel_rfl) (by kernel_rfl) (by kernel_rfl) (by kernel_rfl) ?hQ17 ?hy17 (by assumption) ?rest17
  case hi17 => (simp only [List.getElem?_toArray]; rfl)
  case hQ17 => exact fun _ _ _ h => h
  case hy17 => exact Or.inl ⟨by rfl, by (intro w hSw; (try dsimp only at hSw); go_simp; try with_reducible rfl)⟩
  try simp only [Act.put, List.setIfInBounds_toArray, List.set_cons_zero, List.set_cons_succ]
  refine wpE_take (i := 11) (oi := ?oi18) (v := ?v18) ?hi18 (by kernel_rfl) (by kernel_rfl) (by kernel_rfl) (by kernel_rfl) ?hQ18 ?hy18 (by assumption) ?rest18
  case hi18 => (simp only [List.getElem?_toArray]; rfl)
  case hQ18 => exact fun _ _ _ h => h
  case hy18 => exact Or.inl ⟨by rfl, by (intro w hSw; (try dsimp only at hSw); go_simp; try with_reducible rfl)⟩
  try simp only [Act.put, List.setIfInBounds_toArray, List.set_cons_zero, List.set_cons_succ]
  refine wpE_take (i := 12) (oi := ?oi19) (v := ?v19) ?hi19 (by kernel_rfl) (by kernel_rfl) (by kernel_rfl) (by kernel_rfl) ?hQ19 ?hy19 (by assumption) ?rest19
  case hi19 => (simp only [List.getElem?_toArray]; rfl)
  case hQ19 => exact fun _ _ _ h => h
  case hy19 => exact Or.inl ⟨by rfl, by (intro w hSw; (try dsimp only at hSw); go_simp; try with_reducible rfl)⟩
  try simp only [Act.put, List.setIfInBounds_toArray, List.set_cons_zero, List.set_cons_succ]
  refine wpE_take (i := 13) (oi := ?oi20) (v := ?v20) ?hi20 (by kernel_rfl) (by kernel_rfl) (by kernel_rfl) (by kernel_rfl) ?hQ20 ?hy20 (by assumption) ?rest20
  case hi20 => (simp only [List.getElem?_toArray]; rfl)
  case hQ20 => exact fun _ _ _ h => h
  case hy20 => exact Or.inl ⟨by rfl, by (intro w hSw; (try dsimp only at hSw); go_simp; try with_reducible rfl)⟩
  try simp only [Act.put, List.setIfInBounds_toArray, List.set_cons_zero, List.set_cons_succ]
  refine wpE_one (i := 14) (o := ?o45) ?ho45 (by kernel_rfl) (fun K hK => ?_)
  case ho45 => (simp only [List.getElem?_toArray]; rfl)
  go_simp
  go_at_call 25
  refine (FP.out _ T6.out.two.pv).mono ?_
  rintro e v7 ⟨rfl, hb⟩
  have T7 := Lib.hid (T6.out.next hb)
  clear hb T6
  refine hK.out _ _ T7.out.all (fun hHeld => ?_)
  clear hK K
  refine wpE_take (i := 15) (oi := ?oi21) (v := ?v21) ?hi21 (by kernel_rfl) (by kernel_rfl) (by kernel_rfl) (by kernel_rfl) ?hQ21 ?hy21 (by assumption) ?rest21
  case hi21 => (simp only [List.getElem?_toArray]; rfl)
  case hQ21 => exact fun _ _ _ h => h
  case hy21 => exact Or.inl ⟨by rfl, by (intro w hSw; (try dsimp only at hSw); go_simp; try with_reducible rfl)⟩
  try simp only [Act.put, List.setIfInBounds_toArray, List.set_cons_zero, List.set_cons_succ]
  refine wpE_take (i := 16) (oi := ?oi22) (v := ?v22) ?hi22 (by kernel_rfl) (by kernel_rfl) (by kernel_rfl) (by kernel_rfl) ?hQ22 ?hy22 (by assumption) ?rest22
  case hi22 => (simp only [List.getElem?_toArray]; rfl)
  case hQ22 => exact fun _ _ _ h => h
  case hy22 => exact Or.inl ⟨by rfl, by (intro w hSw; (try dsimp only at hSw); go_simp; try with_reducible rfl)⟩
  try simp only [Act.put, List.setIfInBounds_toArray, List.set_cons_zero, List.set_cons_succ]
  refine wpE_take (i := 17) (oi := ?oi23) (v := ?v23) ?hi23 (by kernel_rfl) (by kernel_rfl) (by kernel_rfl) (by kernel_rfl) ?hQ23 ?hy23 (by assumption) ?rest23
  case hi23 => (simp only [List.getElem?_toArray]; rfl)
  case hQ23 => exact fun _ _ _ h => h
  case hy23 => exact Or.inl ⟨by rfl, by (intro w hSw; (try dsimp only at hSw); go_simp; try with_reducible rfl)⟩
  try simp only [Act.put, List.setIfInBounds_toArray, List.set_cons_zero, List.set_cons_succ]
  refine wpE_take (i := 18) (oi := ?oi24) (v := ?v24) ?hi24 (by kernel_rfl) (by kernel_rfl) (by kernel_rfl) (by kernel_rfl) ?hQ24 ?hy24 (by assumption) ?rest24
  case hi24 => (simp only [List.getElem?_toArray]; rfl)
  case hQ24 => exact fun _ _ _ h => h
  case hy24 => exact Or.inl ⟨by rfl, by (intro w hSw; (try dsimp only at hSw); go_simp; try with_reducible rfl)⟩
  try simp only [Act.put, List.setIfInBounds_toArray, List.set_cons_zero, List.set_cons_succ]
  refine wpE_take (i := 19) (oi := ?oi25) (v := ?v25) ?hi25 (by kernel_rfl) (by kernel_rfl) (by kernel_rfl) (by kernel_rfl) ?hQ25 ?hy25 (by assumption) ?rest25
  case hi25 => (simp only [List.getElem?_toArray]; rfl)
  case hQ25 => exact fun _ _ _ h => h
  case hy25 => exact Or.inl ⟨by rfl, by (intro w hSw; (try dsimp only at hSw); go_simp; try with_reducible rfl)⟩
  try simp only [Act.put, List.setIfInBounds_toArray, List.set_cons_zero, List.set_cons_succ]
  refine wpE_take (i := 20) (oi := ?oi26) (v := ?v26) ?hi26 (by kernel_rfl) (by kernel_rfl) (by kernel_rfl) (by kernel_rfl) ?hQ26 ?hy26 (by assumption) ?rest26
  case hi26 => (simp only [List.getElem?_toArray]; rfl)
  case hQ26 => exact fun _ _ _ h => h
  case hy26 => exact Or.inl ⟨by rfl, by (intro w hSw; (try dsimp only at hSw); go_simp; try with_reducible rfl)⟩
  try simp only [Act.put, List.setIfInBounds_toArray, List.set_cons_zero, List.set_cons_succ]
  refine wpE_take (i := 21) (oi := ?oi27) (v := ?v27) ?hi27 (by kernel_rfl) (by kernel_rfl) (by kernel_rfl) (by kernel_rfl) ?hQ27 ?hy27 (by assumption) ?rest27
  case hi27 => (simp only [List.getElem?_toArray]; rfl)
  case hQ27 => exact fun _ _ _ h => h
  case hy27 => exact Or.inl ⟨by rfl, by (intro w hSw; (try dsimp only at hSw); go_simp; try with_reducible rfl)⟩
  try simp only [Act.put, List.setIfInBounds_toArray, List.set_cons_zero, List.set_cons_succ]
  refine wpE_take (i := 22) (oi := ?oi28) (v := ?v28) ?hi28 (by kernel_rfl) (by kernel_rfl) (by kernel_rfl) (by kernel_rfl) ?hQ28 ?hy28 (by assumption) ?rest28
  case hi28 => (simp only [List.getElem?_toArray]; rfl)
  case hQ28 => exact fun _ _ _ h => h
  case hy28 => exact Or.inl ⟨by rfl, by (intro w hSw; (try dsimp only at hSw); go_simp; try with_reducible rfl)⟩
  try simp only [Act.put, List.setIfInBounds_toArray, List.set_cons_zero, List.set_cons_succ]
  refine wpE_one (i := 23) (o := ?o46) ?ho46 (by kernel_rfl) (fun K hK => ?_)
  case ho46 => (simp only [List.getElem?_toArray]; rfl)
  go_simp
  go_at_call 25
  refine (FQ.out _ T7.out.qv).mono ?_
  rintro e v8 ⟨rfl, hb⟩
  have T8 := Lib.hid (T7.out.next hb)
  clear hb T7
  refine hK.out _ _ T8.out.all (fun hHeld => ?_)
  clear hK K
  refine wpE_take (i := 24) (oi := ?oi29) (v := ?v29) ?hi29 (by kernel_rfl) (by kernel_rfl) (by kernel_rfl) (by kernel_rfl) ?hQ29 ?hy29 (by assumption) ?rest29
  case hi29 => (simp only [List.getElem?_toArray]; rfl)
  case hQ29 => exact fun _ _ _ h => h
  case hy29 => exact Or.inl ⟨by rfl, by (intro w hSw; (try dsimp only at hSw); go_simp; try with_reducible rfl)⟩
  try simp only [Act.put, List.setIfInBounds_toArray, List.set_cons_zero, List.set_cons_succ]
  refine wpE_take (i := 25) (oi := ?oi30) (v := ?v30) ?hi30 (by kernel_rfl) (by kernel_rfl) (by kernel_rfl) (by kernel_rfl) ?hQ30 ?hy30 (by assumption) ?rest30
  case hi30 => (simp only [List.getElem?_toArray]; rfl)
  case hQ30 => exact fun _ _ _ h => h
  case hy30 => exact Or.inl ⟨by rfl, by (intro w hSw; (try dsimp only at hSw); go_simp; try with_reducible rfl)⟩
  try simp only [Act.put, List.setIfInBounds_toArray, List.set_cons_zero, List.set_cons_succ]
  refine wpE_take (i := 26) (oi := ?oi31) (v := ?v31) ?hi31 (by kernel_rfl) (by kernel_rfl) (by kernel_rfl) (by kernel_rfl) ?hQ31 ?hy31 (by assumption) ?rest31
  case hi31 => (simp only [List.getElem?_toArray]; rfl)
  case hQ31 => exact fun _ _ _ h => h
  case hy31 => exact Or.inl ⟨by rfl, by (intro w hSw; (try dsimp only at hSw); go_simp; try with_reducible rfl)⟩
  try simp only [Act.put, List.setIfInBounds_toArray, List.set_cons_zero, List.set_cons_succ]
  refine wpE_take (i := 27) (oi := ?oi32) (v := ?v32) ?hi32 (by kernel_rfl) (by kernel_rfl) (by kernel_rfl) (by kernel_rfl) ?hQ32 ?hy32 (by assumption) ?rest32
  case hi32 => (simp only [List.getElem?_toArray]; rfl)
  case hQ32 => exact fun _ _ _ h => h
  case hy32 => exact Or.inl ⟨by rfl, by (intro w hSw; (try dsimp only at hSw); go_simp; try with_reducible rfl)⟩
  try simp only [Act.put, List.setIfInBounds_toArray, List.set_cons_zero, List.set_cons_succ]
  refine wpE_take (i := 28) (oi := ?oi33) (v := ?v33) ?hi33 (by kernel_rfl) (by kernel_rfl) (by kernel_rfl) (by kernel_rfl) ?hQ33 ?hy33 (by assumption) ?rest33
  case hi33 => (simp only [List.getElem?_toArray]; rfl)
  case hQ33 => exact fun _ _ _ h => h
  case hy33 => exact Or.inl ⟨by rfl, by (intro w hSw; (try dsimp only at hSw); go_simp; try with_reducible rfl)⟩
  try simp only [Act.put, List.setIfInBounds_toArray, List.set_cons_zero, List.set_cons_succ]
  refine wpE_take (i := 29) (oi := ?oi34) (v := ?v34) ?hi34 (by kernel_rfl) (by kernel_rfl) (by kernel_rfl) (by kernel_rfl) ?hQ34 ?hy34 (by assumption) ?rest34
  case hi34 => (simp only [List.getElem?_toArray]; rfl)
  case hQ34 => exact fun _ _ _ h => h
  case hy34 => exact Or.inl ⟨by rfl, by (intro w hSw; (try dsimp only at hSw); go_simp; try with_reducible rfl)⟩
  try simp only [Act.put, List.setIfInBounds_toArray, List.set_cons_zero, List.set_cons_succ]
  refine wpE_take (i := 30) (oi := ?oi35) (v := ?v35) ?hi35 (by kernel_rfl) (by kernel_rfl) (by kernel_rfl) (by kernel_rfl) ?hQ35 ?hy35 (by assumption) ?rest35
  case hi35 => (simp only [List.getElem?_toArray]; rfl)
  case hQ35 => exact fun _ _ _ h => h
  case hy35 => exact Or.inl ⟨by rfl, by (intro w hSw; (try dsimp only at hSw); go_simp; try with_reducible rfl)⟩
  try simp only [Act.put, List.setIfInBounds_toArray, List.set_cons_zero, List.set_cons_succ]
  refine wpE_take (i := 32) (oi := ?oi36) (v := ?v36) ?hi36 (by kernel_rfl) (by kernel_rfl) (by kernel_rfl) (by kernel_rfl) ?hQ36 ?hy36 (by assumption) ?rest36
  case hi36 => (simp only [List.getElem?_toArray]; rfl)
  case hQ36 => exact fun _ _ _ h => h
  case hy36 => exact Or.inl ⟨by rfl, by (intro w hSw; (try dsimp only at hSw); go_simp; try with_reducible rfl)⟩
  try simp only [Act.put, List.setIfInBounds_toArray, List.set_cons_zero, List.set_cons_succ]
  refine wpE_take (i := 33) (oi := ?oi37) (v := ?v37) ?hi37 (by kernel_rfl) (by kernel_rfl) (by kernel_rfl) (by kernel_rfl) ?hQ37 ?hy37 (by assumption) ?rest37
  case hi37 => (simp only [List.getElem?_toArray]; rfl)
  case hQ37 => exact fun _ _ _ h => h
  case hy37 => exact Or.inl ⟨by rfl, by (intro w hSw; (try dsimp only at hSw); go_simp; try with_reducible rfl)⟩
  try simp only [Act.put, List.setIfInBounds_toArray, List.set_cons_zero, List.set_cons_succ]
  refine wpE_one (i := 31) (o := ?o47) ?ho47 (by kernel_rfl) (fun K hK => ?_)
  case ho47 => (simp only [List.getElem?_toArray]; rfl)
  go_simp
  go_at_call 27
  refine (FN.out _ T8.out.two.pv).mono ?_
  rintro e v9 ⟨rfl, hb⟩
  have T9 := Lib.hid (T8.out.next hb)
  clear hb T8
  refine hK.out _ _ T9.out.all (fun hHeld => ?_)
  clear hK K
  refine wpE_one (i := 34) (o := ?o48) ?ho48 (by kernel_rfl) (fun K hK => ?_)
  case ho48 => (simp only [List.getElem?_toArray]; rfl)
  go_simp
  go_at_call 25
  refine (FR.out _ T9.out.two.pv).mono ?_
  rintro e v10 ⟨rfl, hb⟩
  have T10 := Lib.hid (T9.out.next hb)
  clear hb T9
  refine hK.out _ _ T10.out.all (fun hHeld => ?_)
  clear hK K
  refine wpE_take (i := 35) (oi := ?oi38) (v := ?v38) ?hi38 (by kernel_rfl) (by kernel_rfl) (by kernel_rfl) (by kernel_rfl) ?hQ38 ?hy38 (by assumption) ?rest38
  case hi38 => (simp only [List.getElem?_toArray]; rfl)
  case hQ38 => exact fun _ _ _ h => h
  case hy38 => exact Or.inl ⟨by rfl, by (intro w hSw; (try dsimp only at hSw); go_simp; try with_reducible rfl)⟩
  try simp only [Act.put, List.setIfInBounds_toArray, List.set_cons_zero, List.set_cons_succ]
  refine wpE_take (i := 36) (oi := ?oi39) (v := ?v39) ?hi39 (by kernel_rfl) (by kernel_rfl) (by kernel_rfl) (by kernel_rfl) ?hQ39 ?hy39 (by assumption) ?rest39
  case hi39 => (simp only [List.getElem?_toArray]; rfl)
  case hQ39 => exact fun _ _ _ h => h
  case hy39 => exact Or.inl ⟨by rfl, by (intro w hSw; (try dsimp only at hSw); go_simp; try with_reducible rfl)⟩
  try simp only [Act.put, List.setIfInBounds_toArray, List.set_cons_zero, List.set_cons_succ]
  refine wpE_one (i := 37) (o := ?o49) ?ho49 (by kernel_rfl) (fun K hK => ?_)
  case ho49 => (simp only [List.getElem?_toArray]; rfl)
  go_simp
  go_at_call 15
  refine (known5_any _).mono ?_
  rintro e v11 ⟨rfl, hb⟩
  have T11 := Lib.hid (T10.out.next hb)
  clear hb T10
  refine hK.out _ _ T11.out.all (fun hHeld => ?_)
  clear hK K
  refine wpE_of_held _ _ _ _ ?_
  refine wpAnyH_take (i := 38) (oi := ?oi3) (v := ?v3) ?hi3 (by kernel_rfl) (by kernel_rfl) (by kernel_rfl) ?hQ3 ?hy3 (by assumption) ?rest3
  case hi3 => (simp only [List.getElem?_toArray]; rfl)
  case hQ3 => exact fun _ _ _ h => h
  case hy3 => exact Or.inl ⟨by rfl, by (intro w hSw; (try dsimp only at hSw); go_simp; try with_reducible rfl)⟩
  try simp only [Act.put, List.setIfInBounds_toArray, List.set_cons_zero, List.set_cons_succ]
  refine wpAnyH_take (i := 39) (oi := ?oi4) (v := ?v4) ?hi4 (by kernel_rfl) (by kernel_rfl) (by kernel_rfl) ?hQ4 ?hy4 (by assumption) ?rest4
  case hi4 => (simp only [List.getElem?_toArray]; rfl)
  case hQ4 => exact fun _ _ _ h => h
  case hy4 => exact Or.inl ⟨by rfl, by (intro w hSw; (try dsimp only at hSw); go_simp; try with_reducible rfl)⟩
  try simp only [Act.put, List.setIfInBounds_toArray, List.set_cons_zero, List.set_cons_succ]
  refine wpAnyH_done (by kernel_rfl) ?_ _
  clear hHeld
  go_wp2_with fail
  go_ret
  exact ⟨by trivial, T11.out.two.bel⟩
end Go.Proofs.Ytjjddlfbadahhaa
