/- The walk of cornhilllaw5.RefdataNone. Printed by mk_none.py. -/
import Derived.Test.YtjjddlfbadahhaaTurn
import Derived.Test.YtjjddlfbadahhaaSpr5
import Derived.Test.YtjjddlfbadahhaaFind
namespace Go.Proofs.Ytjjddlfbadahhaa
open Go.RowKit

theorem legs_zero {q : Prod} (h : countP q = 0) (i : Int) : legsP q i = (0, 0, false) := if_pos (by omega)
theorem name_zero {q : Prod} (h : countP q = 0) (i : Int) : nameP q i = ⟨#[]⟩ := if_pos (by omega)
theorem spread_zero {q : Prod} (h : checkP q ≠ 0) (i j : Int) : spreadP q i j = (0, false) := if_neg fun x => h x.1
theorem find_zero {q : Prod} (h : countP q = 0) (s : ByteArray) : findP q s = (0, false) := find_miss fun j hj => by omega
theorem price_none {q : Prod} (h : countP q = 0) (i x : Int) : priceP q i x = 1 := if_pos h
set_option maxRecDepth 100000 in
set_option maxHeartbeats 8000000 in
theorem none5_any (px : Prod) (how n inst price : Int) (name : ByteArray) (w : World) (hX : PIn w px) (hh1 : -9223372036854775808 ≤ how) (hh2 : how ≤ 9223372036854775807) (hn1 : -9223372036854775808 ≤ n) (hn2 : n ≤ 9223372036854775807) (_ : -9223372036854775808 ≤ inst) (_ : inst ≤ 9223372036854775807) (_ : -9223372036854775808 ≤ price) (_ : price ≤ 9223372036854775807) (_ : name.size ≤ maxLen) :
    Calls Try.prog 11 #[px.agg, .int .i64 how, .int .i64 n, .int .i64 inst, .int .i64 price, .string name] w fun e w' => e = .returned (.bool true) ∧ Below w.heap.size w w' := by
  have s1 : ∀ (w : World) (o : Obj), (w.alloc o).heap.size = w.heap.size + 1 := fun w o => by simp
  have hkp := keep_any px (w.alloc (.cells #[.string px.code, .slice px.ma px.months.length px.mc, .int .i64 px.tick, .int .i64 px.low, .int .i64 px.high, .int .i64 px.wide, .int .i64 px.rule, .int .i64 px.top, .int .i64 px.least, .int .i64 px.part, .slice px.sa px.settle.length px.sc] 25)) hX.px
  unfold Prod.agg Prod.cells at hkp ⊢
  have HB0 : Hid (Below w.heap.size w (w.alloc (.cells #[.string px.code, .slice px.ma px.months.length px.mc, .int .i64 px.tick, .int .i64 px.low, .int .i64 px.high, .int .i64 px.wide, .int .i64 px.rule, .int .i64 px.top, .int .i64 px.least, .int .i64 px.part, .slice px.sa px.settle.length px.sc] 25))) := Lib.hid (Below.allocN _ _)
  go_enter Try.func11, Try.ntmps11
  go_wp2_with fail
  refine hkp.mono ?_
  rintro e w1 ⟨k, ma, mc, sa, sc, hok, rfl, hpv, hb1⟩
  have hB1 := HB0.out.trans (hb1.mono HB0.out.size)
  have hl1 : (k.prod ma mc sa sc).months.length = k.n := monthsK_len k.n
  have hl2 : (k.prod ma mc sa sc).settle.length = k.n := settleK_len k.tick k.n
  have hkn := hok.n
  have HTU := Lib.hid fun v => turned_any (k.prod ma mc sa sc) v n w1 hpv hn1 hn2 (by omega) (by omega) (by omega) (by omega)
  have HW := Lib.hid fun w => within_any how 0 13 w hh1 hh2 (by omega) (by omega) (by omega)
  clear hkp hb1 HB0 hX hok hl1 hl2 hkn
  generalize k.prod ma mc sa sc = p at *
  unfold Prod.agg Prod.cells at HTU
  go_wp2_with fail
  refine (HW.out _).mono ?_
  rintro e w2 ⟨rfl, rfl⟩
  generalize withI how 0 13 = v at *
  go_wp2_with fail
  refine (HTU.out v).mono ?_
  rintro e w2 ⟨q, rfl, hqv, hb⟩
  have hB2 := hB1.trans (hb.mono hB1.size)
  clear hB1 hb HTU HW hpv
  go_upto_region 2 with (fail)
  have T0 : Hid (One w (w2.alloc (.cells #[.string q.code, .slice q.ma q.months.length q.mc, .int .i64 q.tick, .int .i64 q.low, .int .i64 q.high, .int .i64 q.wide, .int .i64 q.rule, .int .i64 q.top, .int .i64 q.least, .int .i64 q.part, .slice q.sa q.settle.length q.sc] 25)) w2.heap.size q) := Lib.hid ⟨hB2.trans ((Below.allocN _ _).mono hB2.size), PC.new w2 q, hqv.below (Below.allocN _ _), by rw [s1]; omega⟩
  clear hqv hB2
  generalize (w2.alloc (.cells #[.string q.code, .slice q.ma q.months.length q.mc, .int .i64 q.tick, .int .i64 q.low, .int .i64 q.high, .int .i64 q.wide, .int .i64 q.rule, .int .i64 q.top, .int .i64 q.least, .int .i64 q.part, .slice q.sa q.settle.length q.sc] 25)) = w3 at *
  have FC := Lib.hid fun wz (h : PV wz q) => check_any q wz h
  have FN := Lib.hid fun wz (h : PV wz q) => count_inst_any q wz h
  unfold Prod.agg Prod.cells at FC FN
  obtain ⟨b0, b1, b2, b3, b4, b5, b6, b7, b8, b9, b10⟩ := T0.out.pc
  by_cases hz : checkP q = 0
  · have hc := countP_some hz
    have hl := check_len hz
    have hcr := countN_room q.months.length hl.2 hl.1
    have h3 : (3 : Int) ≤ countP q := by omega
    rw [hz] at FC
    generalize countP q = c at *
    clear hz hc hl hcr
    go_wp2_with fail
    refine (FC.out _ T0.out.pv).mono ?_
    rintro e w4 ⟨rfl, hb⟩
    have T1 := Lib.hid (T0.out.next hb)
    clear hb T0 FC b0 b1 b2 b3 b4 b5 b6 b7 b8 b9 b10
    obtain ⟨b0, b1, b2, b3, b4, b5, b6, b7, b8, b9, b10⟩ := T1.out.pc
    go_wp2_with fail
    refine (FN.out _ T1.out.pv).mono ?_
    rintro e w5 ⟨rfl, hb⟩
    have T2 := Lib.hid (T1.out.next hb)
    clear hb T1 FN b0 b1 b2 b3 b4 b5 b6 b7 b8 b9 b10
    go_wp2_with fail
    refine (known5_any _).mono ?_
    rintro e w6 ⟨rfl, hb⟩
    have T3 := Lib.hid (T2.out.next hb)
    clear hb T2
    go_wp2_with fail
    go_ret
    exact ⟨by trivial, T3.out.bel⟩
  · have hc := countP_zero hz
    have HH := Lib.hid fun w => head_any name 40 w (by omega)
    have FL := Lib.hid fun wz (h : PV wz q) => legs_any q inst wz h
    have FS := Lib.hid fun wz (h : PV wz q) => spread5_any q 0 1 wz h
    have FF := Lib.hid fun wz (h : PV wz q) => find_any q (headS name 40) wz h
    have FM := Lib.hid fun wz (h : PV wz q) => name_any q inst wz h
    have FP := Lib.hid fun wz (h : PV wz q) => price_any q inst price wz h
    rw [legs_zero hc] at FL
    rw [spread_zero hz] at FS
    rw [find_zero hc] at FF
    rw [name_zero hc] at FM
    rw [price_none hc] at FP
    rw [hc] at FN
    unfold Prod.agg Prod.cells at FL FS FF FM FP
    have hz1 : (checkP q == 0) = false := by rw [beq_eq_false_iff_ne]; exact hz
    generalize checkP q = vc at *
    generalize headS name 40 = hd at *
    clear hz hc
    go_wp2_with fail
    refine (FC.out _ T0.out.pv).mono ?_
    rintro e w4 ⟨rfl, hb⟩
    have T1 := Lib.hid (T0.out.next hb)
    clear hb T0 FC b0 b1 b2 b3 b4 b5 b6 b7 b8 b9 b10
    obtain ⟨b0, b1, b2, b3, b4, b5, b6, b7, b8, b9, b10⟩ := T1.out.pc
    go_wp2_with fail
    refine (FL.out _ T1.out.pv).mono ?_
    rintro e w5 ⟨rfl, hb⟩
    have T2 := Lib.hid (T1.out.next hb)
    clear hb T1 FL b0 b1 b2 b3 b4 b5 b6 b7 b8 b9 b10
    obtain ⟨b0, b1, b2, b3, b4, b5, b6, b7, b8, b9, b10⟩ := T2.out.pc
    go_wp2_with fail
    refine (FS.out _ T2.out.pv).mono ?_
    rintro e w6 ⟨rfl, hb⟩
    have T3 := Lib.hid (T2.out.next hb)
    clear hb T2 FS b0 b1 b2 b3 b4 b5 b6 b7 b8 b9 b10
    go_wp2_with fail
    have T4 := Lib.hid (T3.out.next (Below.drewN_of w6 1))
    refine wp_region_E (S := fun w' => w'.cell? ⟨w2.heap.size, 0, none⟩ = some (.string q.code) ∧ w'.cell? ⟨w2.heap.size, 1, none⟩ = some (.slice q.ma q.months.length q.mc) ∧ w'.cell? ⟨w2.heap.size, 2, none⟩ = some (.int .i64 q.tick) ∧ w'.cell? ⟨w2.heap.size, 3, none⟩ = some (.int .i64 q.low) ∧ w'.cell? ⟨w2.heap.size, 4, none⟩ = some (.int .i64 q.high) ∧ w'.cell? ⟨w2.heap.size, 5, none⟩ = some (.int .i64 q.wide) ∧ w'.cell? ⟨w2.heap.size, 6, none⟩ = some (.int .i64 q.rule) ∧ w'.cell? ⟨w2.heap.size, 7, none⟩ = some (.int .i64 q.top) ∧ w'.cell? ⟨w2.heap.size, 8, none⟩ = some (.int .i64 q.least) ∧ w'.cell? ⟨w2.heap.size, 9, none⟩ = some (.int .i64 q.part) ∧ w'.cell? ⟨w2.heap.size, 10, none⟩ = some (.slice q.sa q.settle.length q.sc)) (by kernel_rfl) T4.out.pc (fun hHeld => ?_)
    refine wpE_take (i := 0) (oi := ?oi6) (v := ?v6) ?hi6 (by kernel_rfl) (by kernel_rfl) (by kernel_rfl) (by kernel_rfl) ?hQ6 ?hy6 (by assumption) ?rest6
    case hi6 => (simp only [List.getElem?_toArray]; rfl)
    case hQ6 => exact fun _ _ _ h => h
    case hy6 => exact Or.inl ⟨by rfl, by (intro w hSw; (try dsimp only at hSw); go_simp; try with_reducible rfl)⟩
    try simp only [Act.put, List.setIfInBounds_toArray, List.set_cons_zero, List.set_cons_succ]
    refine wpE_take (i := 1) (oi := ?oi7) (v := ?v7) ?hi7 (by kernel_rfl) (by kernel_rfl) (by kernel_rfl) (by kernel_rfl) ?hQ7 ?hy7 (by assumption) ?rest7
    case hi7 => (simp only [List.getElem?_toArray]; rfl)
    case hQ7 => exact fun _ _ _ h => h
    case hy7 => exact Or.inl ⟨by rfl, by (intro w hSw; (try dsimp only at hSw); go_simp; try with_reducible rfl)⟩
    try simp only [Act.put, List.setIfInBounds_toArray, List.set_cons_zero, List.set_cons_succ]
    refine wpE_one (i := 2) (o := ?o8) ?ho8 (by kernel_rfl) (fun K hK => ?_)
    case ho8 => (simp only [List.getElem?_toArray]; rfl)
    go_simp
    go_at_call 26
    refine (HH.out _).mono ?_
    rintro e w7 ⟨rfl, rfl⟩
    refine hK.out _ _ T4.out.pc (fun hHeld => ?_)
    clear hK K
    refine wpE_one (i := 3) (o := ?o9) ?ho9 (by kernel_rfl) (fun K hK => ?_)
    case ho9 => (simp only [List.getElem?_toArray]; rfl)
    go_simp
    go_at_call 29
    refine (FF.out _ T4.out.pv).mono ?_
    rintro e w7 ⟨rfl, hb⟩
    have T5 := Lib.hid (T4.out.next hb)
    clear hb T4 FF
    refine hK.out _ _ T5.out.pc (fun hHeld => ?_)
    clear hK K
    refine wpE_of_held _ _ _ _ ?_
    refine wpAnyH_take (i := 4) (oi := ?oi1) (v := ?v1) ?hi1 (by kernel_rfl) (by kernel_rfl) (by kernel_rfl) ?hQ1 ?hy1 (by assumption) ?rest1
    case hi1 => (simp only [List.getElem?_toArray]; rfl)
    case hQ1 => exact fun _ _ _ h => h
    case hy1 => exact Or.inl ⟨by rfl, by (intro w hSw; (try dsimp only at hSw); go_simp; try with_reducible rfl)⟩
    try simp only [Act.put, List.setIfInBounds_toArray, List.set_cons_zero, List.set_cons_succ]
    refine wpAnyH_take (i := 5) (oi := ?oi2) (v := ?v2) ?hi2 (by kernel_rfl) (by kernel_rfl) (by kernel_rfl) ?hQ2 ?hy2 (by assumption) ?rest2
    case hi2 => (simp only [List.getElem?_toArray]; rfl)
    case hQ2 => exact fun _ _ _ h => h
    case hy2 => exact Or.inl ⟨by rfl, by (intro w hSw; (try dsimp only at hSw); go_simp; try with_reducible rfl)⟩
    try simp only [Act.put, List.setIfInBounds_toArray, List.set_cons_zero, List.set_cons_succ]
    refine wpAnyH_take (i := 6) (oi := ?oi3) (v := ?v3) ?hi3 (by kernel_rfl) (by kernel_rfl) (by kernel_rfl) ?hQ3 ?hy3 (by assumption) ?rest3
    case hi3 => (simp only [List.getElem?_toArray]; rfl)
    case hQ3 => exact fun _ _ _ h => h
    case hy3 => exact Or.inl ⟨by rfl, by (intro w hSw; (try dsimp only at hSw); go_simp; try with_reducible rfl)⟩
    try simp only [Act.put, List.setIfInBounds_toArray, List.set_cons_zero, List.set_cons_succ]
    refine wpAnyH_take (i := 7) (oi := ?oi4) (v := ?v4) ?hi4 (by kernel_rfl) (by kernel_rfl) (by kernel_rfl) ?hQ4 ?hy4 (by assumption) ?rest4
    case hi4 => (simp only [List.getElem?_toArray]; rfl)
    case hQ4 => exact fun _ _ _ h => h
    case hy4 => exact Or.inl ⟨by rfl, by (intro w hSw; (try dsimp only at hSw); go_simp; try with_reducible rfl)⟩
    try simp only [Act.put, List.setIfInBounds_toArray, List.set_cons_zero, List.set_cons_succ]
    refine wpAnyH_take (i := 8) (oi := ?oi5) (v := ?v5) ?hi5 (by kernel_rfl) (by kernel_rfl) (by kernel_rfl) ?hQ5 ?hy5 (by assumption) ?rest5
    case hi5 => (simp only [List.getElem?_toArray]; rfl)
    case hQ5 => exact fun _ _ _ h => h
    case hy5 => exact Or.inl ⟨by rfl, by (intro w hSw; (try dsimp only at hSw); go_simp; try with_reducible rfl)⟩
    try simp only [Act.put, List.setIfInBounds_toArray, List.set_cons_zero, List.set_cons_succ]
    refine wpAnyH_done (by kernel_rfl) ?_ _
    clear hHeld
    obtain ⟨b0, b1, b2, b3, b4, b5, b6, b7, b8, b9, b10⟩ := T5.out.pc
    go_wp2_with fail
    refine (FN.out _ T5.out.pv).mono ?_
    rintro e w8 ⟨rfl, hb⟩
    have T6 := Lib.hid (T5.out.next hb)
    clear hb T5 FN b0 b1 b2 b3 b4 b5 b6 b7 b8 b9 b10
    obtain ⟨b0, b1, b2, b3, b4, b5, b6, b7, b8, b9, b10⟩ := T6.out.pc
    go_wp2_with fail
    refine (FM.out _ T6.out.pv).mono ?_
    rintro e w9 ⟨rfl, hb⟩
    have T7 := Lib.hid (T6.out.next hb)
    clear hb T6 FM b0 b1 b2 b3 b4 b5 b6 b7 b8 b9 b10
    obtain ⟨b0, b1, b2, b3, b4, b5, b6, b7, b8, b9, b10⟩ := T7.out.pc
    go_wp2_with fail
    refine (FP.out _ T7.out.pv).mono ?_
    rintro e w10 ⟨rfl, hb⟩
    have T8 := Lib.hid (T7.out.next hb)
    clear hb T7 FP b0 b1 b2 b3 b4 b5 b6 b7 b8 b9 b10
    go_wp2_with fail
    refine (known5_any _).mono ?_
    rintro e w11 ⟨rfl, hb⟩
    have T9 := Lib.hid (T8.out.next hb)
    clear hb T8
    go_wp2_with fail
    go_ret
    exact ⟨by trivial, T9.out.bel⟩
end Go.Proofs.Ytjjddlfbadahhaa
