/- The walk of cornhilllaw14.held. Printed by mk_held.py. -/
import Derived.Test.YtilficlanliinaaIn14
import Derived.Test.YtilficlanliinaaRQuo14
import Derived.Test.YtilficlanliinaaLaw14
namespace Go.Proofs.Ytilficlanliinaa
open Go.RowKit

theorem allP_side (p : Prod) (L : List Tp) (inst side : Int) : allP p L inst side = [] ∨ side = 1 ∨ side = 2 := by
  by_cases h : side = 1 ∨ side = 2
  · exact .inr h
  · exact .inl (if_pos (.inr (.inr (.inr (.inr ⟨fun x => h (.inl x), fun x => h (.inr x)⟩)))))
theorem quotesP_side (p : Prod) (L : List Tp) (inst side : Int) : quotesP p L inst side = [] ∨ side = 1 ∨ side = 2 := by
  rcases allP_side p L inst side with h | h
  · exact .inl (by unfold quotesP; rw [h]; rfl)
  · exact .inr h
/-- where held stands -/
structure HD (w w1 : World) (p : Prod) (ta : Option Addr) (L : List Tp) : Prop where
  bel : Below w.heap.size w w1
  box : Blk w1 w.heap.size 25 p.cells
  pv : PV w1 p
  tops : TP.Rd w1 ta L
theorem HD.next {w w1 w2 : World} {p : Prod} {ta : Option Addr} {L : List Tp} (h : HD w w1 p ta L) (hb : Below w1.heap.size w1 w2) : HD w w2 p ta L :=
  ⟨h.bel.trans (hb.mono h.bel.size), h.box.below hb, h.pv.below hb, h.tops.below hb⟩
theorem HD.pc {w w1 : World} {p : Prod} {ta : Option Addr} {L : List Tp} (h : HD w w1 p ta L) : PC w1 w.heap.size p := PC.of5 h.box
set_option maxRecDepth 100000 in
set_option maxHeartbeats 16000000 in
theorem held_any (p : Prod) (inst side : Int) (ta : Option Addr) (c : Nat) (L : List Tp) (w : World) (hp : PV w p) (hT : TP.Rd w ta L) (hok : ∀ x ∈ L, x.ok) (hL : L.length ≤ 1000) :
    Calls Try.prog 20 #[p.agg, .slice ta L.length c, .int .i64 inst, .int .i64 side] w fun e w' => e = .returned (.bool true) ∧ Below w.heap.size w w' := by
  have s1 : ∀ (w : World) (o : Obj), (w.alloc o).heap.size = w.heap.size + 1 := fun w o => by simp
  have hs0 : HD w (w.alloc (.cells #[.string p.code, .slice p.ma p.months.length p.mc, .int .i64 p.tick, .int .i64 p.low, .int .i64 p.high, .int .i64 p.wide, .int .i64 p.rule, .int .i64 p.top, .int .i64 p.least, .int .i64 p.part, .slice p.sa p.settle.length p.sc] 25)) p ta L := ⟨Below.allocN _ _, Blk.new _ _ _, hp.below (Below.allocN _ _), hT.below (Below.allocN _ _)⟩
  have T0 := Lib.hid hs0
  have hal := allP_len p L inst side
  have hql := quotesP_len p L inst side
  have F1 := Lib.hid fun wz (h : PV wz p) (h2 : TP.Rd wz ta L) => all_any p inst side ta c L wz h h2 hok (by omega)
  have F3 := Lib.hid fun wz (h : PV wz p) (h2 : TP.Rd wz ta L) => quotes_any p inst side ta c L wz h h2 hok (by omega) (by omega)
  have FI := Lib.hid fun wz (h2 : TP.Rd wz ta L) => in_any ta c L wz h2 hL
  have F2 := Lib.hid fun (ra : Option Addr) (rc : Nat) wz (h : PV wz p) (h2 : RTP.Rd wz ra L) => rall_any p inst side ra rc L wz h h2 hok (by omega)
  have F4 := Lib.hid fun (ra : Option Addr) (rc : Nat) wz (h : PV wz p) (h2 : RTP.Rd wz ra L) => rquotes_any p inst side ra rc L wz h h2 hok (by omega) (by omega)
  have HSA := Lib.hid (allP_side p L inst side)
  have HSQ := Lib.hid (quotesP_side p L inst side)
  unfold Prod.agg Prod.cells at F1 F2 F3 F4 ⊢
  clear hp hT hok hs0
  generalize allP p L inst side = A at *
  generalize quotesP p L inst side = Q at *
  obtain ⟨b0, b1, b2, b3, b4, b5, b6, b7, b8, b9, b10⟩ := T0.out.pc
  go_enter Try.func20, Try.ntmps20
  go_wp2_with fail
  refine (F1.out _ T0.out.pv T0.out.tops).mono ?_
  rintro e w1 ⟨v, rfl, hr, hb⟩
  obtain ⟨aa, ac, hvf, _, hrd⟩ := hr.rd
  subst hvf
  have T1 := Lib.hid ((T0.out.next hb).next (Below.drewN_of w1 1))
  have HA := Lib.hid (hrd.below (Below.drewN_of w1 1))
  clear hr hrd hb T0 F1 b0 b1 b2 b3 b4 b5 b6 b7 b8 b9 b10
  go_wp2_with fail
  refine wp_region_E (S := fun w' => w'.cell? ⟨w.heap.size, 0, none⟩ = some (.string p.code) ∧ w'.cell? ⟨w.heap.size, 1, none⟩ = some (.slice p.ma p.months.length p.mc) ∧ w'.cell? ⟨w.heap.size, 2, none⟩ = some (.int .i64 p.tick) ∧ w'.cell? ⟨w.heap.size, 3, none⟩ = some (.int .i64 p.low) ∧ w'.cell? ⟨w.heap.size, 4, none⟩ = some (.int .i64 p.high) ∧ w'.cell? ⟨w.heap.size, 5, none⟩ = some (.int .i64 p.wide) ∧ w'.cell? ⟨w.heap.size, 6, none⟩ = some (.int .i64 p.rule) ∧ w'.cell? ⟨w.heap.size, 7, none⟩ = some (.int .i64 p.top) ∧ w'.cell? ⟨w.heap.size, 8, none⟩ = some (.int .i64 p.least) ∧ w'.cell? ⟨w.heap.size, 9, none⟩ = some (.int .i64 p.part) ∧ w'.cell? ⟨w.heap.size, 10, none⟩ = some (.slice p.sa p.settle.length p.sc)) (by kernel_rfl) T1.out.pc (fun hHeld => ?_)
  refine wpE_take (i := 0) (oi := ?oi3) (v := ?v3) ?hi3 (by kernel_rfl) (by kernel_rfl) (by kernel_rfl) (by kernel_rfl) ?hQ3 ?hy3 (by assumption) ?rest3
  case hi3 => (simp only [List.getElem?_toArray]; rfl)
  case hQ3 => exact fun _ _ _ h => h
  case hy3 => exact Or.inl ⟨by rfl, by (intro w hSw; (try dsimp only at hSw); go_simp; try with_reducible rfl)⟩
  try simp only [Act.put, List.setIfInBounds_toArray, List.set_cons_zero, List.set_cons_succ]
  refine wpE_take (i := 1) (oi := ?oi4) (v := ?v4) ?hi4 (by kernel_rfl) (by kernel_rfl) (by kernel_rfl) (by kernel_rfl) ?hQ4 ?hy4 (by assumption) ?rest4
  case hi4 => (simp only [List.getElem?_toArray]; rfl)
  case hQ4 => exact fun _ _ _ h => h
  case hy4 => exact Or.inl ⟨by rfl, by (intro w hSw; (try dsimp only at hSw); go_simp; try with_reducible rfl)⟩
  try simp only [Act.put, List.setIfInBounds_toArray, List.set_cons_zero, List.set_cons_succ]
  refine wpE_take (i := 3) (oi := ?oi5) (v := ?v5) ?hi5 (by kernel_rfl) (by kernel_rfl) (by kernel_rfl) (by kernel_rfl) ?hQ5 ?hy5 (by assumption) ?rest5
  case hi5 => (simp only [List.getElem?_toArray]; rfl)
  case hQ5 => exact fun _ _ _ h => h
  case hy5 => exact Or.inl ⟨by rfl, by (intro w hSw; (try dsimp only at hSw); go_simp; try with_reducible rfl)⟩
  try simp only [Act.put, List.setIfInBounds_toArray, List.set_cons_zero, List.set_cons_succ]
  refine wpE_take (i := 4) (oi := ?oi6) (v := ?v6) ?hi6 (by kernel_rfl) (by kernel_rfl) (by kernel_rfl) (by kernel_rfl) ?hQ6 ?hy6 (by assumption) ?rest6
  case hi6 => (simp only [List.getElem?_toArray]; rfl)
  case hQ6 => exact fun _ _ _ h => h
  case hy6 => exact Or.inl ⟨by rfl, by (intro w hSw; (try dsimp only at hSw); go_simp; try with_reducible rfl)⟩
  try simp only [Act.put, List.setIfInBounds_toArray, List.set_cons_zero, List.set_cons_succ]
  refine wpE_one (i := 2) (o := ?o11) ?ho11 (by kernel_rfl) (fun K hK => ?_)
  case ho11 => (simp only [List.getElem?_toArray]; rfl)
  go_simp
  go_at_call 30
  refine (FI.out _ T1.out.tops).mono ?_
  rintro e v1 ⟨u, rfl, hr, hb⟩
  obtain ⟨ia, ic, hvf, _, hrd⟩ := hr.rd
  subst hvf
  have T2 := Lib.hid (T1.out.next hb)
  have HA' := Lib.hid (HA.out.below hb)
  clear HA
  have HA := HA'
  have HRD := Lib.hid hrd
  clear hr hrd hb T1 HA'
  refine hK.out _ _ T2.out.pc (fun hHeld => ?_)
  clear hK K
  refine wpE_one (i := 5) (o := ?o12) ?ho12 (by kernel_rfl) (fun K hK => ?_)
  case ho12 => (simp only [List.getElem?_toArray]; rfl)
  go_simp
  go_at_call 29
  refine (F2.out ia ic _ T2.out.pv HRD.out).mono ?_
  rintro e v2 ⟨u, rfl, hr, hb⟩
  obtain ⟨ba, bc, hvf, _, hrd⟩ := hr.rd
  subst hvf
  have T3 := Lib.hid (T2.out.next hb)
  have HA' := Lib.hid (HA.out.below hb)
  clear HA
  have HA := HA'
  have HB := Lib.hid hrd
  clear hr hrd hb T2 HRD F2 HA'
  refine hK.out _ _ T3.out.pc (fun hHeld => ?_)
  clear hK K
  refine wpE_of_held _ _ _ _ ?_
  refine wpAnyH_take (i := 6) (oi := ?oi1) (v := ?v1) ?hi1 (by kernel_rfl) (by kernel_rfl) (by kernel_rfl) ?hQ1 ?hy1 (by assumption) ?rest1
  case hi1 => (simp only [List.getElem?_toArray]; rfl)
  case hQ1 => exact fun _ _ _ h => h
  case hy1 => exact Or.inl ⟨by rfl, by (intro w hSw; (try dsimp only at hSw); go_simp; try with_reducible rfl)⟩
  try simp only [Act.put, List.setIfInBounds_toArray, List.set_cons_zero, List.set_cons_succ]
  refine wpAnyH_done (by kernel_rfl) ?_ _
  clear hHeld
  obtain ⟨b0, b1, b2, b3, b4, b5, b6, b7, b8, b9, b10⟩ := T3.out.pc
  go_wp2_with fail
  refine (F3.out _ T3.out.pv T3.out.tops).mono ?_
  rintro e w4 ⟨v, rfl, hr, hb⟩
  obtain ⟨ca, cc, hvf, _, hrd⟩ := hr.rd
  subst hvf
  have T4 := Lib.hid ((T3.out.next hb).next (Below.drewN_of w4 1))
  have HA' := Lib.hid ((HA.out.below hb).below (Below.drewN_of w4 1))
  have HB' := Lib.hid ((HB.out.below hb).below (Below.drewN_of w4 1))
  clear HA HB
  have HA := HA'
  have HB := HB'
  have HC := Lib.hid (hrd.below (Below.drewN_of w4 1))
  clear hr hrd hb T3 F3 HA' HB' b0 b1 b2 b3 b4 b5 b6 b7 b8 b9 b10
  go_wp2_with fail
  refine wp_region_E (S := fun w' => w'.cell? ⟨w.heap.size, 0, none⟩ = some (.string p.code) ∧ w'.cell? ⟨w.heap.size, 1, none⟩ = some (.slice p.ma p.months.length p.mc) ∧ w'.cell? ⟨w.heap.size, 2, none⟩ = some (.int .i64 p.tick) ∧ w'.cell? ⟨w.heap.size, 3, none⟩ = some (.int .i64 p.low) ∧ w'.cell? ⟨w.heap.size, 4, none⟩ = some (.int .i64 p.high) ∧ w'.cell? ⟨w.heap.size, 5, none⟩ = some (.int .i64 p.wide) ∧ w'.cell? ⟨w.heap.size, 6, none⟩ = some (.int .i64 p.rule) ∧ w'.cell? ⟨w.heap.size, 7, none⟩ = some (.int .i64 p.top) ∧ w'.cell? ⟨w.heap.size, 8, none⟩ = some (.int .i64 p.least) ∧ w'.cell? ⟨w.heap.size, 9, none⟩ = some (.int .i64 p.part) ∧ w'.cell? ⟨w.heap.size, 10, none⟩ = some (.slice p.sa p.settle.length p.sc)) (by kernel_rfl) T4.out.pc (fun hHeld => ?_)
  refine wpE_take (i := 0) (oi := ?oi7) (v := ?v7) ?hi7 (by kernel_rfl) (by kernel_rfl) (by kernel_rfl) (by kernel_rfl) ?hQ7 ?hy7 (by assumption) ?rest7
  case hi7 => (simp only [List.getElem?_toArray]; rfl)
  case hQ7 => exact fun _ _ _ h => h
  case hy7 => exact Or.inl ⟨by rfl, by (intro w hSw; (try dsimp only at hSw); go_simp; try with_reducible rfl)⟩
  try simp only [Act.put, List.setIfInBounds_toArray, List.set_cons_zero, List.set_cons_succ]
  refine wpE_take (i := 1) (oi := ?oi8) (v := ?v8) ?hi8 (by kernel_rfl) (by kernel_rfl) (by kernel_rfl) (by kernel_rfl) ?hQ8 ?hy8 (by assumption) ?rest8
  case hi8 => (simp only [List.getElem?_toArray]; rfl)
  case hQ8 => exact fun _ _ _ h => h
  case hy8 => exact Or.inl ⟨by rfl, by (intro w hSw; (try dsimp only at hSw); go_simp; try with_reducible rfl)⟩
  try simp only [Act.put, List.setIfInBounds_toArray, List.set_cons_zero, List.set_cons_succ]
  refine wpE_take (i := 3) (oi := ?oi9) (v := ?v9) ?hi9 (by kernel_rfl) (by kernel_rfl) (by kernel_rfl) (by kernel_rfl) ?hQ9 ?hy9 (by assumption) ?rest9
  case hi9 => (simp only [List.getElem?_toArray]; rfl)
  case hQ9 => exact fun _ _ _ h => h
  case hy9 => exact Or.inl ⟨by rfl, by (intro w hSw; (try dsimp only at hSw); go_simp; try with_reducible rfl)⟩
  try simp only [Act.put, List.setIfInBounds_toArray, List.set_cons_zero, List.set_cons_succ]
  refine wpE_take (i := 4) (oi := ?oi10) (v := ?v10) ?hi10 (by kernel_rfl) (by kernel_rfl) (by kernel_rfl) (by kernel_rfl) ?hQ10 ?hy10 (by assumption) ?rest10
  case hi10 => (simp only [List.getElem?_toArray]; rfl)
  case hQ10 => exact fun _ _ _ h => h
  case hy10 => exact Or.inl ⟨by rfl, by (intro w hSw; (try dsimp only at hSw); go_simp; try with_reducible rfl)⟩
  try simp only [Act.put, List.setIfInBounds_toArray, List.set_cons_zero, List.set_cons_succ]
  refine wpE_one (i := 2) (o := ?o13) ?ho13 (by kernel_rfl) (fun K hK => ?_)
  case ho13 => (simp only [List.getElem?_toArray]; rfl)
  go_simp
  go_at_call 30
  refine (FI.out _ T4.out.tops).mono ?_
  rintro e v4 ⟨u, rfl, hr, hb⟩
  obtain ⟨ia, ic, hvf, _, hrd⟩ := hr.rd
  subst hvf
  have T5 := Lib.hid (T4.out.next hb)
  have HA' := Lib.hid (HA.out.below hb)
  have HB' := Lib.hid (HB.out.below hb)
  have HC' := Lib.hid (HC.out.below hb)
  clear HA HB HC
  have HA := HA'
  have HB := HB'
  have HC := HC'
  have HRD := Lib.hid hrd
  clear hr hrd hb T4 HA' HB' HC'
  refine hK.out _ _ T5.out.pc (fun hHeld => ?_)
  clear hK K
  refine wpE_one (i := 5) (o := ?o14) ?ho14 (by kernel_rfl) (fun K hK => ?_)
  case ho14 => (simp only [List.getElem?_toArray]; rfl)
  go_simp
  go_at_call 31
  refine (F4.out ia ic _ T5.out.pv HRD.out).mono ?_
  rintro e v5 ⟨u, rfl, hr, hb⟩
  obtain ⟨da, dc, hvf, _, hrd⟩ := hr.rd
  subst hvf
  have T6 := Lib.hid (T5.out.next hb)
  have HA' := Lib.hid (HA.out.below hb)
  have HB' := Lib.hid (HB.out.below hb)
  have HC' := Lib.hid (HC.out.below hb)
  clear HA HB HC
  have HA := HA'
  have HB := HB'
  have HC := HC'
  have HD := Lib.hid hrd
  clear hr hrd hb T5 HRD F4 HA' HB' HC'
  refine hK.out _ _ T6.out.pc (fun hHeld => ?_)
  clear hK K
  refine wpE_of_held _ _ _ _ ?_
  refine wpAnyH_take (i := 6) (oi := ?oi2) (v := ?v2) ?hi2 (by kernel_rfl) (by kernel_rfl) (by kernel_rfl) ?hQ2 ?hy2 (by assumption) ?rest2
  case hi2 => (simp only [List.getElem?_toArray]; rfl)
  case hQ2 => exact fun _ _ _ h => h
  case hy2 => exact Or.inl ⟨by rfl, by (intro w hSw; (try dsimp only at hSw); go_simp; try with_reducible rfl)⟩
  try simp only [Act.put, List.setIfInBounds_toArray, List.set_cons_zero, List.set_cons_succ]
  refine wpAnyH_done (by kernel_rfl) ?_ _
  clear hHeld
  have FB1 := Lib.hid fun wz (h : QT.Rd wz aa A) => best_any A aa ac side wz h (by omega) HSA.out
  have FB2 := Lib.hid fun wz (h : RQT.Rd wz ba A) => rbest_any A ba bc side wz h (by omega)
  have FS1 := Lib.hid fun wz (h : QT.Rd wz ca Q) => show_any Q ca cc side wz h (by omega) HSQ.out
  have FS2 := Lib.hid fun wz (h : RQT.Rd wz da Q) => rshow_any Q da dc side wz h (by omega)
  have FM1 := Lib.hid fun wz (h : QT.Rd wz aa A) (h2 : RQT.Rd wz ba A) => same14_any A aa ba ac bc wz h h2 (by omega)
  have FM2 := Lib.hid fun wz (h : QT.Rd wz ca Q) (h2 : RQT.Rd wz da Q) => same14_any Q ca da cc dc wz h h2 (by omega)
  obtain ⟨x, ok, hx⟩ : ∃ x ok, bestP A side = (x, ok) := ⟨_, _, rfl⟩
  obtain ⟨h0, h1, h2, h3, hs⟩ : ∃ h0 h1 h2 h3, showP Q side = (h0, h1, h2, h3) := ⟨_, _, _, _, rfl⟩
  rw [hx] at FB1 FB2
  rw [hs] at FS1 FS2
  have FQ := Lib.hid fun w => quote_any x w
  unfold Qt.cells at FB1 FB2 FQ
  clear hx hs HSA HSQ
  have HX : Hid (Below w.heap.size w v5) := Lib.hid T6.out.bel
  clear FI
  go_wp2_with fail
  refine (FB1.out _ HA.out).mono ?_
  rintro e w7 ⟨rfl, hb⟩
  have hbz := hb.trans ((Below.allocN w7 (.cells #[.int .i64 x.price, .int .i64 x.qty, .int .i64 x.i0, .int .i64 x.s0, .int .i64 x.i1, .int .i64 x.s1] 38)).mono hb.size)
  have hq1 : Blk (w7.alloc (.cells #[.int .i64 x.price, .int .i64 x.qty, .int .i64 x.i0, .int .i64 x.s0, .int .i64 x.i1, .int .i64 x.s1] 38)) w7.heap.size 38 #[.int .i64 x.price, .int .i64 x.qty, .int .i64 x.i0, .int .i64 x.s0, .int .i64 x.i1, .int .i64 x.s1] := Blk.new _ _ _
  have HX2 := Lib.hid (HX.out.trans (hbz.mono HX.out.size))
  have HQ1 := Lib.hid hq1
  have HA' := Lib.hid (HA.out.below hbz)
  have HB' := Lib.hid (HB.out.below hbz)
  have HC' := Lib.hid (HC.out.below hbz)
  have HD' := Lib.hid (HD.out.below hbz)
  clear HA HB HC HD
  have HA := HA'
  have HB := HB'
  have HC := HC'
  have HD := HD'
  clear HA' HB' HC' HD'
  clear hb hbz hq1 HX T6 FB1
  simp only []
  go_upto_region 6 with (fail)
  generalize w7.alloc (.cells #[.int .i64 x.price, .int .i64 x.qty, .int .i64 x.i0, .int .i64 x.s0, .int .i64 x.i1, .int .i64 x.s1] 38) = w8 at *
  generalize w7.heap.size = g1 at *
  go_wp2_with fail
  refine (FB2.out _ HB.out).mono ?_
  rintro e w9 ⟨rfl, hb⟩
  have hbz := hb.trans ((Below.allocN w9 (.cells #[.int .i64 x.price, .int .i64 x.qty, .int .i64 x.i0, .int .i64 x.s0, .int .i64 x.i1, .int .i64 x.s1] 72)).mono hb.size)
  have hq2 : Blk (w9.alloc (.cells #[.int .i64 x.price, .int .i64 x.qty, .int .i64 x.i0, .int .i64 x.s0, .int .i64 x.i1, .int .i64 x.s1] 72)) w9.heap.size 72 #[.int .i64 x.price, .int .i64 x.qty, .int .i64 x.i0, .int .i64 x.s0, .int .i64 x.i1, .int .i64 x.s1] := Blk.new _ _ _
  have HX3 := Lib.hid (HX2.out.trans (hbz.mono HX2.out.size))
  have HQ2 := Lib.hid hq2
  have HQ1b := Lib.hid (HQ1.out.below hbz)
  have HA' := Lib.hid (HA.out.below hbz)
  have HB' := Lib.hid (HB.out.below hbz)
  have HC' := Lib.hid (HC.out.below hbz)
  have HD' := Lib.hid (HD.out.below hbz)
  clear HA HB HC HD
  have HA := HA'
  have HB := HB'
  have HC := HC'
  have HD := HD'
  clear HA' HB' HC' HD'
  clear hb hbz hq2 HX2 FB2 HQ1
  go_upto_region 7 with (fail)
  generalize w9.alloc (.cells #[.int .i64 x.price, .int .i64 x.qty, .int .i64 x.i0, .int .i64 x.s0, .int .i64 x.i1, .int .i64 x.s1] 72) = w10 at *
  generalize w9.heap.size = g2 at *
  go_wp2_with fail
  refine (FS1.out _ HC.out).mono ?_
  rintro e w11 ⟨rfl, hb⟩
  have HX4 := Lib.hid (HX3.out.trans (hb.mono HX3.out.size))
  have HQ1c := Lib.hid (HQ1b.out.below hb)
  have HQ2b := Lib.hid (HQ2.out.below hb)
  have HA' := Lib.hid (HA.out.below hb)
  have HB' := Lib.hid (HB.out.below hb)
  have HC' := Lib.hid (HC.out.below hb)
  have HD' := Lib.hid (HD.out.below hb)
  clear HA HB HC HD
  have HA := HA'
  have HB := HB'
  have HC := HC'
  have HD := HD'
  clear HA' HB' HC' HD'
  clear hb HX3 FS1 HQ1b HQ2
  go_wp2_with fail
  refine (FS2.out _ HD.out).mono ?_
  rintro e w12 ⟨rfl, hb⟩
  have HX5 := Lib.hid (HX4.out.trans (hb.mono HX4.out.size))
  have HQ1d := Lib.hid (HQ1c.out.below hb)
  have HQ2c := Lib.hid (HQ2b.out.below hb)
  have HA' := Lib.hid (HA.out.below hb)
  have HB' := Lib.hid (HB.out.below hb)
  have HC' := Lib.hid (HC.out.below hb)
  have HD' := Lib.hid (HD.out.below hb)
  clear HA HB HC HD
  have HA := HA'
  have HB := HB'
  have HC := HC'
  have HD := HD'
  clear HA' HB' HC' HD'
  clear hb HX4 FS2 HQ1c HQ2b
  go_wp2_with fail
  refine (FM1.out _ HA.out HB.out).mono ?_
  rintro e w13 ⟨rfl, hb⟩
  have HX6 := Lib.hid (HX5.out.trans (hb.mono HX5.out.size))
  have HQ1e := Lib.hid (HQ1d.out.below hb)
  have HQ2d := Lib.hid (HQ2c.out.below hb)
  have HA' := Lib.hid (HA.out.below hb)
  have HB' := Lib.hid (HB.out.below hb)
  have HC' := Lib.hid (HC.out.below hb)
  have HD' := Lib.hid (HD.out.below hb)
  clear HA HB HC HD
  have HA := HA'
  have HB := HB'
  have HC := HC'
  have HD := HD'
  clear HA' HB' HC' HD'
  clear hb HX5 FM1 HQ1d HQ2c
  go_wp2_with fail
  refine (FM2.out _ HC.out HD.out).mono ?_
  rintro e w14 ⟨rfl, hb⟩
  have HX7 := Lib.hid (HX6.out.trans (hb.mono HX6.out.size))
  have HQ1f := Lib.hid (HQ1e.out.below hb)
  have HQ2e := Lib.hid (HQ2d.out.below hb)
  clear hb HX6 FM2 HQ1e HQ2d HA HB HC HD
  obtain ⟨c0, c1, c2, c3, c4, c5⟩ := QC.of (q := x) HQ1f.out
  obtain ⟨d0, d1, d2, d3, d4, d5⟩ := QC.of (q := x) HQ2e.out
  go_wp2_with fail
  refine (FQ.out _).mono ?_
  rintro e w15 ⟨rfl, hb⟩
  have HX8 := Lib.hid (HX7.out.trans (hb.mono HX7.out.size))
  clear hb c0 c1 c2 c3 c4 c5 d0 d1 d2 d3 d4 d5
  go_wp2_with fail
  go_ret
  exact ⟨by trivial, HX8.out⟩
end Go.Proofs.Ytilficlanliinaa
