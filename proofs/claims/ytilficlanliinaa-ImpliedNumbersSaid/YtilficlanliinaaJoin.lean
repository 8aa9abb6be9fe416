/- The walk of cornhillref14.join. -/
import Derived.Test.YtilficlanliinaaAllP
import Derived.Test.YtilficlanliinaaRow2
import Derived.Deep.DeepCutAuto
import Derived.Deep.CutBlock
namespace Go.Proofs.Ytilficlanliinaa
open Go.RowKit

def joinQ (L : List Tp) (ai sa bi sb how : Int) : Option Qt := if how = -1 then (mkQ L bi sb ai sa true).map swapQ else mkQ L ai sa bi sb (how == 0)
def joinR (a b how : Int) : Int × Bool := if how = -1 then subP a b else if how = 0 then subP b a else addP a b
theorem joinQ_eq {L : List Tp} {ai bi : Nat} {sa sb how : Int} {x y : Tp} (hx : L[ai]? = some x) (hy : L[bi]? = some y) : joinQ L ai sa bi sb how =
    if x.has sa = true ∧ y.has sb = true then (if (joinR (x.price sa) (y.price sb) how).2 = true then some ⟨(joinR (x.price sa) (y.price sb) how).1, min (x.qty sa) (y.qty sb), ai, sa, bi, sb⟩ else none) else none := by
  unfold joinQ joinR
  by_cases h1 : how = -1
  · rw [if_pos h1, if_pos h1]
    have e := mkQ_eq (less := true) (sa := sb) (sb := sa) hy hx
    simp only [↓reduceIte] at e
    rw [e]
    by_cases h2 : x.has sa = true ∧ y.has sb = true
    · rw [if_pos h2, if_pos (show y.has sb = true ∧ x.has sa = true from ⟨h2.2, h2.1⟩)]
      generalize subP (x.price sa) (y.price sb) = r
      by_cases h3 : r.2 = true
      · rw [if_pos h3, if_pos h3]
        show some (swapQ _) = _
        unfold swapQ
        rw [Int.min_comm]
      · rw [if_neg h3, if_neg h3]; rfl
    · rw [if_neg h2, if_neg (fun h : y.has sb = true ∧ x.has sa = true => h2 ⟨h.2, h.1⟩)]; rfl
  · rw [if_neg h1, if_neg h1, mkQ_eq hx hy]
    by_cases h2 : how = 0
    · subst h2
      simp
    · rw [if_neg h2]
      have : (how == 0) = false := by rw [beq_eq_false_iff_ne]; exact h2
      rw [this]
      simp
theorem Lay.Row.base {α : Type} {Y : Lay α} {w : World} {B B' : Nat} {v : Value} {Q : List α} (h : Y.Row w B v Q) (hb : B' ≤ B) : Y.Row w B' v Q :=
  ⟨h.1, h.2.imp id (fun ⟨g, c, cu, h1, h2, h3⟩ => ⟨g, c, cu, h1, Nat.le_trans hb h2, h3⟩)⟩
set_option maxRecDepth 100000 in
set_option maxHeartbeats 16000000 in
theorem join_any (p : Prod) (inst : Int) (ta : Option Addr) (c : Nat) (L : List Tp) (B : Nat) (v : Value) (O : List Qt) (w : World) (hT : RTP.Rd w ta L) (hv : RQT.Row w B v O) (hB : B ≤ w.heap.size) (ho : O.length ≤ 1000)
    (ai bi ka kb : Nat) (how : Int) (x y : Tp) (hx : L[ai]? = some x) (hy : L[bi]? = some y) (hka : ka < 2) (hkb : kb < 2) (hxo : x.ok) (hyo : y.ok) (hh : how = 1 ∨ how = 0 ∨ how = -1) :
    Calls Try.prog 43 #[p.agg, .slice ta L.length c, .int .i64 inst, v, .agg #[.int .i64 ai, .int .i64 ((ka : Int) + 1)], .agg #[.int .i64 bi, .int .i64 ((kb : Int) + 1)], .int .i64 how] w fun e w' => ∃ v', e = .returned v' ∧ RQT.Row w' B v' (O ++ (joinQ L ai (ka + 1) bi (kb + 1) how).toList) ∧ Below w.heap.size w w' := by
  have s1 : ∀ (w : World) (o : Obj), (w.alloc o).heap.size = w.heap.size + 1 := fun w o => by simp
  have HQ := Lib.hid (joinQ_eq (how := how) (sa := (ka : Int) + 1) (sb := (kb : Int) + 1) hx hy)
  obtain ⟨va, vc, hvf⟩ := hv.form
  subst hvf
  have HV := Lib.hid hv
  obtain ⟨b, off, rfl, hbl, hxa⟩ : ∃ b off, ta = some ⟨b, off, none⟩ ∧ b < w.heap.size ∧ CellsAt w b (off + ai * 6) x.cells := by
    obtain ⟨b, off, h1, h2, h3⟩ := hT ai x hx
    exact ⟨b, off, h1, h2, h3⟩
  have hya : CellsAt w b (off + bi * 6) y.cells := by
    obtain ⟨b', off', h1, h2, h3⟩ := hT bi y hy
    injection h1 with h1
    injection h1 with h1 h4
    subst h1
    subst h4
    exact h3
  have hal : (ai : Int) < (L.length : Int) := by have := lt_of_get hx; omega
  have hbl2 : (bi : Int) < (L.length : Int) := by have := lt_of_get hy; omega
  have HXA := Lib.hid fun (wz : World) (hb : Below w.heap.size w wz) => (hxa.below hb hbl).tp
  have HYA := Lib.hid fun (wz : World) (hb : Below w.heap.size w wz) => (hya.below hb hbl).tp
  unfold Prod.agg Prod.cells
  clear hx hy hxa hya hv hT
  go_enter Try.func43, Try.ntmps43
  go_upto_region 1 with (fail)
  have hw0 : Below w.heap.size w (((w.alloc (.cells #[.string p.code, .slice p.ma p.months.length p.mc, .int .i64 p.tick, .int .i64 p.low, .int .i64 p.high, .int .i64 p.wide, .int .i64 p.rule, .int .i64 p.top, .int .i64 p.least, .int .i64 p.part, .slice p.sa p.settle.length p.sc] 25)).alloc (.cells #[.int .i64 ai, .int .i64 ((ka : Int) + 1)] 69)).alloc (.cells #[.int .i64 bi, .int .i64 ((kb : Int) + 1)] 69)) := ((Below.allocN _ _).alloc (by rw [s1]; omega) _).alloc (by rw [s1, s1]; omega) _
  have h2 := two_new (w.alloc (.cells #[.string p.code, .slice p.ma p.months.length p.mc, .int .i64 p.tick, .int .i64 p.low, .int .i64 p.high, .int .i64 p.wide, .int .i64 p.rule, .int .i64 p.top, .int .i64 p.least, .int .i64 p.part, .slice p.sa p.settle.length p.sc] 25)) 69 69 #[.int .i64 ai, .int .i64 ((ka : Int) + 1)] #[.int .i64 bi, .int .i64 ((kb : Int) + 1)]
  rw [s1] at h2
  have hA0 := h2.1
  have hB0 := h2.2.1
  clear h2
  generalize ((w.alloc (.cells #[.string p.code, .slice p.ma p.months.length p.mc, .int .i64 p.tick, .int .i64 p.low, .int .i64 p.high, .int .i64 p.wide, .int .i64 p.rule, .int .i64 p.top, .int .i64 p.least, .int .i64 p.part, .slice p.sa p.settle.length p.sc] 25)).alloc (.cells #[.int .i64 ai, .int .i64 ((ka : Int) + 1)] 69)).alloc (.cells #[.int .i64 bi, .int .i64 ((kb : Int) + 1)] 69) = w0 at *
  have a0 : w0.cell? ⟨w.heap.size + 1, 0, none⟩ = some (.int .i64 ai) := hA0.cell 0
  obtain ⟨c0, c1, c2, c3, c4, c5⟩ := HXA.out _ hw0
  have HA := Lib.hid hA0
  have HB := Lib.hid hB0
  have HW0 := Lib.hid hw0
  clear hA0 hB0 hw0
  go_upto_region 2 with (fail)
  clear a0 c0 c1 c2 c3 c4 c5
  have hb1 : Below w0.heap.size w0 (w0.alloc (.cells x.cells.toArray 84)) := Below.allocN _ _
  have a0 : (w0.alloc (.cells #[.bool x.h0, .bool x.h1, .int .i64 x.p0, .int .i64 x.p1, .int .i64 x.q0, .int .i64 x.q1] 84)).cell? ⟨w.heap.size + 1 + 1, 0, none⟩ = some (.int .i64 bi) := (HB.out.below hb1).cell 0
  obtain ⟨c0, c1, c2, c3, c4, c5⟩ : TpAt (w0.alloc (.cells #[.bool x.h0, .bool x.h1, .int .i64 x.p0, .int .i64 x.p1, .int .i64 x.q0, .int .i64 x.q1] 84)) b (off + bi * 6) y := HYA.out _ (HW0.out.trans (hb1.mono HW0.out.size))
  clear hb1
  go_upto_region 3 with (fail)
  clear a0 c0 c1 c2 c3 c4 c5
  have h2 := two_new w0 84 84 x.cells.toArray y.cells.toArray
  simp only [Tp.cells] at h2
  generalize (w0.alloc (.cells #[.bool x.h0, .bool x.h1, .int .i64 x.p0, .int .i64 x.p1, .int .i64 x.q0, .int .i64 x.q1] 84)).alloc (.cells #[.bool y.h0, .bool y.h1, .int .i64 y.p0, .int .i64 y.p1, .int .i64 y.q0, .int .i64 y.q1] 84) = w2 at *
  have HGX : Hid (Blk w2 w0.heap.size 84 x.cells.toArray) := Lib.hid h2.1
  have HGY : Hid (Blk w2 (w0.heap.size + 1) 84 y.cells.toArray) := Lib.hid h2.2.1
  have HA2 := Lib.hid (HA.out.below h2.2.2)
  have HB2 := Lib.hid (HB.out.below h2.2.2)
  have HW2 := Lib.hid (HW0.out.trans (h2.2.2.mono HW0.out.size))
  clear h2 HA HB HW0 HXA HYA
  generalize w0.heap.size = gx at *
  obtain ⟨gy, hgy⟩ : ∃ gy, gx + 1 = gy := ⟨_, rfl⟩
  rw [hgy] at HGY ⊢
  clear hgy
  obtain ⟨ga, hga⟩ : ∃ ga, w.heap.size + 1 = ga := ⟨_, rfl⟩
  rw [hga] at HA2 HB2 ⊢
  clear hga
  obtain ⟨gb, hgb⟩ : ∃ gb, ga + 1 = gb := ⟨_, rfl⟩
  rw [hgb] at HB2 ⊢
  clear hgb
  have hx1 : w2.cell? ⟨gx, ka, none⟩ = some (.bool (x.has (ka + 1))) := (HGX.out.cell ka).trans (x.hasAt hka)
  have hy1 : w2.cell? ⟨gy, kb, none⟩ = some (.bool (y.has (kb + 1))) := (HGY.out.cell kb).trans (y.hasAt hkb)
  have ha1 : w2.cell? ⟨ga, 1, none⟩ = some (.int .i64 ((ka : Int) + 1)) := HA2.out.cell 1
  have hb1 : w2.cell? ⟨gb, 1, none⟩ = some (.int .i64 ((kb : Int) + 1)) := HB2.out.cell 1
  have y1 : IntKind.i64.wrap ((ka : Int) + 1 - 1) = (ka : Int) := by rw [Int.add_sub_cancel]; exact IntWalk.i64_in _ (by omega)
  have y2 : IntKind.i64.wrap ((kb : Int) + 1 - 1) = (kb : Int) := by rw [Int.add_sub_cancel]; exact IntWalk.i64_in _ (by omega)
  have y3 : IntKind.i64.wrap (ka : Int) = (ka : Int) := IntWalk.i64_in _ (by omega)
  have y4 : IntKind.i64.wrap (kb : Int) = (kb : Int) := IntWalk.i64_in _ (by omega)
  have hka' : (ka : Int) < 2 := by omega
  have hkb' : (kb : Int) < 2 := by omega
  have HSAME : Hid (∀ wz, Below w2.heap.size w2 wz → joinQ L ai (ka + 1) bi (kb + 1) how = none → ∃ v', Ending.returned (.slice va O.length vc) = .returned v' ∧ RQT.Row wz B v' (O ++ (joinQ L ai (ka + 1) bi (kb + 1) how).toList) ∧ Below w.heap.size w wz) := Lib.hid fun wz hb hq => by
    have hbb := HW2.out.trans (hb.mono HW2.out.size)
    refine ⟨_, rfl, ?_, hbb⟩
    rw [hq]
    simp only [Option.toList_none, List.append_nil]
    exact HV.out.below hbb
  by_cases h1 : x.has (ka + 1) = true ∧ y.has (kb + 1) = true
  case neg =>
    have HQN : Hid (joinQ L ai (ka + 1) bi (kb + 1) how = none) := Lib.hid (by rw [HQ.out, if_neg h1])
    have hcs : x.has (ka + 1) = false ∨ (x.has (ka + 1) = true ∧ y.has (kb + 1) = false) := by
      cases hp : x.has (ka + 1) with
      | false => exact .inl rfl
      | true => exact .inr ⟨rfl, by
          cases hq : y.has (kb + 1) with
          | false => rfl
          | true => exact absurd ⟨hp, hq⟩ h1⟩
    clear h1
    rcases hcs with e1 | ⟨e1, e2⟩
    · rw [e1] at hx1
      clear e1
      go_wp2_with fail
      go_ret
      exact HSAME.out _ (Below.refl _ _) HQN.out
    · rw [e1] at hx1
      rw [e2] at hy1
      clear e1 e2
      go_wp2_with fail
      go_ret
      exact HSAME.out _ (Below.refl _ _) HQN.out
  case pos =>
  obtain ⟨e1, e2⟩ := h1
  have HQ1 : Hid (joinQ L ai (ka + 1) bi (kb + 1) how = _) := Lib.hid (by rw [HQ.out, if_pos ⟨e1, e2⟩])
  rw [e1] at hx1
  rw [e2] at hy1
  clear e1 e2 HQ
  have hx2 : w2.cell? ⟨gx, 2 + ka, none⟩ = some (.int .i64 (x.price (ka + 1))) := (HGX.out.cell (2 + ka)).trans (x.priceAt hka)
  have hy2 : w2.cell? ⟨gy, 2 + kb, none⟩ = some (.int .i64 (y.price (kb + 1))) := (HGY.out.cell (2 + kb)).trans (y.priceAt hkb)
  obtain ⟨px, hpx⟩ : ∃ p, x.price (ka + 1) = p := ⟨_, rfl⟩
  obtain ⟨py, hpy⟩ : ∃ p, y.price (kb + 1) = p := ⟨_, rfl⟩
  have hpxo : i64ok px := by rw [← hpx]; exact hxo.price _
  have hpyo : i64ok py := by rw [← hpy]; exact hyo.price _
  rw [hpx] at hx2 HQ1
  rw [hpy] at hy2 HQ1
  have HADD := Lib.hid fun w => radd_any px py w hpxo hpyo
  have HS1 := Lib.hid fun w => rsub_any py px w hpyo hpxo
  have HS2 := Lib.hid fun w => rsub_any px py w hpxo hpyo
  clear hpx hpy hxo hyo hpxo hpyo
  obtain ⟨r0, r1, hr⟩ : ∃ r0 r1, joinR px py how = (r0, r1) := ⟨_, _, rfl⟩
  rw [hr] at HQ1
  have HR := Lib.hid hr
  clear hr
  go_upto_region 5 with (fail)
  clear hx1 hy1
  go_quiet (fail)
  clear hx2 hy2 ha1 hb1
  have HB3 : Hid (Below w2.heap.size w2 (w2.drewN nq)) := Lib.hid (Below.drewN_of w2 nq)
  generalize w2.drewN nq = w3 at *
  go_upto_block 0 with (go_at_call 54; refine (HADD.out _).mono ?_; rintro e w4 ⟨rfl, rfl⟩)
  clear HADD
  go_cut [19, 20] (fun u1 u2 wx => u1 = .int .i64 r0 ∧ u2 = .bool r1 ∧ w3 = wx)
  case first =>
    rcases hh with rfl | rfl | rfl
    · have hr : addP px py = (r0, r1) := HR.out
      rw [hr]
      clear hr
      go_wp2_with fail
      go_meet
      exact ⟨rfl, rfl, rfl⟩
    · have hr : subP py px = (r0, r1) := HR.out
      rw [hr] at HS1
      clear hr
      generalize addP px py = ra at *
      go_wp2_with (go_at_call 55; refine (HS1.out _).mono ?_; rintro e w4 ⟨rfl, rfl⟩)
      go_meet
      exact ⟨rfl, rfl, rfl⟩
    · have hr : subP px py = (r0, r1) := HR.out
      rw [hr] at HS2
      clear hr
      generalize addP px py = ra at *
      go_wp2_with (go_at_call 55; refine (HS2.out _).mono ?_; rintro e w4 ⟨rfl, rfl⟩)
      go_meet
      exact ⟨rfl, rfl, rfl⟩
  case rest =>
  obtain ⟨rfl, rfl, rfl⟩ := hcut
  clear HS1 HS2 HR
  cases r1 with
  | false =>
    have HQN : Hid (joinQ L ai (ka + 1) bi (kb + 1) how = none) := Lib.hid (by rw [HQ1.out, if_neg (by simp)])
    go_wp2_with fail
    go_ret
    exact HSAME.out _ HB3.out HQN.out
  | true =>
    have HQS : Hid (joinQ L ai (ka + 1) bi (kb + 1) how = some ⟨r0, min (x.qty (ka + 1)) (y.qty (kb + 1)), ai, ka + 1, bi, kb + 1⟩) := Lib.hid (by rw [HQ1.out, if_pos rfl])
    clear HQ1 HSAME
    have HW3 := Lib.hid (HW2.out.trans (HB3.out.mono HW2.out.size))
    have HGX3 := Lib.hid (HGX.out.below HB3.out)
    have HGY3 := Lib.hid (HGY.out.below HB3.out)
    have HA3 := Lib.hid (HA2.out.below HB3.out)
    have HB4 := Lib.hid (HB2.out.below HB3.out)
    clear HW2 HGX HGY HA2 HB2 HB3
    obtain ⟨qx, hqx⟩ : ∃ p, x.qty (ka + 1) = p := ⟨_, rfl⟩
    obtain ⟨qy, hqy⟩ : ∃ p, y.qty (kb + 1) = p := ⟨_, rfl⟩
    have hxq : w3.cell? ⟨gx, 4 + ka, none⟩ = some (.int .i64 qx) := by rw [← hqx]; exact (HGX3.out.cell (4 + ka)).trans (x.qtyAt hka)
    have HYQ : Hid (∀ wz, Blk wz gy 84 y.cells.toArray → wz.cell? ⟨gy, 4 + kb, none⟩ = some (.int .i64 qy)) := Lib.hid fun wz h => by rw [← hqy]; exact (h.cell (4 + kb)).trans (y.qtyAt hkb)
    rw [hqx, hqy] at HQS
    clear hqx hqy
    have ha0 : w3.cell? ⟨ga, 0, none⟩ = some (.int .i64 ai) := HA3.out.cell 0
    have ha1 : w3.cell? ⟨ga, 1, none⟩ = some (.int .i64 ((ka : Int) + 1)) := HA3.out.cell 1
    have hb0 : w3.cell? ⟨gb, 0, none⟩ = some (.int .i64 bi) := HB4.out.cell 0
    have hb1 : w3.cell? ⟨gb, 1, none⟩ = some (.int .i64 ((kb : Int) + 1)) := HB4.out.cell 1
    go_wp2_with fail
    refine wp_region_E (S := fun w' => w'.cell? ⟨ga, 0, none⟩ = some (.int .i64 ai) ∧ w'.cell? ⟨ga, 1, none⟩ = some (.int .i64 ((ka : Int) + 1)) ∧ w'.cell? ⟨gb, 0, none⟩ = some (.int .i64 bi) ∧ w'.cell? ⟨gb, 1, none⟩ = some (.int .i64 ((kb : Int) + 1)) ∧ w'.cell? ⟨gx, 4 + ka, none⟩ = some (.int .i64 qx)) (by kernel_rfl) ⟨ha0, ha1, hb0, hb1, hxq⟩ (fun hHeld => ?_)
    refine wpE_take (i := 0) (oi := ?oi6) (v := ?v6) ?hi6 (by kernel_rfl) (by kernel_rfl) (by kernel_rfl) (by kernel_rfl) ?hQ6 ?hy6 (by assumption) ?rest6
    case hi6 => (simp only [List.getElem?_toArray]; rfl)
    case hQ6 => exact fun _ _ _ h => h
    case hy6 => exact Or.inl ⟨by rfl, by (intro w hSw; (try dsimp only at hSw); go_simp; try with_reducible rfl)⟩
    try simp only [Act.put, List.setIfInBounds_toArray, List.set_cons_zero, List.set_cons_succ]
    refine wpE_take (i := 1) (oi := ?oi7) (v := ?v7) ?hi7 (by kernel_rfl) (by kernel_rfl) (by kernel_rfl) (by kernel_rfl) ?hQ7 ?hy7 (by assumption) ?rest7
    case hi7 => (simp only [List.getElem?_toArray]; rfl)
    case hQ7 => exact fun _ _ _ h => h
    case hy7 => exact Or.inl ⟨by rfl, by (intro w hSw; (try dsimp only at hSw); go_simp; try with_reducible rfl)⟩
    try simp only [Act.put, List.setIfInBounds_toArray, List.set_cons_zero, List.set_cons_succ]
    refine wpE_take (i := 2) (oi := ?oi8) (v := ?v8) ?hi8 (by kernel_rfl) (by kernel_rfl) (by kernel_rfl) (by kernel_rfl) ?hQ8 ?hy8 (by assumption) ?rest8
    case hi8 => (simp only [List.getElem?_toArray]; rfl)
    case hQ8 => exact fun _ _ _ h => h
    case hy8 => exact Or.inl ⟨by rfl, by (intro w hSw; (try dsimp only at hSw); go_simp; try with_reducible rfl)⟩
    try simp only [Act.put, List.setIfInBounds_toArray, List.set_cons_zero, List.set_cons_succ]
    refine wpE_take (i := 3) (oi := ?oi9) (v := ?v9) ?hi9 (by kernel_rfl) (by kernel_rfl) (by kernel_rfl) (by kernel_rfl) ?hQ9 ?hy9 (by assumption) ?rest9
    case hi9 => (simp only [List.getElem?_toArray]; rfl)
    case hQ9 => exact fun _ _ _ h => h
    case hy9 => exact Or.inl ⟨by rfl, by (intro w hSw; (try dsimp only at hSw); go_simp; try with_reducible rfl)⟩
    try simp only [Act.put, List.setIfInBounds_toArray, List.set_cons_zero, List.set_cons_succ]
    refine wpE_take (i := 4) (oi := ?oi10) (v := ?v10) ?hi10 (by kernel_rfl) (by kernel_rfl) (by kernel_rfl) (by kernel_rfl) ?hQ10 ?hy10 (by assumption) ?rest10
    case hi10 => (simp only [List.getElem?_toArray]; rfl)
    case hQ10 => exact fun _ _ _ h => h
    case hy10 => exact Or.inl ⟨by rfl, by (intro w hSw; (try dsimp only at hSw); go_simp; try with_reducible rfl)⟩
    try simp only [Act.put, List.setIfInBounds_toArray, List.set_cons_zero, List.set_cons_succ]
    refine wpE_take (i := 5) (oi := ?oi11) (v := ?v11) ?hi11 (by kernel_rfl) (by kernel_rfl) (by kernel_rfl) (by kernel_rfl) ?hQ11 ?hy11 (by assumption) ?rest11
    case hi11 => (simp only [List.getElem?_toArray]; rfl)
    case hQ11 => exact fun _ _ _ h => h
    case hy11 => exact Or.inl ⟨by rfl, by (intro w hSw; (try dsimp only at hSw); go_simp; try with_reducible rfl)⟩
    try simp only [Act.put, List.setIfInBounds_toArray, List.set_cons_zero, List.set_cons_succ]
    refine wpE_take (i := 6) (oi := ?oi12) (v := ?v12) ?hi12 (by kernel_rfl) (by kernel_rfl) (by kernel_rfl) (by kernel_rfl) ?hQ12 ?hy12 (by assumption) ?rest12
    case hi12 => (simp only [List.getElem?_toArray]; rfl)
    case hQ12 => exact fun _ _ _ h => h
    case hy12 => exact Or.inl ⟨by rfl, by (intro w hSw; (try dsimp only at hSw); go_simp; try with_reducible rfl)⟩
    try simp only [Act.put, List.setIfInBounds_toArray, List.set_cons_zero, List.set_cons_succ]
    refine wpE_take (i := 7) (oi := ?oi13) (v := ?v13) ?hi13 (by kernel_rfl) (by kernel_rfl) (by kernel_rfl) (by kernel_rfl) ?hQ13 ?hy13 (by assumption) ?rest13
    case hi13 => (simp only [List.getElem?_toArray]; rfl)
    case hQ13 => exact fun _ _ _ h => h
    case hy13 => exact Or.inl ⟨by rfl, by (intro w hSw; (try dsimp only at hSw); go_simp; try with_reducible rfl)⟩
    try simp only [Act.put, List.setIfInBounds_toArray, List.set_cons_zero, List.set_cons_succ]
    refine wpE_take (i := 8) (oi := ?oi14) (v := ?v14) ?hi14 (by kernel_rfl) (by kernel_rfl) (by kernel_rfl) (by kernel_rfl) ?hQ14 ?hy14 (by assumption) ?rest14
    case hi14 => (simp only [List.getElem?_toArray]; rfl)
    case hQ14 => exact fun _ _ _ h => h
    case hy14 => exact Or.inl ⟨by rfl, by (intro w hSw; (try dsimp only at hSw); go_simp; try with_reducible rfl)⟩
    try simp only [Act.put, List.setIfInBounds_toArray, List.set_cons_zero, List.set_cons_succ]
    refine wpE_take (i := 9) (oi := ?oi15) (v := ?v15) ?hi15 (by kernel_rfl) (by kernel_rfl) (by kernel_rfl) (by kernel_rfl) ?hQ15 ?hy15 (by assumption) ?rest15
    case hi15 => (simp only [List.getElem?_toArray]; rfl)
    case hQ15 => exact fun _ _ _ h => h
    case hy15 => exact Or.inl ⟨by rfl, by (intro w hSw; (try dsimp only at hSw); go_simp; try with_reducible rfl)⟩
    try simp only [Act.put, List.setIfInBounds_toArray, List.set_cons_zero, List.set_cons_succ]
    refine wpE_take (i := 10) (oi := ?oi16) (v := ?v16) ?hi16 (by kernel_rfl) (by kernel_rfl) (by kernel_rfl) (by kernel_rfl) ?hQ16 ?hy16 (by assumption) ?rest16
    case hi16 => (simp only [List.getElem?_toArray]; rfl)
    case hQ16 => exact fun _ _ _ h => h
    case hy16 => exact Or.inl ⟨by rfl, by (intro w hSw; (try dsimp only at hSw); go_simp; try with_reducible rfl)⟩
    try simp only [Act.put, List.setIfInBounds_toArray, List.set_cons_zero, List.set_cons_succ]
    refine wpE_one (i := 11) (o := ?o19) ?ho19 (by kernel_rfl) (fun K hK => ?_)
    case ho19 => (simp only [List.getElem?_toArray]; rfl)
    go_simp
    have hbd : Below w3.heap.size w3 (w3.alloc (.cells #[.int .i64 0, .int .i64 0, .int .i64 0, .int .i64 0, .int .i64 0, .int .i64 0] 72)).drew := (Below.allocN w3 _).drew
    have hA5 := HA3.out.below hbd
    have hB5 := HB4.out.below hbd
    have hX5 := (hbd.cell (p := ⟨gx, 4 + ka, none⟩) HGX3.out.lt).trans hxq
    refine hK.out _ _ ⟨hA5.cell 0, hA5.cell 1, hB5.cell 0, hB5.cell 1, hX5⟩ (fun hHeld => ?_)
    clear hK K
    refine wpE_last (i := 12) (o := ?o27) ?ho27 (by kernel_rfl) (by kernel_rfl) (by kernel_rfl) (fun K hK => ?_)
    case ho27 => (simp only [List.getElem?_toArray]; rfl)
    go_simp
    refine hK.out _ _ ?_
    clear hK K hA5 hB5 hX5 hbd ha0 ha1 hb0 hb1 hxq
    have hb4 : Below w3.heap.size w3 (w3.alloc (.cells #[.int .i64 r0, .int .i64 qx, .int .i64 ai, .int .i64 ((ka : Int) + 1), .int .i64 bi, .int .i64 ((kb : Int) + 1)] 72)).drew := (Below.allocN w3 _).drew
    have HQ4 : Hid (Blk (w3.alloc (.cells #[.int .i64 r0, .int .i64 qx, .int .i64 ai, .int .i64 ((ka : Int) + 1), .int .i64 bi, .int .i64 ((kb : Int) + 1)] 72)).drew w3.heap.size 72 #[.int .i64 r0, .int .i64 qx, .int .i64 ai, .int .i64 ((ka : Int) + 1), .int .i64 bi, .int .i64 ((kb : Int) + 1)]) := Lib.hid (Blk.new w3 _ _)
    have HB5 := Lib.hid (HB4.out.below hb4)
    have HGY5 := Lib.hid (HGY3.out.below hb4)
    have HW5 := Lib.hid (HW3.out.trans (hb4.mono HW3.out.size))
    have HGQ : Hid (w.heap.size ≤ w3.heap.size) := Lib.hid HW3.out.size
    clear hb4 HB4 HGY3 HW3 HGX3 HA3
    generalize (w3.alloc (.cells #[.int .i64 r0, .int .i64 qx, .int .i64 ai, .int .i64 ((ka : Int) + 1), .int .i64 bi, .int .i64 ((kb : Int) + 1)] 72)).drew = w4 at *
    generalize w3.heap.size = gq at *
    have hb1 : w4.cell? ⟨gb, 1, none⟩ = some (.int .i64 ((kb : Int) + 1)) := HB5.out.cell 1
    have hyq := HYQ.out _ HGY5.out
    have q1 : w4.cell? ⟨gq, 1, none⟩ = some (.int .i64 qx) := HQ4.out.cell 1
    go_upto_region 15 with (fail)
    go_quiet (fail)
    clear hb1 hyq q1
    have hbq : Below w4.heap.size w4 (w4.drewN nq) := Below.drewN_of w4 nq
    generalize w4.drewN nq = w5 at *
    have HQ5 := Lib.hid (HQ4.out.below hbq)
    have HB6 := Lib.hid (HB5.out.below hbq)
    have HGY6 := Lib.hid (HGY5.out.below hbq)
    have HW6 := Lib.hid (HW5.out.trans (hbq.mono HW5.out.size))
    clear hbq HQ4 HB5 HGY5 HW5
    obtain ⟨qz, hqz⟩ : ∃ qz, min qx qy = qz := ⟨_, rfl⟩
    have HQZ := Lib.hid hqz
    rw [hqz] at HQS
    clear hqz
    go_upto_if 106 with (fail)
    go_cut [106] (fun _ wx => Blk wx gq 72 #[.int .i64 r0, .int .i64 qz, .int .i64 ai, .int .i64 ((ka : Int) + 1), .int .i64 bi, .int .i64 ((kb : Int) + 1)] ∧ Below w.heap.size w wx)
    case first =>
      have hb1 : w5.cell? ⟨gb, 1, none⟩ = some (.int .i64 ((kb : Int) + 1)) := HB6.out.cell 1
      have hyq := HYQ.out _ HGY6.out
      have q1 : w5.cell? ⟨gq, 1, none⟩ = some (.int .i64 qx) := HQ5.out.cell 1
      have f1 : w5.frozen? ⟨gq, 1, none⟩ = false := HQ5.out.frozen 1
      by_cases hlt : qy < qx
      · have hz : qy = qz := by have := HQZ.out; omega
        subst hz
        go_wp2_with fail
        go_meet
        have hk : Keeps (fun g => g = gq) w5 (w5.setCell ⟨gq, 1, none⟩ (.int .i64 qy)) := (Keeps.refl (fun g => g = gq) w5).setCell (p := ⟨gq, 1, none⟩) (fun _ => rfl) _
        exact ⟨HQ5.out.set_ 1 (.int .i64 qy), HW6.out.trans (hk.below (fun g hg => by have hg' : g = gq := hg; have := HGQ.out; omega) HW6.out.size)⟩
      · have hz : qx = qz := by have := HQZ.out; omega
        subst hz
        go_wp2_with fail
        go_meet
        exact ⟨HQ5.out, HW6.out⟩
    case rest =>
    obtain ⟨hq6, hw6⟩ := hcut
    have HQ7 := Lib.hid hq6
    have HW7 := Lib.hid hw6
    clear hq6 hw6 HQ5 HB6 HGY6 HW6 HQZ HYQ HGQ
    have hac : va = none → vc = 0 := by
      obtain ⟨a', c', h1, h2, _⟩ := HV.out.rd
      injection h1 with h3 _ h4
      intro h; rw [h4]; exact h2 (by rw [← h3]; exact h)
    have HAC := Lib.hid hac
    have HRD : Hid (∀ wz, Below w.heap.size w wz → RQT.Rd wz va O) := Lib.hid fun wz hb => by
      obtain ⟨a', c', h1, _, h2⟩ := HV.out.rd
      injection h1 with h3
      rw [h3]; exact h2.below hb
    have HAD : Hid (∀ ad, va = some ad → ∃ b off, ad = ⟨b, off, none⟩) := Lib.hid fun ad h => by
      rcases HV.out.2 with ⟨h2, _⟩ | ⟨g, cap, cur, h2, _⟩
      · injection h2 with h2; rw [h2] at h; cases h
      · injection h2 with h2; rw [h2] at h; injection h with h; exact ⟨g, 0, h.symm⟩
    clear hac
    have HS : Hid (∀ w', Blk w' gq 72 #[.int .i64 r0, .int .i64 qz, .int .i64 ai, .int .i64 ((ka : Int) + 1), .int .i64 bi, .int .i64 ((kb : Int) + 1)] → w'.cell? ⟨gq, 0, none⟩ = some (.int .i64 r0) ∧ w'.cell? ⟨gq, 1, none⟩ = some (.int .i64 qz) ∧ w'.cell? ⟨gq, 2, none⟩ = some (.int .i64 ai) ∧ w'.cell? ⟨gq, 3, none⟩ = some (.int .i64 ((ka : Int) + 1)) ∧ w'.cell? ⟨gq, 4, none⟩ = some (.int .i64 bi) ∧ w'.cell? ⟨gq, 5, none⟩ = some (.int .i64 ((kb : Int) + 1))) := Lib.hid fun w' h => ⟨h.cell 0, h.cell 1, h.cell 2, h.cell 3, h.cell 4, h.cell 5⟩
    have HQD := Lib.hid (HQ7.out.drew)
    have HWD := Lib.hid (HW7.out.drew)
    have HFIN : Hid (∀ v' wz, RQT.Row wz wc.heap.size v' (O ++ [⟨r0, qz, ai, ka + 1, bi, kb + 1⟩]) → Below wc.heap.size wc wz → ∃ v'', Ending.returned v' = .returned v'' ∧ RQT.Row wz B v'' (O ++ (joinQ L ai (ka + 1) bi (kb + 1) how).toList) ∧ Below w.heap.size w wz) := Lib.hid fun v' wz h hb => by
      refine ⟨v', rfl, ?_, HW7.out.trans (hb.mono HW7.out.size)⟩
      rw [HQS.out]
      exact h.base (Nat.le_trans hB HW7.out.size)
    go_wp2_with fail
    refine wp_region_E (S := fun w' => w'.cell? ⟨gq, 0, none⟩ = some (.int .i64 r0) ∧ w'.cell? ⟨gq, 1, none⟩ = some (.int .i64 qz) ∧ w'.cell? ⟨gq, 2, none⟩ = some (.int .i64 ai) ∧ w'.cell? ⟨gq, 3, none⟩ = some (.int .i64 ((ka : Int) + 1)) ∧ w'.cell? ⟨gq, 4, none⟩ = some (.int .i64 bi) ∧ w'.cell? ⟨gq, 5, none⟩ = some (.int .i64 ((kb : Int) + 1))) (by kernel_rfl) (HS.out _ HQD.out) (fun hHeld => ?_)
    have HSB := Lib.hid fun (wz : World) (hb : Below wc.heap.size wc wz) => HS.out wz (HQ7.out.below hb)
    have HRC := Lib.hid fun (wz : World) (hb : Below wc.heap.size wc wz) => HRD.out wz (HW7.out.trans (hb.mono HW7.out.size))
    clear HS HRD HQD HWD HQS HW7 HV
    refine wpE_take (i := 1) (oi := ?oi17) (v := ?v17) ?hi17 (by kernel_rfl) (by kernel_rfl) (by kernel_rfl) (by kernel_rfl) ?hQ17 ?hy17 (by assumption) ?rest17
    case hi17 => (simp only [List.getElem?_toArray]; rfl)
    case hQ17 => exact fun _ _ _ h => h
    case hy17 => exact Or.inl ⟨by rfl, by (intro w hSw; (try dsimp only at hSw); go_simp; try with_reducible rfl)⟩
    try simp only [Act.put, List.setIfInBounds_toArray, List.set_cons_zero, List.set_cons_succ]
    refine wpE_take (i := 3) (oi := ?oi18) (v := ?v18) ?hi18 (by kernel_rfl) (by kernel_rfl) (by kernel_rfl) (by kernel_rfl) ?hQ18 ?hy18 (by assumption) ?rest18
    case hi18 => (simp only [List.getElem?_toArray]; rfl)
    case hQ18 => exact fun _ _ _ h => h
    case hy18 => exact Or.inl ⟨by rfl, by (intro w hSw; (try dsimp only at hSw); go_simp; try with_reducible rfl)⟩
    try simp only [Act.put, List.setIfInBounds_toArray, List.set_cons_zero, List.set_cons_succ]
    refine wpE_two (i := 0) (j := 4) (oi := ?oa1) (oj := ?ob1) ?ha1 ?hb1 (by kernel_rfl) (fun K hK => ?_) (fun K hK => ?_)
    case ha1 => (simp only [List.getElem?_toArray]; rfl)
    case hb1 => (simp only [List.getElem?_toArray]; rfl)
    · go_simp
      have hbA : Below wc.heap.size wc (wc.alloc (.cells #[] 72)).drew := (Below.allocN wc _).drew
      have hE : RQT.Row (wc.alloc (.cells #[] 72)).drew wc.heap.size (.slice (some ⟨wc.heap.size, 0, none⟩) 0 0) [] := (Lay.Row.empty (Y := RQT) wc).below (Below.refl _ _).drew
      refine hK.out _ _ (HSB.out _ hbA) (fun hHeld => ?_)
      clear hK K
      generalize (wc.alloc (.cells #[] 72)).drew = wA at *
      obtain ⟨g0, hg0⟩ : ∃ g0, wc.heap.size = g0 := ⟨_, rfl⟩
      have hE0 : RQT.Row wA wc.heap.size (.slice (some ⟨g0, 0, none⟩) 0 0) [] := by rw [← hg0]; exact hE
      clear hE
      have HG0 := Lib.hid hg0
      refine wpE_two (i := 2) (j := 4) (oi := ?oa2) (oj := ?ob2) ?ha2 ?hb2 (by kernel_rfl) (fun K hK => ?_) (fun K hK => ?_)
      case ha2 => (simp only [List.getElem?_toArray]; rfl)
      case hb2 => (simp only [List.getElem?_toArray]; rfl)
      · rw [hg0]
        clear hg0
        refine RQT.steps rfl (.tmp 114) (.tmp 115) rfl wc.heap.size (.slice (some ⟨g0, 0, none⟩) 0 0) [] rfl hE0 va O.length vc O rfl rfl HAC.out (HRC.out _ hbA) HAD.out (by simp; omega) hbA.size ?_
        intro v1 wB hr1 hg1 ho1
        rw [List.nil_append] at hr1
        have hb1 : Below wc.heap.size wc wB := hbA.trans ((grown_keeps hg1).below (fun g hg => by (have hg' : some g0 = some g := hg); injection hg' with hg'; have := own_base hE0 g0 rfl; omega) hbA.size)
        clear ho1
        refine hK.out _ _ (HSB.out _ hb1) (fun hHeld => ?_)
        clear hK K
        refine wpE_one (i := 4) (o := ?o20) ?ho20 (by kernel_rfl) (fun K hK => ?_)
        case ho20 => (simp only [List.getElem?_toArray]; rfl)
        go_simp
        have hbC : Below wc.heap.size wc (wB.alloc (.cells #[.int .i64 r0, .int .i64 qz, .int .i64 ai, .int .i64 ((ka : Int) + 1), .int .i64 bi, .int .i64 ((kb : Int) + 1)] 72)) := hb1.alloc hb1.size _
        have hN : Blk (wB.alloc (.cells #[.int .i64 r0, .int .i64 qz, .int .i64 ai, .int .i64 ((ka : Int) + 1), .int .i64 bi, .int .i64 ((kb : Int) + 1)] 72)) wB.heap.size 72 #[.int .i64 r0, .int .i64 qz, .int .i64 ai, .int .i64 ((ka : Int) + 1), .int .i64 bi, .int .i64 ((kb : Int) + 1)] := Blk.new _ _ _
        have hr2 := hr1.below (Below.allocN wB (.cells #[.int .i64 r0, .int .i64 qz, .int .i64 ai, .int .i64 ((ka : Int) + 1), .int .i64 bi, .int .i64 ((kb : Int) + 1)] 72))
        refine hK.out _ _ (HSB.out _ hbC) (fun hHeld => ?_)
        clear hK K
        generalize wB.alloc (.cells #[.int .i64 r0, .int .i64 qz, .int .i64 ai, .int .i64 ((ka : Int) + 1), .int .i64 bi, .int .i64 ((kb : Int) + 1)] 72) = wC at *
        refine wpE_one (i := 5) (o := ?o21) ?ho21 (by kernel_rfl) (fun K hK => ?_)
        case ho21 => (simp only [List.getElem?_toArray]; rfl)
        refine RQT.step rfl (.tmp 116) (.tmp 118) rfl wc.heap.size v1 O rfl hr2 wB.heap.size ⟨r0, qz, ai, ka + 1, bi, kb + 1⟩ rfl hN.lt hN.cellsAt (by omega) hbC.size ?_
        intro v2 wD hr3 hg3 ho3
        have hbD : Below wc.heap.size wc wD := hbC.trans ((grown_keeps hg3).below (fun g hg => own_base hr2 g hg) hbC.size)
        clear ho3
        refine hK.out _ _ (HSB.out _ hbD) (fun hHeld => ?_)
        clear hK K
        refine wpE_of_held _ _ _ _ ?_
        refine wpAnyH_take (i := 6) (oi := ?oi3) (v := ?v3) ?hi3 (by kernel_rfl) (by kernel_rfl) (by kernel_rfl) ?hQ3 ?hy3 (by assumption) ?rest3
        case hi3 => (simp only [List.getElem?_toArray]; rfl)
        case hQ3 => exact fun _ _ _ h => h
        case hy3 => exact Or.inl ⟨by rfl, by (intro w hSw; (try dsimp only at hSw); go_simp; try with_reducible rfl)⟩
        try simp only [Act.put, List.setIfInBounds_toArray, List.set_cons_zero, List.set_cons_succ]
        refine wpAnyH_done (by kernel_rfl) ?_ _
        clear hHeld
        have HE := Lib.hid (HFIN.out _ _ hr3 hbD)
        go_wp2_with fail
        go_ret
        exact HE.out
      · go_simp
        have hbC : Below wc.heap.size wc (wA.alloc (.cells #[.int .i64 r0, .int .i64 qz, .int .i64 ai, .int .i64 ((ka : Int) + 1), .int .i64 bi, .int .i64 ((kb : Int) + 1)] 72)) := hbA.alloc hbA.size _
        have hN : Blk (wA.alloc (.cells #[.int .i64 r0, .int .i64 qz, .int .i64 ai, .int .i64 ((ka : Int) + 1), .int .i64 bi, .int .i64 ((kb : Int) + 1)] 72)) wA.heap.size 72 #[.int .i64 r0, .int .i64 qz, .int .i64 ai, .int .i64 ((ka : Int) + 1), .int .i64 bi, .int .i64 ((kb : Int) + 1)] := Blk.new _ _ _
        have hr2 := hE0.below (Below.allocN wA (.cells #[.int .i64 r0, .int .i64 qz, .int .i64 ai, .int .i64 ((ka : Int) + 1), .int .i64 bi, .int .i64 ((kb : Int) + 1)] 72))
        have hne : g0 < wA.heap.size := own_lt hE0 g0 rfl
        refine hK.out _ _ (HSB.out _ hbC) (fun hHeld => ?_)
        clear hK K
        clear hg0
        generalize wA.alloc (.cells #[.int .i64 r0, .int .i64 qz, .int .i64 ai, .int .i64 ((ka : Int) + 1), .int .i64 bi, .int .i64 ((kb : Int) + 1)] 72) = wC at *
        generalize wA.heap.size = gn at *
        refine wpE_one (i := 2) (o := ?o22) ?ho22 (by kernel_rfl) (fun K hK => ?_)
        case ho22 => (simp only [List.getElem?_toArray]; rfl)
        refine RQT.steps rfl (.tmp 114) (.tmp 115) rfl wc.heap.size (.slice (some ⟨g0, 0, none⟩) 0 0) [] rfl hr2 va O.length vc O rfl rfl HAC.out (HRC.out _ hbC) HAD.out (by simp; omega) hbC.size ?_
        intro v1 wB hr1 hg1 ho1
        rw [List.nil_append] at hr1
        have hb1 : Below wc.heap.size wc wB := hbC.trans ((grown_keeps hg1).below (fun g hg => by (have hg' : some g0 = some g := hg); injection hg' with hg'; have := own_base hr2 g0 rfl; omega) hbC.size)
        clear ho1
        have hN2 : Blk wB gn 72 #[.int .i64 r0, .int .i64 qz, .int .i64 ai, .int .i64 ((ka : Int) + 1), .int .i64 bi, .int .i64 ((kb : Int) + 1)] := hN.keeps (grown_keeps hg1) (fun h => by (have h' : some g0 = some gn := h); injection h' with h'; omega)
        refine hK.out _ _ (HSB.out _ hb1) (fun hHeld => ?_)
        clear hK K
        refine wpE_one (i := 5) (o := ?o23) ?ho23 (by kernel_rfl) (fun K hK => ?_)
        case ho23 => (simp only [List.getElem?_toArray]; rfl)
        refine RQT.step rfl (.tmp 116) (.tmp 118) rfl wc.heap.size v1 O rfl hr1 gn ⟨r0, qz, ai, ka + 1, bi, kb + 1⟩ rfl hN2.lt hN2.cellsAt (by omega) hb1.size ?_
        intro v2 wD hr3 hg3 ho3
        have hbD : Below wc.heap.size wc wD := hb1.trans ((grown_keeps hg3).below (fun g hg => own_base hr1 g hg) hb1.size)
        clear ho3
        refine hK.out _ _ (HSB.out _ hbD) (fun hHeld => ?_)
        clear hK K
        refine wpE_of_held _ _ _ _ ?_
        refine wpAnyH_take (i := 6) (oi := ?oi4) (v := ?v4) ?hi4 (by kernel_rfl) (by kernel_rfl) (by kernel_rfl) ?hQ4 ?hy4 (by assumption) ?rest4
        case hi4 => (simp only [List.getElem?_toArray]; rfl)
        case hQ4 => exact fun _ _ _ h => h
        case hy4 => exact Or.inl ⟨by rfl, by (intro w hSw; (try dsimp only at hSw); go_simp; try with_reducible rfl)⟩
        try simp only [Act.put, List.setIfInBounds_toArray, List.set_cons_zero, List.set_cons_succ]
        refine wpAnyH_done (by kernel_rfl) ?_ _
        clear hHeld
        have HE := Lib.hid (HFIN.out _ _ hr3 hbD)
        go_wp2_with fail
        go_ret
        exact HE.out
    · go_simp
      have hbA : Below wc.heap.size wc (wc.alloc (.cells #[.int .i64 r0, .int .i64 qz, .int .i64 ai, .int .i64 ((ka : Int) + 1), .int .i64 bi, .int .i64 ((kb : Int) + 1)] 72)).drew := (Below.allocN wc _).drew
      have hN : Blk (wc.alloc (.cells #[.int .i64 r0, .int .i64 qz, .int .i64 ai, .int .i64 ((ka : Int) + 1), .int .i64 bi, .int .i64 ((kb : Int) + 1)] 72)).drew wc.heap.size 72 #[.int .i64 r0, .int .i64 qz, .int .i64 ai, .int .i64 ((ka : Int) + 1), .int .i64 bi, .int .i64 ((kb : Int) + 1)] := Blk.new wc _ _
      refine hK.out _ _ (HSB.out _ hbA) (fun hHeld => ?_)
      clear hK K
      generalize (wc.alloc (.cells #[.int .i64 r0, .int .i64 qz, .int .i64 ai, .int .i64 ((ka : Int) + 1), .int .i64 bi, .int .i64 ((kb : Int) + 1)] 72)).drew = wA at *
      obtain ⟨gn, hgn⟩ : ∃ gn, wc.heap.size = gn := ⟨_, rfl⟩
      have hN0 : Blk wA gn 72 #[.int .i64 r0, .int .i64 qz, .int .i64 ai, .int .i64 ((ka : Int) + 1), .int .i64 bi, .int .i64 ((kb : Int) + 1)] := by rw [← hgn]; exact hN
      clear hN
      rw [hgn]
      have HGN := Lib.hid hgn
      clear hgn
      refine wpE_one (i := 0) (o := ?o24) ?ho24 (by kernel_rfl) (fun K hK => ?_)
      case ho24 => (simp only [List.getElem?_toArray]; rfl)
      go_simp
      have hbE : Below wc.heap.size wc (wA.alloc (.cells #[] 72)) := hbA.alloc hbA.size _
      have hE : RQT.Row (wA.alloc (.cells #[] 72)) wc.heap.size (.slice (some ⟨wA.heap.size, 0, none⟩) 0 0) [] := (Lay.Row.empty (Y := RQT) wA).base hbA.size
      have hN1 := hN0.below (Below.allocN wA (.cells #[] 72))
      have hne := hN0.lt
      refine hK.out _ _ (HSB.out _ hbE) (fun hHeld => ?_)
      clear hK K
      generalize wA.alloc (.cells #[] 72) = wE at *
      generalize wA.heap.size = g0 at *
      refine wpE_one (i := 2) (o := ?o25) ?ho25 (by kernel_rfl) (fun K hK => ?_)
      case ho25 => (simp only [List.getElem?_toArray]; rfl)
      refine RQT.steps rfl (.tmp 114) (.tmp 115) rfl wc.heap.size (.slice (some ⟨g0, 0, none⟩) 0 0) [] rfl hE va O.length vc O rfl rfl HAC.out (HRC.out _ hbE) HAD.out (by simp; omega) hbE.size ?_
      intro v1 wB hr1 hg1 ho1
      rw [List.nil_append] at hr1
      have hb1 : Below wc.heap.size wc wB := hbE.trans ((grown_keeps hg1).below (fun g hg => by (have hg' : some g0 = some g := hg); injection hg' with hg'; have := own_base hE g0 rfl; omega) hbE.size)
      clear ho1
      have hN2 : Blk wB gn 72 #[.int .i64 r0, .int .i64 qz, .int .i64 ai, .int .i64 ((ka : Int) + 1), .int .i64 bi, .int .i64 ((kb : Int) + 1)] := hN1.keeps (grown_keeps hg1) (fun h => by (have h' : some g0 = some gn := h); injection h' with h'; omega)
      refine hK.out _ _ (HSB.out _ hb1) (fun hHeld => ?_)
      clear hK K
      refine wpE_one (i := 5) (o := ?o26) ?ho26 (by kernel_rfl) (fun K hK => ?_)
      case ho26 => (simp only [List.getElem?_toArray]; rfl)
      refine RQT.step rfl (.tmp 116) (.tmp 118) rfl wc.heap.size v1 O rfl hr1 gn ⟨r0, qz, ai, ka + 1, bi, kb + 1⟩ rfl hN2.lt hN2.cellsAt (by omega) hb1.size ?_
      intro v2 wD hr3 hg3 ho3
      have hbD : Below wc.heap.size wc wD := hb1.trans ((grown_keeps hg3).below (fun g hg => own_base hr1 g hg) hb1.size)
      clear ho3
      refine hK.out _ _ (HSB.out _ hbD) (fun hHeld => ?_)
      clear hK K
      refine wpE_of_held _ _ _ _ ?_
      refine wpAnyH_take (i := 6) (oi := ?oi5) (v := ?v5) ?hi5 (by kernel_rfl) (by kernel_rfl) (by kernel_rfl) ?hQ5 ?hy5 (by assumption) ?rest5
      case hi5 => (simp only [List.getElem?_toArray]; rfl)
      case hQ5 => exact fun _ _ _ h => h
      case hy5 => exact Or.inl ⟨by rfl, by (intro w hSw; (try dsimp only at hSw); go_simp; try with_reducible rfl)⟩
      try simp only [Act.put, List.setIfInBounds_toArray, List.set_cons_zero, List.set_cons_succ]
      refine wpAnyH_done (by kernel_rfl) ?_ _
      clear hHeld
      have HE := Lib.hid (HFIN.out _ _ hr3 hbD)
      go_wp2_with fail
      go_ret
      exact HE.out
end Go.Proofs.Ytilficlanliinaa
