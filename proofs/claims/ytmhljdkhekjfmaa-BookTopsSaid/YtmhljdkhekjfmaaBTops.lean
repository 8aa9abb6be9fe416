/- The walk of cornhilllaw9.BookTops. -/
import Derived.Test.YtmhljdkhekjfmaaMG
import Derived.BigQuiet
namespace Go.Proofs.Ytmhljdkhekjfmaa
open Go.RowKit

def arr3 (t : Int → Int) : Array Value := #[.int .i64 (t 0), .int .i64 (t 1), .int .i64 (t 2)]
set_option maxRecDepth 100000 in
set_option maxHeartbeats 16000000 in
theorem tops9 (q : Option Addr) (c : Nat) (l : List Ak) (W : World) (hR : AK.Rd W q l) (hok : ∀ x ∈ l, x.ok) :
    Calls Try.prog 3 #[.slice q l.length c] W fun e w' => e = .returned (.bool true) ∧ Below W.heap.size W w' := by
  have HR := Lib.hid hR
  have HOK := Lib.hid hok
  clear hR hok
  go_enter Try.func3, Try.ntmps3
  go_wp2_with fail
  refine (ob_new W W (Below.refl _ _)).mono ?_
  rintro e w1 ⟨pb, rfl, h, _⟩
  have O1 := Lib.hid h
  clear h
  go_upto_region 5 with (fail)
  have hab : Blk (w1.alloc (.cells #[.int .i64 0, .int .i64 0, .int .i64 0] 25)) w1.heap.size 25 (arr3 (fun _ => 0)) := Blk.new _ _ _
  have O2 := Lib.hid (O1.out.below (Below.allocN w1 (.cells #[.int .i64 0, .int .i64 0, .int .i64 0] 25)))
  have HG : Hid (W.heap.size ≤ w1.heap.size) := Lib.hid O1.out.bel.size
  have AB := Lib.hid hab
  clear hab O1
  generalize w1.alloc (.cells #[.int .i64 0, .int .i64 0, .int .i64 0] 25) = w2 at *
  generalize w1.heap.size = gt at *
  go_wp2_with fail
  go_loopw [5] (fun i w' => ∃ k : Nat, i = .int .i64 k ∧ k ≤ 60 ∧ ∃ L t, OB W w' pb L ∧ Blk w' gt 25 (arr3 t) ∧ TopsAre L t k) (fun i _ => 60 - (intOf i).toNat)
  case atStart => exact ⟨0, rfl, by omega, _, _, O2.out, AB.out, TopsAre.nil⟩
  case round =>
    clear O2 AB
    obtain ⟨k, rfl, hk, L, t, hO, hA, hT⟩ := hrel
    obtain ⟨wo, rfl⟩ : ∃ wo : World, wo = wr := ⟨_, rfl⟩
    have O0 := Lib.hid hO
    have A0 := Lib.hid hA
    have T0 := Lib.hid hT
    clear hO hA hT
    by_cases hlt : k < l.length ∧ k < 60
    · obtain ⟨hkn, hk60⟩ := hlt
      obtain ⟨x, hx⟩ : ∃ x, l[k]? = some x := ⟨_, List.getElem?_eq_getElem hkn⟩
      obtain ⟨b, off, rfl, hbl, ha⟩ := HR.out.below O0.out.bel k x hx
      have hkl : (k : Int) < (l.length : Int) := by omega
      have XOK := Lib.hid (HOK.out x (List.mem_of_getElem? hx))
      have a1 : wo.cell? ⟨b, off + k * 5 + 1, none⟩ = some (.int .i64 x.side) := ha 1 _ rfl
      have a3 : wo.cell? ⟨b, off + k * 5 + 3, none⟩ = some (.int .i64 x.price) := ha 3 _ rfl
      have HC : Hid (∀ w', Below wo.heap.size wo w' → CellsAt w' b (off + k * 5) x.cells) := Lib.hid fun w' hb => ha.below hb hbl
      clear ha hbl hx
      obtain ⟨s, hs⟩ : ∃ s, 1 + withI x.side 0 1 = s := ⟨_, rfl⟩
      obtain ⟨p, hp⟩ : ∃ p, withI x.price 0 6 = p := ⟨_, rfl⟩
      have hs12 : s = 1 ∨ s = 2 := by have := withI_bd x.side 0 1 (by omega); omega
      have hpb := withI_bd x.price 0 6 (by omega)
      have HS := Lib.hid hs
      have HS12 := Lib.hid hs12
      have hw1 := within_any x.side 0 1 wo XOK.out.2.1.1 XOK.out.2.1.2 (by omega) (by omega) (by omega)
      have hw2 := within_any x.price 0 6 wo XOK.out.2.2.2.1.1 XOK.out.2.2.2.1.2 (by omega) (by omega) (by omega)
      rw [hp] at hw2 hpb
      clear hs hp hs12
      have hsb1 : 1 ≤ s := by have := HS12.out; omega
      have hsb2 : s ≤ 2 := by have := HS12.out; omega
      go_wp2_with fail
      refine hw1.mono ?_
      rintro e w2 ⟨rfl, rfl⟩
      have hs := HS.out
      clear hw1
      go_wp2_with fail
      refine hw2.mono ?_
      rintro e w2 ⟨rfl, rfl⟩
      clear hw2 hs a1 a3
      have hbe := ob_best O0.out s
      have HTP := Lib.hid (O0.out.top HS12.out p)
      obtain ⟨⟨⟨bp, bq, bc⟩, any⟩, hbo⟩ : ∃ y, bestO L s = y := ⟨_, rfl⟩
      rw [hbo] at hbe HTP
      rw [show ((⟨bp, bq, bc⟩, any) : Lv × Bool).1.cells.toArray = #[.int .i64 bp, .int .i64 bq, .int .i64 bc] from rfl] at hbe
      clear hbo
      go_wp2_with fail
      refine hbe.mono ?_
      rintro e w3 ⟨rfl, hb⟩
      clear hbe
      have hb4 := hb.trans ((Below.allocN w3 (.cells #[.int .i64 bp, .int .i64 bq, .int .i64 bc] 30)).mono hb.size)
      have hlv : Blk (w3.alloc (.cells #[.int .i64 bp, .int .i64 bq, .int .i64 bc] 30)) w3.heap.size 30 #[.int .i64 bp, .int .i64 bq, .int .i64 bc] := Blk.new _ _ _
      have O4 := Lib.hid (O0.out.below hb4)
      have A4 := Lib.hid (A0.out.below hb4)
      have hc4 := HC.out _ hb4
      go_upto_region 11 with (fail)
      clear hb hb4 O0 A0 HC
      obtain ⟨gl, hgl⟩ : ∃ gl, w3.heap.size = gl := ⟨_, rfl⟩
      rw [hgl] at hlv ⊢
      clear hgl
      generalize w3.alloc (.cells #[.int .i64 bp, .int .i64 bq, .int .i64 bc] 30) = w4 at *
      have LV4 := Lib.hid hlv
      have a0 : w4.cell? ⟨b, off + k * 5, none⟩ = some (.int .i64 x.kind) := hc4 0 _ rfl
      have a2 : w4.cell? ⟨b, off + k * 5 + 2, none⟩ = some (.int .i64 x.id) := hc4 2 _ rfl
      have x0 := XOK.out.1
      unfold i64ok at x0
      clear hlv hc4
      go_upto_if 50 with (fail)
      clear a0
      obtain ⟨m, hm⟩ : ∃ m, x.kind.tmod 4 = m := ⟨_, rfl⟩
      rw [hm]
      clear hm x0
      go_cut [50] (fun _ wx => ∃ L' t', OB W wx pb L' ∧ Blk wx gt 25 (arr3 t') ∧ TopsAre L' t' (k + 1))
      case first =>
        by_cases hm : m = 0
        · have hwi := fun w => within_any x.id 0 k w XOK.out.2.2.1.1 XOK.out.2.2.1.2 (by omega) (by omega) (by omega)
          go_wp2_with fail
          refine (hwi _).mono ?_
          rintro e w5 ⟨rfl, rfl⟩
          clear hwi
          go_wp2_with fail
          refine (ob_fill O4.out (withI x.id 0 k) 5).mono ?_
          rintro e w5 ⟨rfl, hO, hkp⟩
          have O5 := Lib.hid hO
          have A5 := Lib.hid (A4.out.fb hkp (by decide))
          clear hO hkp a2
          go_wp2_with fail
          go_meet
          exact ⟨_, t, O5.out, A5.out, T0.out.fill _ _⟩
        · have hmb : (m != 0) = true := by rw [bne_iff_ne]; exact hm
          have hT := T0.out.add hk60 HS12.out p
          have TA := Lib.hid hT.2
          have TE := Lib.hid hT.1
          clear hT a2
          go_wp2_with fail
          refine (ob_add O4.out ((k : Int) + 1) s p 5).mono ?_
          rintro e w5 ⟨rfl, hO, hkp⟩
          rw [TE.out]
          have O5 := Lib.hid hO
          have A5 := Lib.hid (A4.out.fb hkp (by decide))
          have hl5 := LV4.out.fb hkp (by decide)
          have l0 : w5.cell? ⟨gl, 0, none⟩ = some (.int .i64 bp) := hl5.cell 0
          have fz : ∀ o, w5.frozen? ⟨gt, o, none⟩ = false := fun o => A5.out.frozen o
          have z1 : w5.cell? ⟨gt, 1, none⟩ = some (.int .i64 (t 1)) := A5.out.cell 1
          have z2 : w5.cell? ⟨gt, 2, none⟩ = some (.int .i64 (t 2)) := A5.out.cell 2
          clear hO hkp hl5 hsb1 hsb2
          have HS2 := HS12.out
          rcases HS2 with rfl | rfl
          · have HTP : Hid (refTop L 1 p = (!any || decide (bp < p))) := HTP
            cases any with
            | false =>
              go_wp2_with fail
              go_meet
              exact ⟨_, tset t 1 ((k : Int) + 1), O5.out.set_ (i := 1) A5.out.tyd (by decide) HG.out _, A5.out.set_ 1 (.int .i64 ((k : Int) + 1)), by have := TA.out; rw [HTP.out] at this; simpa using this⟩
            | true =>
              by_cases hbt : bp < p
              · replace HTP : Hid (refTop L 1 p = true) := Lib.hid (by rw [HTP.out]; simp [hbt])
                go_wp2_with fail
                go_meet
                exact ⟨_, tset t 1 ((k : Int) + 1), O5.out.set_ (i := 1) A5.out.tyd (by decide) HG.out _, A5.out.set_ 1 (.int .i64 ((k : Int) + 1)), by have := TA.out; rw [HTP.out] at this; simpa using this⟩
              · replace HTP : Hid (refTop L 1 p = false) := Lib.hid (by rw [HTP.out]; simp [hbt])
                go_wp2_with fail
                go_meet
                exact ⟨_, t, O5.out, A5.out, by have := TA.out; rw [HTP.out] at this; simpa using this⟩
          · have HTP : Hid (refTop L 2 p = (!any || decide (p < bp))) := HTP
            cases any with
            | false =>
              go_wp2_with fail
              go_meet
              exact ⟨_, tset t 2 ((k : Int) + 1), O5.out.set_ (i := 2) A5.out.tyd (by decide) HG.out _, A5.out.set_ 2 (.int .i64 ((k : Int) + 1)), by have := TA.out; rw [HTP.out] at this; simpa using this⟩
            | true =>
              by_cases hbt : p < bp
              · replace HTP : Hid (refTop L 2 p = true) := Lib.hid (by rw [HTP.out]; simp [hbt])
                go_wp2_with fail
                go_meet
                exact ⟨_, tset t 2 ((k : Int) + 1), O5.out.set_ (i := 2) A5.out.tyd (by decide) HG.out _, A5.out.set_ 2 (.int .i64 ((k : Int) + 1)), by have := TA.out; rw [HTP.out] at this; simpa using this⟩
              · replace HTP : Hid (refTop L 2 p = false) := Lib.hid (by rw [HTP.out]; simp [hbt])
                go_wp2_with fail
                go_meet
                exact ⟨_, t, O5.out, A5.out, by have := TA.out; rw [HTP.out] at this; simpa using this⟩
      case rest =>
      obtain ⟨L', t', hO, hA, hT⟩ := hcut
      obtain ⟨wx, rfl⟩ : ∃ wo : World, wo = wc := ⟨_, rfl⟩
      have O5 := Lib.hid hO
      have A5 := Lib.hid hA
      have T5 := Lib.hid hT
      clear hO hA hT O4 A4 T0 LV4 HTP
      go_wp2_with fail
      refine (ob_orders O5.out).mono ?_
      rintro e w6 ⟨v, rfl, hr, hb⟩
      obtain ⟨ra, rc, rfl, _, hrd⟩ := hr.rd
      have O6 := Lib.hid (O5.out.below hb)
      have A6 := Lib.hid (A5.out.below hb)
      have R6 := Lib.hid hrd
      clear hr hb hrd O5 A5
      go_wp2_with fail
      go_loopw [11] (fun j w' => ∃ i : Nat, j = .int .i64 i ∧ i ≤ L'.length ∧ Below w6.heap.size w6 w') (fun j _ => L'.length - (intOf j).toNat)
      case atStart => exact ⟨0, rfl, Nat.zero_le _, Below.refl _ _⟩
      case round =>
        obtain ⟨i, rfl, hi, hb⟩ := hrel
        obtain ⟨wy, rfl⟩ : ∃ wo : World, wo = wr := ⟨_, rfl⟩
        have HBL := Lib.hid hb
        clear hb
        by_cases hin : i < L'.length
        · have hin' : (i : Int) < (L'.length : Int) := by omega
          obtain ⟨o, ho⟩ : ∃ o, L'[i]? = some o := ⟨_, List.getElem?_eq_getElem hin⟩
          obtain ⟨ga, oa, rfl, hga, hca⟩ := R6.out.below HBL.out i o ho
          have hso := O6.out.side (List.mem_of_getElem? ho)
          have hto := T5.out.top o (List.mem_of_getElem? ho)
          have hAy := A6.out.below HBL.out
          have b0 : wy.cell? ⟨ga, oa + i * 5, none⟩ = some (.int .i64 o.id) := hca 0 _ rfl
          have b1 : wy.cell? ⟨ga, oa + i * 5 + 1, none⟩ = some (.int .i64 o.side) := hca 1 _ rfl
          have b4 : wy.cell? ⟨ga, oa + i * 5 + 4, none⟩ = some (.bool o.top) := hca 4 _ rfl
          have z1 : wy.cell? ⟨gt, 1, none⟩ = some (.int .i64 (t' 1)) := hAy.cell 1
          have z2 : wy.cell? ⟨gt, 2, none⟩ = some (.int .i64 (t' 2)) := hAy.cell 2
          rw [hto] at b4
          clear hga hca ho hto hAy
          obtain ⟨id, hid⟩ : ∃ y, o.id = y := ⟨_, rfl⟩
          obtain ⟨side, hsd⟩ : ∃ y, o.side = y := ⟨_, rfl⟩
          rw [hid] at b0 b4
          rw [hsd] at hso b1 b4
          clear hid hsd
          have hL' := O6.out.len
          rcases hso with rfl | rfl
          · generalize t' 1 = tv at b4 z1
            by_cases hv : tv = id
            · subst hv
              rw [decide_eq_true rfl] at b4
              go_upto_region 21 with (fail)
              go_quiet (fail)
              clear b0 b1 b4 z1 z2
              go_wp2_with fail
              go_roundw
              case rel => exact ⟨i + 1, by go_num, by omega, HBL.out.trans ((Below.drewN_of _ _).mono HBL.out.size)⟩
              case measure => simp [intOf]; omega
            · rw [decide_eq_false hv] at b4
              have hvb : (tv == id) = false := by rw [beq_eq_false_iff_ne]; exact hv
              go_upto_region 21 with (fail)
              go_quiet (fail)
              clear b0 b1 b4 z1 z2
              go_wp2_with fail
              go_roundw
              case rel => exact ⟨i + 1, by go_num, by omega, HBL.out.trans ((Below.drewN_of _ _).mono HBL.out.size)⟩
              case measure => simp [intOf]; omega
          · generalize t' 2 = tv at b4 z2
            by_cases hv : tv = id
            · subst hv
              rw [decide_eq_true rfl] at b4
              go_upto_region 21 with (fail)
              go_quiet (fail)
              clear b0 b1 b4 z1 z2
              go_wp2_with fail
              go_roundw
              case rel => exact ⟨i + 1, by go_num, by omega, HBL.out.trans ((Below.drewN_of _ _).mono HBL.out.size)⟩
              case measure => simp [intOf]; omega
            · rw [decide_eq_false hv] at b4
              have hvb : (tv == id) = false := by rw [beq_eq_false_iff_ne]; exact hv
              go_upto_region 21 with (fail)
              go_quiet (fail)
              clear b0 b1 b4 z1 z2
              go_wp2_with fail
              go_roundw
              case rel => exact ⟨i + 1, by go_num, by omega, HBL.out.trans ((Below.drewN_of _ _).mono HBL.out.size)⟩
              case measure => simp [intOf]; omega
        · go_wp2_with fail
          go_roundw
          case rel => exact ⟨k + 1, by go_num, by omega, L', t', O6.out.below HBL.out, A6.out.below HBL.out, T5.out⟩
          case measure => simp [intOf]; omega
    · go_wp2_with fail
      all_goals
        refine (known_any9 _).mono ?_
        rintro e w7 ⟨rfl, hb⟩
        have HB7 := Lib.hid (O0.out.bel.trans (hb.mono O0.out.bel.size))
        clear hb
        go_wp2_with fail
        go_ret
        exact ⟨by trivial, HB7.out⟩
end Go.Proofs.Ytmhljdkhekjfmaa
