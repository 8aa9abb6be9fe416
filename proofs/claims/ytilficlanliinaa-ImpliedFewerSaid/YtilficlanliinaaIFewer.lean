/- The walk of cornhilllaw14.ImpliedFewer. Printed by mk_ifewer.py. -/
import Derived.Test.YtilficlanliinaaPFew
import Derived.Test.YtilficlanliinaaSameQ
import Derived.Deep.DeepCutAuto
namespace Go.Proofs.Ytilficlanliinaa
open Go.RowKit

/-- where the walk stands: the tops, and those of which one side is gone -/
structure LU (w w1 : World) (gp : Nat) (p : Prod) (gt : Nat) (S : List Tp) (gu : Nat) (U : List Tp) : Prop where
  l : LT w w1 gp p gt S
  u : TP.Rd w1 (some ⟨gu, 0, none⟩) U
theorem LU.next {w w1 w2 : World} {gp : Nat} {p : Prod} {gt : Nat} {S : List Tp} {gu : Nat} {U : List Tp} (h : LU w w1 gp p gt S gu U) (hb : Below w1.heap.size w1 w2) : LU w w2 gp p gt S gu U := ⟨h.l.next hb, h.u.below hb⟩
theorem clr_cells {z : Nat} {sd : Int} (x : Tp) (hz : z < 2) (hs : sd = (z : Int) + 1) : (clrT sd x).cells = x.cells.set z (.bool false) := by
  have : z = 0 ∨ z = 1 := by omega
  subst hs
  rcases this with rfl | rfl <;> rfl
theorem few_zero {α : Type} {A : List α} {f : α → Bool} : (0 : Int) = ((((A.take 0).filter f).length : Nat) : Int) := by simp
set_option maxRecDepth 100000 in
set_option maxHeartbeats 16000000 in
theorem ifewer_any (px : Prod) (ta : Option Addr) (tc : Nat) (L : List Tp) (inst gone side : Int) (w : World) (hX : PIn w px) (hT : TP.Rd w ta L) (hok : ∀ x ∈ L, x.ok) (hL : L.length ≤ 9223372036854775807) (hi1 : -9223372036854775808 ≤ inst) (hi2 : inst ≤ 9223372036854775807) (hg1 : -9223372036854775808 ≤ gone) (hg2 : gone ≤ 9223372036854775807) (hs1 : -9223372036854775808 ≤ side) (hs2 : side ≤ 9223372036854775807) :
    Calls Try.prog 4 #[px.agg, .slice ta L.length tc, .int .i64 inst, .int .i64 gone, .int .i64 side] w fun e w' => e = .returned (.bool true) ∧ Below w.heap.size w w' := by
  have s1 : ∀ (w : World) (o : Obj), (w.alloc o).heap.size = w.heap.size + 1 := fun w o => by simp
  have hkp := keep_any px (w.alloc (.cells #[.string px.code, .slice px.ma px.months.length px.mc, .int .i64 px.tick, .int .i64 px.low, .int .i64 px.high, .int .i64 px.wide, .int .i64 px.rule, .int .i64 px.top, .int .i64 px.least, .int .i64 px.part, .slice px.sa px.settle.length px.sc] 25)) hX.px
  unfold Prod.agg Prod.cells at hkp ⊢
  have HB0 : Hid (Below w.heap.size w (w.alloc (.cells #[.string px.code, .slice px.ma px.months.length px.mc, .int .i64 px.tick, .int .i64 px.low, .int .i64 px.high, .int .i64 px.wide, .int .i64 px.rule, .int .i64 px.top, .int .i64 px.least, .int .i64 px.part, .slice px.sa px.settle.length px.sc] 25))) := Lib.hid (Below.allocN _ _)
  have HT := Lib.hid hT
  have HOK := Lib.hid hok
  clear hT hok
  go_enter Try.func4, Try.ntmps4
  go_wp2_with fail
  refine hkp.mono ?_
  rintro e w1 ⟨k, ma, mc, sa, sc, hko, rfl, hpv, hb1⟩
  have hck := keep_check k hko ma mc sa sc
  have hB1 := HB0.out.trans (hb1.mono HB0.out.size)
  clear hkp hb1 HB0 hX hko
  generalize k.prod ma mc sa sc = p at *
  go_upto_region 2 with (fail)
  have hbx : Blk (w1.alloc (.cells #[.string p.code, .slice p.ma p.months.length p.mc, .int .i64 p.tick, .int .i64 p.low, .int .i64 p.high, .int .i64 p.wide, .int .i64 p.rule, .int .i64 p.top, .int .i64 p.least, .int .i64 p.part, .slice p.sa p.settle.length p.sc] 25)) w1.heap.size 25 p.cells := Blk.new _ _ _
  have HBX := Lib.hid hbx
  have HB2 : Hid (Below w.heap.size w (w1.alloc (.cells #[.string p.code, .slice p.ma p.months.length p.mc, .int .i64 p.tick, .int .i64 p.low, .int .i64 p.high, .int .i64 p.wide, .int .i64 p.rule, .int .i64 p.top, .int .i64 p.least, .int .i64 p.part, .slice p.sa p.settle.length p.sc] 25))) := Lib.hid (hB1.trans ((Below.allocN _ _).mono hB1.size))
  have HPV := Lib.hid (hpv.below (Below.allocN w1 (.cells p.cells 25)))
  have HLE := Lib.hid hB1.size
  have HCK := Lib.hid hck
  clear hbx hpv hB1 hck
  unfold Prod.cells at HPV
  generalize (w1.alloc (.cells #[.string p.code, .slice p.ma p.months.length p.mc, .int .i64 p.tick, .int .i64 p.low, .int .i64 p.high, .int .i64 p.wide, .int .i64 p.rule, .int .i64 p.top, .int .i64 p.least, .int .i64 p.part, .slice p.sa p.settle.length p.sc] 25)) = w2 at *
  have hto := tops_any p ta tc L w2 HPV.out HCK.out (HT.out.below HB2.out) HOK.out hL
  have hpc := PC.of5 HBX.out
  generalize w1.heap.size = gp at *
  unfold Prod.agg Prod.cells at hto
  obtain ⟨b0, b1, b2, b3, b4, b5, b6, b7, b8, b9, b10⟩ := hpc
  have HN := Lib.hid (countN_room p.months.length (check_len HCK.out).2 (check_len HCK.out).1)
  have hcn := countN_bd p.months.length (check_len HCK.out).2
  have hnr := HN.out
  have hlen := check_len HCK.out
  obtain ⟨n, hn⟩ : ∃ n, countN p.months.length = n := ⟨_, rfl⟩
  rw [hn] at hto hcn hnr
  have HNN := Lib.hid hn
  clear hn
  go_wp2_with fail
  refine hto.mono ?_
  rintro e w3 ⟨gt, rfl, htp, hgt, hb⟩
  have hlt : LT w w3 gp p gt (topsP p L) := ⟨HB2.out.trans (hb.mono HB2.out.size), HBX.out.below hb, HPV.out.below hb, htp, HLE.out, Nat.le_trans HB2.out.size hgt⟩
  have T3 := Lib.hid hlt
  have HTO := Lib.hid (topsP_ok HCK.out L)
  have HTL : Hid ((topsP p L).length = n) := Lib.hid (by rw [topsP_len, HNN.out])
  clear hto hb htp hgt hlt HBX HB2 HPV HLE HT HOK hL b0 b1 b2 b3 b4 b5 b6 b7 b8 b9 b10
  generalize topsP p L = S at *
  have hw2 := withI_bd inst 0 ((n : Int) - 1) (by omega)
  have hw3 := withI_bd gone 0 ((n : Int) - 1) (by omega)
  have hw4 := withI_bd side 0 1 (by omega)
  have HWI := Lib.hid fun w => within_any inst 0 ((n : Int) - 1) w hi1 hi2 (by omega) (by omega) (by omega)
  have HWG := Lib.hid fun w => within_any gone 0 ((n : Int) - 1) w hg1 hg2 (by omega) (by omega) (by omega)
  have HWS := Lib.hid fun w => within_any side 0 1 w hs1 hs2 (by omega) (by omega) (by omega)
  have y2 : IntKind.i64.wrap ((n : Int) - 1) = (n : Int) - 1 := IntWalk.i64_in _ (by omega)
  generalize withI inst 0 ((n : Int) - 1) = kk at *
  obtain ⟨gi, hgi⟩ : ∃ g : Nat, withI gone 0 ((n : Int) - 1) = (g : Int) := ⟨(withI gone 0 ((n : Int) - 1)).toNat, by omega⟩
  rw [hgi] at HWG hw3
  clear hgi
  obtain ⟨z, hz⟩ : ∃ z : Nat, withI side 0 1 = (z : Int) := ⟨(withI side 0 1).toNat, by omega⟩
  rw [hz] at HWS hw4
  clear hz
  obtain ⟨sd, hsd⟩ : ∃ s : Int, 1 + (z : Int) = s := ⟨_, rfl⟩
  have y3 : IntKind.i64.wrap (1 + (z : Int)) = sd := by rw [← hsd]; exact IntWalk.i64_in _ (by omega)
  have y4 : IntKind.i64.wrap (sd - 1) = (z : Int) := by rw [← hsd]; rw [show 1 + (z : Int) - 1 = (z : Int) by omega]; exact IntWalk.i64_in _ (by omega)
  have HZS : Hid (sd = (z : Int) + 1) := Lib.hid (by omega)
  have HSD : Hid (sd = 1 ∨ sd = 2) := Lib.hid (by omega)
  have hz2 : z < 2 := by omega
  have hgn : gi < n := by omega
  clear hsd hw4 hw3 hw2
  go_wp2_with fail
  refine (HWI.out _).mono ?_
  rintro e w4 ⟨rfl, rfl⟩
  go_wp2_with fail
  refine (HWG.out _).mono ?_
  rintro e w4 ⟨rfl, rfl⟩
  go_wp2_with fail
  refine (HWS.out _).mono ?_
  rintro e w4 ⟨rfl, rfl⟩
  clear HWI HWG HWS
  have HE : Hid (TP.Row (w3.alloc (.cells #[] 42)) w3.heap.size (.slice (some ⟨w3.heap.size, 0, none⟩) 0 0) []) := Lib.hid (Lay.Row.empty (Y := TP) w3)
  have HTA := Lib.hid (T3.out.next (Below.allocN w3 (.cells #[] 42)))
  have HBA := Lib.hid (Below.allocN w3 (.cells #[] 42))
  have hn21 : n ≤ 1000000 := by omega
  go_upto_region 6 with (fail)
  go_wp2_with (first
    | (at_builtin; go_loud (refine TP.pushes rfl (.tmp 39) (.tmp 40) rfl w3.heap.size (.slice (some ⟨w3.heap.size, 0, none⟩) 0 0) [] rfl HE.out (some ⟨gt, 0, none⟩) n S (by show Value.slice (some ⟨gt, 0, none⟩) n n = _; rw [HTL.out]) (fun h => by cases h) HTA.out.rd (fun ad h => ⟨gt, 0, by injection h with h; exact h.symm⟩) (by rw [HTL.out]; simpa using hn21) (by simp) ?_)))
  intro vu w6 hr6 hg6 ho6
  have hb6 : Below w3.heap.size w3 w6 := grown_below hg6 HBA.out (own_base HE.out)
  clear hg6 ho6 HE HTA HBA
  obtain ⟨x, hx⟩ : ∃ x, S[gi]? = some x := ⟨_, List.getElem?_eq_getElem (by rw [HTL.out]; exact hgn)⟩
  obtain ⟨gu, cap, cur, rfl, hgu, hblk⟩ := hr6.blk (fun h => by rw [h] at hx; cases hx)
  rw [HTL.out] at hr6 ⊢
  have hcx : w6.cell? ⟨gu, gi * 6 + z, none⟩ = some (.bool (x.has sd)) := by
    obtain ⟨g', cap', hv, _, hc⟩ := hr6.at_ gi x hx
    injection hv with hv
    injection hv with hv
    injection hv with hv
    subst hv
    have h01 : z = 0 ∨ z = 1 := by omega
    have := HZS.out
    rcases h01 with rfl | rfl
    · obtain rfl : sd = 1 := by omega
      exact hc 0 _ rfl
    · obtain rfl : sd = 2 := by omega
      exact hc 1 _ rfl
  have hfr : ∀ o, w6.frozen? ⟨gu, o, none⟩ = false := fun o => hblk.frozen o
  have HU : Hid (TP.Row (w6.setCell ⟨gu, gi * 6 + z, none⟩ (.bool false)) w3.heap.size (.slice (some ⟨gu, 0, none⟩) n cap) (clrS S gi sd)) := Lib.hid (by
    have h := hr6.set_ (k := z) (e' := clrT sd x) hx (show z < 6 by omega) (clr_cells x hz2 HZS.out)
    unfold clrS
    rw [hx]
    exact h)
  have HT7 := Lib.hid (T3.out.next (hb6.setCell (p := ⟨gu, gi * 6 + z, none⟩) hgu (.bool false)))
  clear hr6 hb6 hgu hblk hx
  go_upto_region 8 with (fail)
  clear HZS hcx hfr y2 y3 y4
  generalize w6.setCell ⟨gu, gi * 6 + z, none⟩ (.bool false) = w7 at *
  have HAS := Lib.hid fun (s : Int) wz (h : LT w wz gp p gt S) => all_any p kk s (some ⟨gt, 0, none⟩) n S wz h.pv h.rd HTO.out (by rw [HTL.out]; exact hn21)
  rw [HTL.out] at HAS
  unfold Prod.agg Prod.cells at HAS
  have HUL : Hid ((clrS S gi sd).length = n) := Lib.hid (by rw [clrS_len, HTL.out])
  have HUO := Lib.hid (clrS_ok HTO.out gi sd)
  have HFT := Lib.hid fun (s : Int) (hs : s = 1 ∨ s = 2) => allP_clr (p := p) (S := S) (n := gi) (inst := kk) HSD.out hs
  have HAN := Lib.hid fun s => allP_len p S kk s
  have HL7 : Hid (LU w w7 gp p gt S gu (clrS S gi sd)) := Lib.hid ⟨HT7.out, HU.out.rd_some⟩
  clear HU HT7 T3
  generalize clrS S gi sd = U at *
  have HAU := Lib.hid fun (s : Int) wz (h : LU w wz gp p gt S gu U) => all_any p kk s (some ⟨gu, 0, none⟩) cap U wz h.l.pv h.u HUO.out (by rw [HUL.out]; exact hn21)
  rw [HUL.out] at HAU
  unfold Prod.agg Prod.cells at HAU
  go_wp2_with fail
  go_loopw [16] (fun j w' => ∃ s : Int, j = .int .i64 s ∧ 1 ≤ s ∧ s ≤ 3 ∧ LU w w' gp p gt S gu U) (fun j _ => (3 - intOf j).toNat)
  case atStart => exact ⟨1, rfl, by omega, by omega, HL7.out⟩
  case round =>
    clear HL7
    obtain ⟨s, rfl, hs1, hs3, hT⟩ := hrel
    obtain ⟨wy, rfl⟩ : ∃ wo : World, wo = wr := ⟨_, rfl⟩
    have T3 := Lib.hid hT
    clear hT
    have y1 : IntKind.i64.wrap (s + 1) = s + 1 := IntWalk.i64_in _ (by omega)
    by_cases hs2 : s ≤ 2
    · have HS : Hid (s = 1 ∨ s = 2) := Lib.hid (by omega)
      obtain ⟨b0, b1, b2, b3, b4, b5, b6, b7, b8, b9, b10⟩ := T3.out.l.pc
      go_wp2_with fail
      refine (HAS.out s _ T3.out.l).mono ?_
      rintro e w5 ⟨v, rfl, hr, hb⟩
      have T4 := Lib.hid (T3.out.next hb)
      clear b0 b1 b2 b3 b4 b5 b6 b7 b8 b9 b10
      obtain ⟨qa, qc, hvf, hqn, hrd⟩ := hr.rd
      subst hvf
      have HRD := Lib.hid hrd
      clear hr hb T3 hrd hqn
      obtain ⟨b0, b1, b2, b3, b4, b5, b6, b7, b8, b9, b10⟩ := T4.out.l.pc
      go_wp2_with fail
      refine (HAU.out s _ T4.out).mono ?_
      rintro e w6 ⟨v, rfl, hr, hb⟩
      have T5 := Lib.hid (T4.out.next hb)
      have HRD2 := Lib.hid (HRD.out.below hb)
      clear b0 b1 b2 b3 b4 b5 b6 b7 b8 b9 b10
      have hal := HAN.out s
      rw [HFT.out s HS.out] at hr
      generalize allP p S kk s = A at *
      obtain ⟨ra, rc, hvf, hqn, hrd⟩ := hr.rd
      subst hvf
      have HRB := Lib.hid hrd
      clear hr hb T4 HRD hrd hqn HS
      obtain ⟨Bq, hBq⟩ : ∃ Bq, A.filter (fun q => !legQ gi sd q) = Bq := ⟨_, rfl⟩
      rw [hBq] at HRB ⊢
      have HBQ := Lib.hid hBq
      have hbl : Bq.length ≤ 27 := by rw [← hBq]; exact Nat.le_trans (List.length_filter_le _ _) hal
      clear hBq
      go_wp2_with fail
      go_loopw [19, 20] (fun f j w' => ∃ (jn i : Nat), f = .int .i64 jn ∧ j = .int .i64 i ∧ i ≤ A.length ∧ jn = ((A.take i).filter (fun q => !legQ gi sd q)).length ∧ LU w w' gp p gt S gu U ∧ QT.Rd w' qa A ∧ QT.Rd w' ra Bq) (fun _ j _ => A.length - (intOf j).toNat)
      case atStart => exact ⟨0, 0, rfl, rfl, Nat.zero_le _, by simp, T5.out, HRD2.out, HRB.out⟩
      case round =>
        clear T5 HRD2 HRB
        obtain ⟨jn, i, rfl, rfl, hi, hj, hT, hR, hR2⟩ := hrel
        obtain ⟨wz, rfl⟩ : ∃ wo : World, wo = wr := ⟨_, rfl⟩
        have T5 := Lib.hid hT
        have HRD := Lib.hid hR
        have HRB := Lib.hid hR2
        have HJ := Lib.hid hj
        clear hT hR hR2 hj
        by_cases hin : i < A.length
        · have hin' : (i : Int) < (A.length : Int) := by omega
          obtain ⟨q, hq⟩ : ∃ q, A[i]? = some q := ⟨_, List.getElem?_eq_getElem hin⟩
          have HQ := Lib.hid hq
          obtain ⟨qb, off, rfl, hbl0, hcq⟩ := HRD.out i q hq
          have a0 : wz.cell? ⟨qb, off + i * 6, none⟩ = some (.int .i64 q.price) := hcq 0 _ rfl
          have a1 : wz.cell? ⟨qb, off + i * 6 + 1, none⟩ = some (.int .i64 q.qty) := hcq 1 _ rfl
          have a2 : wz.cell? ⟨qb, off + i * 6 + 2, none⟩ = some (.int .i64 q.i0) := hcq 2 _ rfl
          have a3 : wz.cell? ⟨qb, off + i * 6 + 3, none⟩ = some (.int .i64 q.s0) := hcq 3 _ rfl
          have a4 : wz.cell? ⟨qb, off + i * 6 + 4, none⟩ = some (.int .i64 q.i1) := hcq 4 _ rfl
          have a5 : wz.cell? ⟨qb, off + i * 6 + 5, none⟩ = some (.int .i64 q.s1) := hcq 5 _ rfl
          have a3' : wz.cell? ⟨qb, off + i * 6 + 2 + 1, none⟩ = some (.int .i64 q.s0) := hcq 3 _ rfl
          have a5' : wz.cell? ⟨qb, off + i * 6 + 4 + 1, none⟩ = some (.int .i64 q.s1) := hcq 5 _ rfl
          clear hq hcq hbl0
          obtain ⟨k1, hk1⟩ : ∃ b : Bool, (decide (q.i0 = (gi : Int)) && decide (q.s0 = sd)) = b := ⟨_, rfl⟩
          obtain ⟨k2, hk2⟩ : ∃ b : Bool, (decide (q.i1 = (gi : Int)) && decide (q.s1 = sd)) = b := ⟨_, rfl⟩
          have l1 : ∀ (d : Nat) (wv : World), (Op.equalIn (d + 2) 35 (.agg #[.int .i64 q.i0, .int .i64 q.s0]) (.agg #[.int .i64 gi, .int .i64 sd])).run Try.prog wv = .ok k1 wv := fun d wv => by rw [leg_eq, hk1]
          have l2 : ∀ (d : Nat) (wv : World), (Op.equalIn (d + 2) 35 (.agg #[.int .i64 q.i1, .int .i64 q.s1]) (.agg #[.int .i64 gi, .int .i64 sd])).run Try.prog wv = .ok k2 wv := fun d wv => by rw [leg_eq, hk2]
          have HF : Hid ((!legQ gi sd q) = (!(k1 || k2))) := Lib.hid (by unfold legQ; rw [hk1, hk2])
          have HSTEP := Lib.hid (filter_step (f := fun q => !legQ gi sd q) HQ.out)
          clear hk1 hk2
          cases k1 with
          | true =>
            go_wp2_with fail
            go_roundw
            case rel => exact ⟨jn, i + 1, rfl, by go_num, by omega, by rw [HSTEP.out, HF.out, ← HJ.out]; simp, T5.out, HRD.out, HRB.out⟩
            case measure => simp [intOf]; omega
          | false =>
          cases k2 with
          | true =>
            go_wp2_with fail
            go_roundw
            case rel => exact ⟨jn, i + 1, rfl, by go_num, by omega, by rw [HSTEP.out, HF.out, ← HJ.out]; simp, T5.out, HRD.out, HRB.out⟩
            case measure => simp [intOf]; omega
          | false =>
            have hbj : Bq[jn]? = some q := by rw [← HBQ.out, HJ.out]; exact filter_at HQ.out (by rw [HF.out]; rfl)
            have hjl := lt_of_get hbj
            obtain ⟨rb, ro, rfl, hbl1, hcr⟩ := HRB.out jn q hbj
            have e0 : wz.cell? ⟨rb, ro + jn * 6, none⟩ = some (.int .i64 q.price) := hcr 0 _ rfl
            have e1 : wz.cell? ⟨rb, ro + jn * 6 + 1, none⟩ = some (.int .i64 q.qty) := hcr 1 _ rfl
            have e2 : wz.cell? ⟨rb, ro + jn * 6 + 2, none⟩ = some (.int .i64 q.i0) := hcr 2 _ rfl
            have e3 : wz.cell? ⟨rb, ro + jn * 6 + 3, none⟩ = some (.int .i64 q.s0) := hcr 3 _ rfl
            have e4 : wz.cell? ⟨rb, ro + jn * 6 + 4, none⟩ = some (.int .i64 q.i1) := hcr 4 _ rfl
            have e5 : wz.cell? ⟨rb, ro + jn * 6 + 5, none⟩ = some (.int .i64 q.s1) := hcr 5 _ rfl
            have d1 : decide ((Bq.length : Int) ≤ (jn : Int)) = false := by simp; omega
            have d1' : decide (Bq.length ≤ jn) = false := by simp; omega
            have hjl' : (jn : Int) < (Bq.length : Int) := by omega
            clear hbj hbl1 hcr
            go_upto_region 18 with (fail)
            have hlegs := legs_self
            go_quiet (fail)
            clear a0 a1 a2 a3 a4 a5 a3' a5' e0 e1 e2 e3 e4 e5
            go_wp2_with fail
            go_roundw
            case rel => exact ⟨jn + 1, i + 1, by go_num, by go_num, by omega, by rw [HSTEP.out, HF.out, ← HJ.out]; simp, T5.out.next (Below.drewN_of _ _), HRD.out.below (Below.drewN_of _ _), HRB.out.below (Below.drewN_of _ _)⟩
            case measure => simp [intOf]; omega
        · obtain rfl : i = A.length := by omega
          have hje : jn = Bq.length := by rw [HJ.out, List.take_length, HBQ.out]
          subst hje
          go_wp2_with fail
          go_roundw
          case rel => exact ⟨s + 1, rfl, by omega, by omega, T5.out⟩
          case measure => simp [intOf]; omega
    · go_wp2_with fail
      refine (known14_any _).mono ?_
      rintro e w9 ⟨rfl, hb⟩
      have T9 := Lib.hid (T3.out.next hb)
      clear hb T3
      go_wp2_with fail
      go_ret
      exact ⟨by trivial, T9.out.l.bel⟩
end Go.Proofs.Ytilficlanliinaa
