/- The walk of cornhillref14.All. Printed by mk_rall.py. -/
import Derived.Test.YtilficlanliinaaJoin
import Derived.Test.YtilficlanliinaaRPrice
import Derived.Deep.DeepCutAuto
namespace Go.Proofs.Ytilficlanliinaa
open Go.RowKit

theorem join_two (p : Prod) (inst : Int) (ta : Option Addr) (c : Nat) (L : List Tp) (B : Nat) (v : Value) (O : List Qt) (w : World) (hT : RTP.Rd w ta L) (hv : RQT.Row w B v O) (hB : B ≤ w.heap.size) (ho : O.length ≤ 1000)
    (ai bi : Nat) (sa sb how : Int) (ha : ai < L.length) (hb : bi < L.length) (hsa : sa = 1 ∨ sa = 2) (hsb : sb = 1 ∨ sb = 2) (hok : ∀ x ∈ L, x.ok) (hh : how = 1 ∨ how = 0 ∨ how = -1) :
    Calls Try.prog 43 #[p.agg, .slice ta L.length c, .int .i64 inst, v, .agg #[.int .i64 ai, .int .i64 sa], .agg #[.int .i64 bi, .int .i64 sb], .int .i64 how] w fun e w' => ∃ v', e = .returned v' ∧ RQT.Row w' B v' (O ++ (joinQ L ai sa bi sb how).toList) ∧ Below w.heap.size w w' := by
  obtain ⟨ka, hka, rfl⟩ : ∃ ka : Nat, ka < 2 ∧ sa = (ka : Int) + 1 := by
    rcases hsa with rfl | rfl
    · exact ⟨0, by omega, rfl⟩
    · exact ⟨1, by omega, rfl⟩
  obtain ⟨kb, hkb, rfl⟩ : ∃ kb : Nat, kb < 2 ∧ sb = (kb : Int) + 1 := by
    rcases hsb with rfl | rfl
    · exact ⟨0, by omega, rfl⟩
    · exact ⟨1, by omega, rfl⟩
  have hx := List.getElem?_eq_getElem ha
  have hy := List.getElem?_eq_getElem hb
  exact join_any p inst ta c L B v O w hT hv hB ho ai bi ka kb how _ _ hx hy hka hkb (hok _ (List.mem_of_getElem? hx)) (hok _ (List.mem_of_getElem? hy)) hh
/-- where the document's All stands -/
structure RS (w w1 : World) (p : Prod) (ta : Option Addr) (L : List Tp) (O : List Qt) (v : Value) : Prop where
  bel : Below w.heap.size w w1
  box : Blk w1 w.heap.size 25 p.cells
  pv0 : PV w p
  row : RQT.Row w1 w.heap.size v O
  tops : RTP.Rd w ta L
section
variable {w w1 w2 : World} {p : Prod} {ta : Option Addr} {L : List Tp} {O O' : List Qt} {v v' : Value}
theorem RS.pv (h : RS w w1 p ta L O v) : PV w1 p := h.pv0.below h.bel
theorem RS.pc (h : RS w w1 p ta L O v) : PC w1 w.heap.size p := PC.of5 h.box
theorem RS.rd (h : RS w w1 p ta L O v) : RTP.Rd w1 ta L := h.tops.below h.bel
theorem RS.next (h : RS w w1 p ta L O v) (hb : Below w1.heap.size w1 w2) : RS w w2 p ta L O v := ⟨h.bel.trans (hb.mono h.bel.size), h.box.below hb, h.pv0, h.row.below hb, h.tops⟩
theorem RS.made (h : RS w w1 p ta L O v) (hr : RQT.Row w2 w.heap.size v' O') (hb : Below w1.heap.size w1 w2) : RS w w2 p ta L O' v' := ⟨h.bel.trans (hb.mono h.bel.size), h.box.below hb, h.pv0, hr, h.tops⟩
end
set_option maxRecDepth 100000 in
set_option maxHeartbeats 16000000 in
theorem rall_any (p : Prod) (inst side : Int) (ta : Option Addr) (c : Nat) (L : List Tp) (w : World) (hp : PV w p) (hT : RTP.Rd w ta L) (hok : ∀ x ∈ L, x.ok) (hL : L.length ≤ 1000000) :
    Calls Try.prog 29 #[p.agg, .slice ta L.length c, .int .i64 inst, .int .i64 side] w fun e w' => ∃ v, e = .returned v ∧ RQT.Row w' w.heap.size v (allP p L inst side) ∧ Below w.heap.size w w' := by
  have s1 : ∀ (w : World) (o : Obj), (w.alloc o).heap.size = w.heap.size + 1 := fun w o => by simp
  have hs0 : RS w (w.alloc (.cells #[.string p.code, .slice p.ma p.months.length p.mc, .int .i64 p.tick, .int .i64 p.low, .int .i64 p.high, .int .i64 p.wide, .int .i64 p.rule, .int .i64 p.top, .int .i64 p.least, .int .i64 p.part, .slice p.sa p.settle.length p.sc] 25)) p ta L [] (.slice none 0 0) := ⟨Below.allocN _ _, Blk.new _ _ _, hp, Lay.Row.nil _ _, hT⟩
  have HS0 := Lib.hid hs0
  have hck := rcheck_any p _ hs0.pv
  have HCO := Lib.hid fun wz (h : PV wz p) => rcount_inst_any p wz h
  unfold Prod.agg Prod.cells at hck HCO ⊢
  have HOK := Lib.hid hok
  have hcb := countP_bd p
  clear hp hT hok hs0
  obtain ⟨b0, b1, b2, b3, b4, b5, b6, b7, b8, b9, b10⟩ := HS0.out.pc
  by_cases hz : checkP p = 0
  case neg =>
    have HV : Hid (allP p L inst side = []) := Lib.hid (if_pos (.inl (countP_zero hz)))
    have hz1 : (checkP p != 0) = true := by rw [bne_iff_ne]; exact hz
    generalize checkP p = cp at *
    clear hz
    go_enter Try.func29, Try.ntmps29
    go_wp2_with fail
    refine hck.mono ?_
    rintro e w1 ⟨rfl, hb1⟩
    have HS := Lib.hid (HS0.out.next hb1)
    clear hck hb1 HS0 b0 b1 b2 b3 b4 b5 b6 b7 b8 b9 b10
    go_wp2_with fail
    go_ret
    exact ⟨_, rfl, by rw [HV.out]; exact Lay.Row.nil _ _, HS.out.bel⟩
  case pos =>
  rw [hz] at hck
  by_cases hbad : badAll p L inst side
  · have HV : Hid (allP p L inst side = []) := Lib.hid (if_pos hbad)
    have hpos := count_pos hz
    unfold badAll at hbad
    have hcs : ¬ (L.length : Int) = countP p ∨ ((L.length : Int) = countP p ∧ inst < 0) ∨ ((L.length : Int) = countP p ∧ ¬ inst < 0 ∧ countP p ≤ inst) ∨ ((L.length : Int) = countP p ∧ ¬ inst < 0 ∧ ¬ countP p ≤ inst ∧ ¬ side = 1 ∧ ¬ side = 2) := by omega
    clear hbad hz hpos
    generalize L.length = ln at *
    obtain ⟨n, hn⟩ : ∃ n : Int, countP p = n := ⟨_, rfl⟩
    rw [hn] at HCO hcs hcb
    clear hn
    rcases hcs with h | ⟨rfl, h⟩ | ⟨rfl, h1, h⟩ | ⟨rfl, h1, h2, h3, h4⟩
    · have e2 : ((ln : Int) != n) = true := by rw [bne_iff_ne]; exact h
      clear h
      go_enter Try.func29, Try.ntmps29
      go_wp2_with fail
      refine hck.mono ?_
      rintro e w1 ⟨rfl, hb1⟩
      have HS := Lib.hid (HS0.out.next hb1)
      clear hck hb1 HS0
      obtain ⟨b0, b1, b2, b3, b4, b5, b6, b7, b8, b9, b10⟩ := HS.out.pc
      go_wp2_with fail
      refine (HCO.out _ HS.out.pv).mono ?_
      rintro e w2 ⟨rfl, hb2⟩
      have HS2 := Lib.hid (HS.out.next hb2)
      clear hb2 HS b0 b1 b2 b3 b4 b5 b6 b7 b8 b9 b10
      go_wp2_with fail
      go_ret
      exact ⟨_, rfl, by rw [HV.out]; exact Lay.Row.nil _ _, HS2.out.bel⟩
    · go_enter Try.func29, Try.ntmps29
      go_wp2_with fail
      refine hck.mono ?_
      rintro e w1 ⟨rfl, hb1⟩
      have HS := Lib.hid (HS0.out.next hb1)
      clear hck hb1 HS0
      obtain ⟨b0, b1, b2, b3, b4, b5, b6, b7, b8, b9, b10⟩ := HS.out.pc
      go_wp2_with fail
      refine (HCO.out _ HS.out.pv).mono ?_
      rintro e w2 ⟨rfl, hb2⟩
      have HS2 := Lib.hid (HS.out.next hb2)
      clear hb2 HS b0 b1 b2 b3 b4 b5 b6 b7 b8 b9 b10
      go_wp2_with fail
      go_ret
      exact ⟨_, rfl, by rw [HV.out]; exact Lay.Row.nil _ _, HS2.out.bel⟩
    · go_enter Try.func29, Try.ntmps29
      go_wp2_with fail
      refine hck.mono ?_
      rintro e w1 ⟨rfl, hb1⟩
      have HS := Lib.hid (HS0.out.next hb1)
      clear hck hb1 HS0
      obtain ⟨b0, b1, b2, b3, b4, b5, b6, b7, b8, b9, b10⟩ := HS.out.pc
      go_wp2_with fail
      refine (HCO.out _ HS.out.pv).mono ?_
      rintro e w2 ⟨rfl, hb2⟩
      have HS2 := Lib.hid (HS.out.next hb2)
      clear hb2 HS b0 b1 b2 b3 b4 b5 b6 b7 b8 b9 b10
      go_wp2_with fail
      go_ret
      exact ⟨_, rfl, by rw [HV.out]; exact Lay.Row.nil _ _, HS2.out.bel⟩
    · have e3 : (side == 1) = false := by rw [beq_eq_false_iff_ne]; exact h3
      have e4 : (side == 2) = false := by rw [beq_eq_false_iff_ne]; exact h4
      have e5 : (side != 1) = true := by rw [bne_iff_ne]; exact h3
      have e6 : (side != 2) = true := by rw [bne_iff_ne]; exact h4
      clear h3 h4
      go_enter Try.func29, Try.ntmps29
      go_wp2_with fail
      refine hck.mono ?_
      rintro e w1 ⟨rfl, hb1⟩
      have HS := Lib.hid (HS0.out.next hb1)
      clear hck hb1 HS0
      obtain ⟨b0, b1, b2, b3, b4, b5, b6, b7, b8, b9, b10⟩ := HS.out.pc
      go_wp2_with fail
      refine (HCO.out _ HS.out.pv).mono ?_
      rintro e w2 ⟨rfl, hb2⟩
      have HS2 := Lib.hid (HS.out.next hb2)
      clear hb2 HS b0 b1 b2 b3 b4 b5 b6 b7 b8 b9 b10
      go_wp2_with fail
      go_ret
      exact ⟨_, rfl, by rw [HV.out]; exact Lay.Row.nil _ _, HS2.out.bel⟩
  · have HV0 := Lib.hid (show allP p L inst side = _ from if_neg hbad)
    unfold badAll at hbad
    have hlc : (L.length : Int) = countP p := by omega
    have hi0 : ¬ inst < 0 := by omega
    have hi1 : ¬ countP p ≤ inst := by omega
    have hsd : side = 1 ∨ side = 2 := by omega
    obtain ⟨i, rfl⟩ : ∃ i : Nat, inst = (i : Int) := ⟨inst.toNat, by omega⟩
    have HV := Lib.hid HV0.out
    have HLC := Lib.hid hlc
    have hi2 : ¬ (L.length : Int) ≤ (i : Int) := by omega
    have HI2 := Lib.hid hi2
    have HLEG := Lib.hid fun wz (h : PV wz p) => rlegs_any p i wz h
    have HSP := Lib.hid fun (a b : Int) wz (h : PV wz p) => rspread5_any p a b wz h
    have HLN := Lib.hid (check_len hz)
    have HZ := Lib.hid hz
    have HSD := Lib.hid hsd
    have HOTH := Lib.hid fun w => rother_two side w hsd
    have hsd2 : 3 - side = 1 ∨ 3 - side = 2 := by omega
    have HSD2 := Lib.hid hsd2
    unfold Prod.agg Prod.cells at HLEG HSP
    rw [← hlc] at HCO
    clear hbad hlc hi1 hz hcb hsd hsd2 HV0
    clear b0 b1 b2 b3 b4 b5 b6 b7 b8 b9 b10
    go_enter Try.func29, Try.ntmps29
    go_upto_region 1 with (fail)
    go_cut [46] (fun u wx => u = .bool false ∧ RS w wx p ta L [] (.slice none 0 0))
    case first =>
      have hlt : decide ((i : Int) < 0) = false := decide_eq_false (by omega)
      have hle : decide (L.length ≤ i) = false := decide_eq_false (by omega)
      have HLT := Lib.hid hlt
      have HLE := Lib.hid hle
      clear hlt hle
      rcases HSD.out with rfl | rfl
      all_goals
        obtain ⟨b0, b1, b2, b3, b4, b5, b6, b7, b8, b9, b10⟩ := HS0.out.pc
        go_wp2_with fail
        refine hck.mono ?_
        rintro e w1 ⟨rfl, hb1⟩
        have HS1 := Lib.hid (HS0.out.next hb1)
        clear hb1 b0 b1 b2 b3 b4 b5 b6 b7 b8 b9 b10
        obtain ⟨b0, b1, b2, b3, b4, b5, b6, b7, b8, b9, b10⟩ := HS1.out.pc
        go_wp2_with fail
        refine (HCO.out _ HS1.out.pv).mono ?_
        rintro e w2 ⟨rfl, hb2⟩
        have HS2 := Lib.hid (HS1.out.next hb2)
        clear hb2 b0 b1 b2 b3 b4 b5 b6 b7 b8 b9 b10
        go_wp2_with fail
        go_meet
        exact ⟨by first | rfl | (rw [HLT.out, HLE.out]; rfl), HS2.out⟩
    case rest =>
    obtain ⟨rfl, hS⟩ := hcut
    have HS2 := Lib.hid hS
    clear hS hck HS0 HCO hi2
    obtain ⟨b0, b1, b2, b3, b4, b5, b6, b7, b8, b9, b10⟩ := HS2.out.pc
    go_wp2_with fail
    refine (HLEG.out _ HS2.out.pv).mono ?_
    rintro e w3 ⟨rfl, hb⟩
    have HS3 := Lib.hid (HS2.out.next hb)
    clear hb b0 b1 b2 b3 b4 b5 b6 b7 b8 b9 b10 HS2 HLEG
    cases hsp : (legsP p i).2.2 with
    | false =>
      have HM := Lib.hid (show i < p.months.length by
        obtain ⟨i', h1, h2⟩ := legs_none (p := p) (inst := i) (by omega) (by have := HLC.out; have := HI2.out; omega) hsp
        unfold legsP at h1
        rw [if_neg (by have := HLC.out; have := HI2.out; omega)] at h1
        by_cases h3 : (i : Int) < p.months.length
        · omega
        · rw [if_neg h3] at h1; injection h1 with _ h1; injection h1 with _ h1; cases h1)
      have HV2 : Hid (allP p L i side = ups p L i side (p.months.length - (i + 1)) ++ downs p L i side i) := Lib.hid (by rw [HV.out, if_neg (by rw [hsp]; simp), Int.toNat_natCast])
      have him := HM.out
      have hmx : p.months.length ≤ 6 := HLN.out.2
      clear HV hsp hi0
      go_wp2_with fail
      go_loopw [12, 13] (fun o j w' => ∃ (k : Nat) (v : Value), o = v ∧ j = .int .i64 ((i : Int) + 1 + (k : Int)) ∧ i + 1 + k ≤ p.months.length ∧ RS w w' p ta L (ups p L i side k) v) (fun _ j _ => p.months.length - (intOf j).toNat)
      case atStart => exact ⟨0, _, rfl, congrArg (Value.int .i64) (by omega), by omega, HS3.out⟩
      case round =>
        clear HS3
        obtain ⟨k, v, ho, rfl, hk, hA⟩ := hrel
        replace ho := ho.symm
        subst ho
        obtain ⟨wz, rfl⟩ : ∃ wo : World, wo = wr := ⟨_, rfl⟩
        have HA := Lib.hid hA
        clear hA
        have y1 : IntKind.i64.wrap ((i : Int) + 1 + (k : Int) + 1) = (i : Int) + 1 + (k : Int) + 1 := IntWalk.i64_in _ (by omega)
        by_cases hkn : i + 1 + k < p.months.length
        · have hkn' : (i : Int) + 1 + (k : Int) < (p.months.length : Int) := by omega
          obtain ⟨a, hsp, ha1, ha2⟩ := spread_nat HZ.out (show i < i + 1 + k by omega) hkn
          have hs := HSP.out (i : Int) ((i : Int) + 1 + (k : Int)) _ HA.out.pv
          have hnn : ((i + 1 + k : Nat) : Int) = (i : Int) + 1 + (k : Int) := by omega
          rw [hnn] at hsp
          rw [hsp] at hs
          have hal : a < L.length := by have := HLC.out; omega
          have hbl : i + 1 + k < L.length := by have := HLC.out; omega
          have hlen := ups_len p L i side k
          have HUP : Hid (ups p L i side (k + 1) = ups p L i side k ++ (joinQ L (a : Int) side ((i : Int) + 1 + (k : Int)) side 1).toList) := Lib.hid (by
            show ups p L i side k ++ (mkQ L (spreadP p (i : Int) ((i + 1 + k : Nat) : Int)).1 side ((i + 1 + k : Nat) : Int) side false).toList = _
            rw [hnn, hsp]
            rfl)
          clear hsp ha1 ha2
          obtain ⟨b0, b1, b2, b3, b4, b5, b6, b7, b8, b9, b10⟩ := HA.out.pc
          go_wp2_with fail
          refine hs.mono ?_
          rintro e w4 ⟨rfl, hb⟩
          have HA4 := Lib.hid (HA.out.next hb)
          have hjn := join_two p i ta c L w.heap.size v _ w4 HA4.out.rd HA4.out.row HA4.out.bel.size (by omega : (ups p L i side k).length ≤ 1000) a (i + 1 + k) side side 1 hal hbl HSD.out HSD.out HOK.out (.inl rfl)
          rw [hnn] at hjn
          unfold Prod.agg Prod.cells at hjn
          have HJN := Lib.hid hjn
          clear hb hs hjn hnn HA b0 b1 b2 b3 b4 b5 b6 b7 b8 b9 b10
          obtain ⟨b0, b1, b2, b3, b4, b5, b6, b7, b8, b9, b10⟩ := HA4.out.pc
          go_wp2_with fail
          refine HJN.out.mono ?_
          rintro e w5 ⟨v', rfl, hr, hb⟩
          rw [← HUP.out] at hr
          have HA5 := Lib.hid (HA4.out.made hr hb)
          clear hr hb HJN HA4 b0 b1 b2 b3 b4 b5 b6 b7 b8 b9 b10
          go_wp2_with fail
          go_roundw
          case rel => exact ⟨k + 1, v', rfl, congrArg (Value.int .i64) (by omega), by omega, HA5.out⟩
          case measure => simp [intOf]; omega
        · have hkn' : ¬ (i : Int) + 1 + (k : Int) < (p.months.length : Int) := by omega
          obtain rfl : k = p.months.length - (i + 1) := by omega
          have HK6 : Hid (p.months.length - (i + 1) ≤ 6) := Lib.hid (by omega)
          have him2 : i ≤ 6 := by omega
          generalize p.months.length - (i + 1) = k at *
          obtain ⟨b0, b1, b2, b3, b4, b5, b6, b7, b8, b9, b10⟩ := HA.out.pc
          go_wp2_with fail
          clear b0 b1 b2 b3 b4 b5 b6 b7 b8 b9 b10
          go_loopw [12, 16] (fun o j w' => ∃ (m : Nat) (v : Value), o = v ∧ j = .int .i64 m ∧ m ≤ i ∧ RS w w' p ta L (ups p L i side k ++ downs p L i side m) v) (fun _ j _ => i - (intOf j).toNat)
          case atStart => exact ⟨0, v, rfl, rfl, Nat.zero_le _, by rw [show downs p L i side 0 = [] from rfl, List.append_nil]; exact HA.out⟩
          case round =>
            clear HA hk hkn hkn' y1
            obtain ⟨m, v2, ho, rfl, hm, hA⟩ := hrel
            replace ho := ho.symm
            subst ho
            obtain ⟨wy, rfl⟩ : ∃ wo : World, wo = wr := ⟨_, rfl⟩
            have HA := Lib.hid hA
            clear hA
            by_cases hmi : m < i
            · have hmi' : (m : Int) < (i : Int) := by omega
              obtain ⟨a, hsp, ha1, ha2⟩ := spread_nat HZ.out hmi him
              have hs := HSP.out (m : Int) (i : Int) _ HA.out.pv
              rw [hsp] at hs
              have hal : a < L.length := by have := HLC.out; omega
              have hbl : m < L.length := by have := HI2.out; omega
              have hlen : (ups p L i side k ++ downs p L i side m).length ≤ 1000 := by
                have h1 := ups_len p L i side k
                have h2 := downs_len p L i side m
                rw [List.length_append]
                have := HK6.out
                omega
              have HUP : Hid (ups p L i side k ++ downs p L i side (m + 1) = ups p L i side k ++ downs p L i side m ++ (joinQ L (a : Int) (3 - side) (m : Int) side 0).toList) := Lib.hid (by
                show ups p L i side k ++ (downs p L i side m ++ (mkQ L (spreadP p (m : Int) (i : Int)).1 (3 - side) (m : Int) side true).toList) = _
                rw [hsp, List.append_assoc]
                rfl)
              clear hsp ha1 ha2
              obtain ⟨b0, b1, b2, b3, b4, b5, b6, b7, b8, b9, b10⟩ := HA.out.pc
              go_wp2_with fail
              refine hs.mono ?_
              rintro e w4 ⟨rfl, hb⟩
              have HA4 := Lib.hid ((HA.out.next hb).next (Below.drewN_of w4 1))
              have hjn := join_two p i ta c L w.heap.size v2 _ (w4.drewN 1) HA4.out.rd HA4.out.row HA4.out.bel.size hlen a m (3 - side) side 0 hal hbl HSD2.out HSD.out HOK.out (.inr (.inl rfl))
              unfold Prod.agg Prod.cells at hjn
              have HJN := Lib.hid hjn
              clear hb hs hjn HA b0 b1 b2 b3 b4 b5 b6 b7 b8 b9 b10
              go_wp2_with fail
              refine wp_region_E (S := fun w' => w'.cell? ⟨w.heap.size, 0, none⟩ = some (.string p.code) ∧ w'.cell? ⟨w.heap.size, 1, none⟩ = some (.slice p.ma p.months.length p.mc) ∧ w'.cell? ⟨w.heap.size, 2, none⟩ = some (.int .i64 p.tick) ∧ w'.cell? ⟨w.heap.size, 3, none⟩ = some (.int .i64 p.low) ∧ w'.cell? ⟨w.heap.size, 4, none⟩ = some (.int .i64 p.high) ∧ w'.cell? ⟨w.heap.size, 5, none⟩ = some (.int .i64 p.wide) ∧ w'.cell? ⟨w.heap.size, 6, none⟩ = some (.int .i64 p.rule) ∧ w'.cell? ⟨w.heap.size, 7, none⟩ = some (.int .i64 p.top) ∧ w'.cell? ⟨w.heap.size, 8, none⟩ = some (.int .i64 p.least) ∧ w'.cell? ⟨w.heap.size, 9, none⟩ = some (.int .i64 p.part) ∧ w'.cell? ⟨w.heap.size, 10, none⟩ = some (.slice p.sa p.settle.length p.sc)) (by kernel_rfl) HA4.out.pc (fun hHeld => ?_)
              refine wpE_take (i := 0) (oi := ?oi3) (v := ?v3) ?hi3 (by kernel_rfl) (by kernel_rfl) (by kernel_rfl) (by kernel_rfl) ?hQ3 ?hy3 (by assumption) ?rest3
              case hi3 => (simp only [List.getElem?_toArray]; rfl)
              case hQ3 => exact fun _ _ _ h => h
              case hy3 => exact Or.inl ⟨by rfl, by (intro w hSw; (try dsimp only at hSw); go_simp; try with_reducible rfl)⟩
              try simp only [Act.put, List.setIfInBounds_toArray, List.set_cons_zero, List.set_cons_succ]
              refine wpE_take (i := 1) (oi := ?oi4) (v := ?v4) ?hi4 (by kernel_rfl) (by kernel_rfl) (by kernel_rfl) (by kernel_rfl) ?hQ4 ?hy4 (by assumption) ?rest4
              case hi4 => (simp only [List.getElem?_toArray]; rfl)
              case hQ4 => exact fun _ _ _ h => h
              case hy4 => exact Or.inl ⟨by rfl, by (intro w hSw; (try dsimp only at hSw); go_simp; try with_reducible rfl)⟩
              try simp only [Act.put, List.setIfInBounds_toArray, List.set_cons_zero, List.set_cons_succ]
              refine wpE_take (i := 2) (oi := ?oi5) (v := ?v5) ?hi5 (by kernel_rfl) (by kernel_rfl) (by kernel_rfl) (by kernel_rfl) ?hQ5 ?hy5 (by assumption) ?rest5
              case hi5 => (simp only [List.getElem?_toArray]; rfl)
              case hQ5 => exact fun _ _ _ h => h
              case hy5 => exact Or.inl ⟨by rfl, by (intro w hSw; (try dsimp only at hSw); go_simp; try with_reducible rfl)⟩
              try simp only [Act.put, List.setIfInBounds_toArray, List.set_cons_zero, List.set_cons_succ]
              refine wpE_take (i := 3) (oi := ?oi6) (v := ?v6) ?hi6 (by kernel_rfl) (by kernel_rfl) (by kernel_rfl) (by kernel_rfl) ?hQ6 ?hy6 (by assumption) ?rest6
              case hi6 => (simp only [List.getElem?_toArray]; rfl)
              case hQ6 => exact fun _ _ _ h => h
              case hy6 => exact Or.inl ⟨by rfl, by (intro w hSw; (try dsimp only at hSw); go_simp; try with_reducible rfl)⟩
              try simp only [Act.put, List.setIfInBounds_toArray, List.set_cons_zero, List.set_cons_succ]
              refine wpE_take (i := 4) (oi := ?oi7) (v := ?v7) ?hi7 (by kernel_rfl) (by kernel_rfl) (by kernel_rfl) (by kernel_rfl) ?hQ7 ?hy7 (by assumption) ?rest7
              case hi7 => (simp only [List.getElem?_toArray]; rfl)
              case hQ7 => exact fun _ _ _ h => h
              case hy7 => exact Or.inl ⟨by rfl, by (intro w hSw; (try dsimp only at hSw); go_simp; try with_reducible rfl)⟩
              try simp only [Act.put, List.setIfInBounds_toArray, List.set_cons_zero, List.set_cons_succ]
              refine wpE_take (i := 5) (oi := ?oi8) (v := ?v8) ?hi8 (by kernel_rfl) (by kernel_rfl) (by kernel_rfl) (by kernel_rfl) ?hQ8 ?hy8 (by assumption) ?rest8
              case hi8 => (simp only [List.getElem?_toArray]; rfl)
              case hQ8 => exact fun _ _ _ h => h
              case hy8 => exact Or.inl ⟨by rfl, by (intro w hSw; (try dsimp only at hSw); go_simp; try with_reducible rfl)⟩
              try simp only [Act.put, List.setIfInBounds_toArray, List.set_cons_zero, List.set_cons_succ]
              refine wpE_take (i := 8) (oi := ?oi9) (v := ?v9) ?hi9 (by kernel_rfl) (by kernel_rfl) (by kernel_rfl) (by kernel_rfl) ?hQ9 ?hy9 (by assumption) ?rest9
              case hi9 => (simp only [List.getElem?_toArray]; rfl)
              case hQ9 => exact fun _ _ _ h => h
              case hy9 => exact Or.inl ⟨by rfl, by (intro w hSw; (try dsimp only at hSw); go_simp; try with_reducible rfl)⟩
              try simp only [Act.put, List.setIfInBounds_toArray, List.set_cons_zero, List.set_cons_succ]
              refine wpE_take (i := 9) (oi := ?oi10) (v := ?v10) ?hi10 (by kernel_rfl) (by kernel_rfl) (by kernel_rfl) (by kernel_rfl) ?hQ10 ?hy10 (by assumption) ?rest10
              case hi10 => (simp only [List.getElem?_toArray]; rfl)
              case hQ10 => exact fun _ _ _ h => h
              case hy10 => exact Or.inl ⟨by rfl, by (intro w hSw; (try dsimp only at hSw); go_simp; try with_reducible rfl)⟩
              try simp only [Act.put, List.setIfInBounds_toArray, List.set_cons_zero, List.set_cons_succ]
              refine wpE_take (i := 10) (oi := ?oi11) (v := ?v11) ?hi11 (by kernel_rfl) (by kernel_rfl) (by kernel_rfl) (by kernel_rfl) ?hQ11 ?hy11 (by assumption) ?rest11
              case hi11 => (simp only [List.getElem?_toArray]; rfl)
              case hQ11 => exact fun _ _ _ h => h
              case hy11 => exact Or.inl ⟨by rfl, by (intro w hSw; (try dsimp only at hSw); go_simp; try with_reducible rfl)⟩
              try simp only [Act.put, List.setIfInBounds_toArray, List.set_cons_zero, List.set_cons_succ]
              refine wpE_one (i := 6) (o := ?o22) ?ho22 (by kernel_rfl) (fun K hK => ?_)
              case ho22 => (simp only [List.getElem?_toArray]; rfl)
              go_simp
              go_at_call 44
              refine (HOTH.out _).mono ?_
              rintro e w4' ⟨rfl, rfl⟩
              refine hK.out _ _ HA4.out.pc (fun hHeld => ?_)
              clear hK K
              refine wpE_take (i := 7) (oi := ?oi12) (v := ?v12) ?hi12 (by kernel_rfl) (by kernel_rfl) (by kernel_rfl) (by kernel_rfl) ?hQ12 ?hy12 (by assumption) ?rest12
              case hi12 => (simp only [List.getElem?_toArray]; rfl)
              case hQ12 => exact fun _ _ _ h => h
              case hy12 => exact Or.inl ⟨by rfl, by (intro w hSw; (try dsimp only at hSw); go_simp; try with_reducible rfl)⟩
              try simp only [Act.put, List.setIfInBounds_toArray, List.set_cons_zero, List.set_cons_succ]
              refine wpE_one (i := 11) (o := ?o23) ?ho23 (by kernel_rfl) (fun K hK => ?_)
              case ho23 => (simp only [List.getElem?_toArray]; rfl)
              go_simp
              go_at_call 43
              refine HJN.out.mono ?_
              rintro e w5 ⟨v', rfl, hr, hb⟩
              rw [← HUP.out] at hr
              have HA5 := Lib.hid (HA4.out.made hr hb)
              clear hr hb HJN HA4
              refine hK.out _ _ HA5.out.pc (fun hHeld => ?_)
              clear hK K
              refine wpE_of_held _ _ _ _ ?_
              refine wpAnyH_take (i := 12) (oi := ?oi1) (v := ?v1) ?hi1 (by kernel_rfl) (by kernel_rfl) (by kernel_rfl) ?hQ1 ?hy1 (by assumption) ?rest1
              case hi1 => (simp only [List.getElem?_toArray]; rfl)
              case hQ1 => exact fun _ _ _ h => h
              case hy1 => exact Or.inl ⟨by rfl, by (intro w hSw; (try dsimp only at hSw); go_simp; try with_reducible rfl)⟩
              try simp only [Act.put, List.setIfInBounds_toArray, List.set_cons_zero, List.set_cons_succ]
              refine wpAnyH_done (by kernel_rfl) ?_ _
              clear hHeld
              go_wp2_with fail
              go_roundw
              case rel => exact ⟨m + 1, v', rfl, by go_num, by omega, HA5.out⟩
              case measure => simp [intOf]; omega
            · obtain rfl : m = i := by omega
              have hrow := HA.out.row
              rw [← HV2.out] at hrow
              have HR := Lib.hid hrow
              have HBL := Lib.hid HA.out.bel
              clear hrow HA
              go_wp2_with fail
              go_ret
              exact ⟨_, rfl, HR.out, HBL.out⟩
    | true =>
      obtain ⟨_, n1, n2, hlg, hij, hjn, _, _⟩ := legs_some hsp
      have hal : n1 < L.length := by have := HLC.out; have := countP_some HZ.out; have := countN_bd p.months.length HLN.out.2; omega
      have hbl : n2 < L.length := by have := HLC.out; have := countP_some HZ.out; have := countN_bd p.months.length HLN.out.2; omega
      have HV2 : Hid (allP p L i side = [] ++ (joinQ L (n1 : Int) side (n2 : Int) (3 - side) (-1)).toList) := Lib.hid (by rw [HV.out, if_pos hsp, hlg]; rfl)
      rw [hlg]
      have HA4 := Lib.hid (HS3.out.next (Below.drewN_of w3 1))
      have hjn := join_two p i ta c L w.heap.size (.slice none 0 0) [] (w3.drewN 1) HA4.out.rd HA4.out.row HA4.out.bel.size (Nat.zero_le _) n1 n2 side (3 - side) (-1) hal hbl HSD.out HSD2.out HOK.out (.inr (.inr rfl))
      rw [← HV2.out] at hjn
      unfold Prod.agg Prod.cells at hjn
      have HJN := Lib.hid hjn
      clear hsp hlg HV hij hjn HSP HI2 HS3
      go_wp2_with fail
      refine wp_region_E (S := fun w' => w'.cell? ⟨w.heap.size, 0, none⟩ = some (.string p.code) ∧ w'.cell? ⟨w.heap.size, 1, none⟩ = some (.slice p.ma p.months.length p.mc) ∧ w'.cell? ⟨w.heap.size, 2, none⟩ = some (.int .i64 p.tick) ∧ w'.cell? ⟨w.heap.size, 3, none⟩ = some (.int .i64 p.low) ∧ w'.cell? ⟨w.heap.size, 4, none⟩ = some (.int .i64 p.high) ∧ w'.cell? ⟨w.heap.size, 5, none⟩ = some (.int .i64 p.wide) ∧ w'.cell? ⟨w.heap.size, 6, none⟩ = some (.int .i64 p.rule) ∧ w'.cell? ⟨w.heap.size, 7, none⟩ = some (.int .i64 p.top) ∧ w'.cell? ⟨w.heap.size, 8, none⟩ = some (.int .i64 p.least) ∧ w'.cell? ⟨w.heap.size, 9, none⟩ = some (.int .i64 p.part) ∧ w'.cell? ⟨w.heap.size, 10, none⟩ = some (.slice p.sa p.settle.length p.sc)) (by kernel_rfl) HA4.out.pc (fun hHeld => ?_)
      refine wpE_take (i := 0) (oi := ?oi13) (v := ?v13) ?hi13 (by kernel_rfl) (by kernel_rfl) (by kernel_rfl) (by kernel_rfl) ?hQ13 ?hy13 (by assumption) ?rest13
      case hi13 => (simp only [List.getElem?_toArray]; rfl)
      case hQ13 => exact fun _ _ _ h => h
      case hy13 => exact Or.inl ⟨by rfl, by (intro w hSw; (try dsimp only at hSw); go_simp; try with_reducible rfl)⟩
      try simp only [Act.put, List.setIfInBounds_toArray, List.set_cons_zero, List.set_cons_succ]
      refine wpE_take (i := 1) (oi := ?oi14) (v := ?v14) ?hi14 (by kernel_rfl) (by kernel_rfl) (by kernel_rfl) (by kernel_rfl) ?hQ14 ?hy14 (by assumption) ?rest14
      case hi14 => (simp only [List.getElem?_toArray]; rfl)
      case hQ14 => exact fun _ _ _ h => h
      case hy14 => exact Or.inl ⟨by rfl, by (intro w hSw; (try dsimp only at hSw); go_simp; try with_reducible rfl)⟩
      try simp only [Act.put, List.setIfInBounds_toArray, List.set_cons_zero, List.set_cons_succ]
      refine wpE_take (i := 2) (oi := ?oi15) (v := ?v15) ?hi15 (by kernel_rfl) (by kernel_rfl) (by kernel_rfl) (by kernel_rfl) ?hQ15 ?hy15 (by assumption) ?rest15
      case hi15 => (simp only [List.getElem?_toArray]; rfl)
      case hQ15 => exact fun _ _ _ h => h
      case hy15 => exact Or.inl ⟨by rfl, by (intro w hSw; (try dsimp only at hSw); go_simp; try with_reducible rfl)⟩
      try simp only [Act.put, List.setIfInBounds_toArray, List.set_cons_zero, List.set_cons_succ]
      refine wpE_take (i := 3) (oi := ?oi16) (v := ?v16) ?hi16 (by kernel_rfl) (by kernel_rfl) (by kernel_rfl) (by kernel_rfl) ?hQ16 ?hy16 (by assumption) ?rest16
      case hi16 => (simp only [List.getElem?_toArray]; rfl)
      case hQ16 => exact fun _ _ _ h => h
      case hy16 => exact Or.inl ⟨by rfl, by (intro w hSw; (try dsimp only at hSw); go_simp; try with_reducible rfl)⟩
      try simp only [Act.put, List.setIfInBounds_toArray, List.set_cons_zero, List.set_cons_succ]
      refine wpE_take (i := 4) (oi := ?oi17) (v := ?v17) ?hi17 (by kernel_rfl) (by kernel_rfl) (by kernel_rfl) (by kernel_rfl) ?hQ17 ?hy17 (by assumption) ?rest17
      case hi17 => (simp only [List.getElem?_toArray]; rfl)
      case hQ17 => exact fun _ _ _ h => h
      case hy17 => exact Or.inl ⟨by rfl, by (intro w hSw; (try dsimp only at hSw); go_simp; try with_reducible rfl)⟩
      try simp only [Act.put, List.setIfInBounds_toArray, List.set_cons_zero, List.set_cons_succ]
      refine wpE_take (i := 5) (oi := ?oi18) (v := ?v18) ?hi18 (by kernel_rfl) (by kernel_rfl) (by kernel_rfl) (by kernel_rfl) ?hQ18 ?hy18 (by assumption) ?rest18
      case hi18 => (simp only [List.getElem?_toArray]; rfl)
      case hQ18 => exact fun _ _ _ h => h
      case hy18 => exact Or.inl ⟨by rfl, by (intro w hSw; (try dsimp only at hSw); go_simp; try with_reducible rfl)⟩
      try simp only [Act.put, List.setIfInBounds_toArray, List.set_cons_zero, List.set_cons_succ]
      refine wpE_take (i := 6) (oi := ?oi19) (v := ?v19) ?hi19 (by kernel_rfl) (by kernel_rfl) (by kernel_rfl) (by kernel_rfl) ?hQ19 ?hy19 (by assumption) ?rest19
      case hi19 => (simp only [List.getElem?_toArray]; rfl)
      case hQ19 => exact fun _ _ _ h => h
      case hy19 => exact Or.inl ⟨by rfl, by (intro w hSw; (try dsimp only at hSw); go_simp; try with_reducible rfl)⟩
      try simp only [Act.put, List.setIfInBounds_toArray, List.set_cons_zero, List.set_cons_succ]
      refine wpE_take (i := 7) (oi := ?oi20) (v := ?v20) ?hi20 (by kernel_rfl) (by kernel_rfl) (by kernel_rfl) (by kernel_rfl) ?hQ20 ?hy20 (by assumption) ?rest20
      case hi20 => (simp only [List.getElem?_toArray]; rfl)
      case hQ20 => exact fun _ _ _ h => h
      case hy20 => exact Or.inl ⟨by rfl, by (intro w hSw; (try dsimp only at hSw); go_simp; try with_reducible rfl)⟩
      try simp only [Act.put, List.setIfInBounds_toArray, List.set_cons_zero, List.set_cons_succ]
      refine wpE_one (i := 8) (o := ?o24) ?ho24 (by kernel_rfl) (fun K hK => ?_)
      case ho24 => (simp only [List.getElem?_toArray]; rfl)
      go_simp
      go_at_call 44
      refine (HOTH.out _).mono ?_
      rintro e w4' ⟨rfl, rfl⟩
      refine hK.out _ _ HA4.out.pc (fun hHeld => ?_)
      clear hK K
      refine wpE_take (i := 9) (oi := ?oi21) (v := ?v21) ?hi21 (by kernel_rfl) (by kernel_rfl) (by kernel_rfl) (by kernel_rfl) ?hQ21 ?hy21 (by assumption) ?rest21
      case hi21 => (simp only [List.getElem?_toArray]; rfl)
      case hQ21 => exact fun _ _ _ h => h
      case hy21 => exact Or.inl ⟨by rfl, by (intro w hSw; (try dsimp only at hSw); go_simp; try with_reducible rfl)⟩
      try simp only [Act.put, List.setIfInBounds_toArray, List.set_cons_zero, List.set_cons_succ]
      refine wpE_one (i := 10) (o := ?o25) ?ho25 (by kernel_rfl) (fun K hK => ?_)
      case ho25 => (simp only [List.getElem?_toArray]; rfl)
      go_simp
      go_at_call 43
      refine HJN.out.mono ?_
      rintro e w5 ⟨v', rfl, hr, hb⟩
      have HA5 := Lib.hid (HA4.out.made hr hb)
      clear hr hb HJN HA4
      refine hK.out _ _ HA5.out.pc (fun hHeld => ?_)
      clear hK K
      refine wpE_of_held _ _ _ _ ?_
      refine wpAnyH_take (i := 11) (oi := ?oi2) (v := ?v2) ?hi2 (by kernel_rfl) (by kernel_rfl) (by kernel_rfl) ?hQ2 ?hy2 (by assumption) ?rest2
      case hi2 => (simp only [List.getElem?_toArray]; rfl)
      case hQ2 => exact fun _ _ _ h => h
      case hy2 => exact Or.inl ⟨by rfl, by (intro w hSw; (try dsimp only at hSw); go_simp; try with_reducible rfl)⟩
      try simp only [Act.put, List.setIfInBounds_toArray, List.set_cons_zero, List.set_cons_succ]
      refine wpAnyH_done (by kernel_rfl) ?_ _
      clear hHeld
      go_wp2_with fail
      go_ret
      exact ⟨_, rfl, HA5.out.row, HA5.out.bel⟩
end Go.Proofs.Ytilficlanliinaa
