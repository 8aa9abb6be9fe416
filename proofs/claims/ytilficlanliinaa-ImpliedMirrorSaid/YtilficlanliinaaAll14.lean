/- The walk of implied.All. -/
import Derived.Test.YtilficlanliinaaAllP
import Derived.Deep.DeepCutAuto
namespace Go.Proofs.Ytilficlanliinaa
open Go.RowKit

theorem mkQ_legs {L : List Tp} {ai sa bi sb : Int} {less : Bool} {q : Qt} (h : mkQ L ai sa bi sb less = some q) : q.i0 = ai ∧ q.s0 = sa ∧ q.i1 = bi ∧ q.s1 = sb := by
  unfold mkQ at h
  split at h
  · rename_i x y _ _
    split at h
    · dsimp only at h
      generalize (if less = true then subP (y.price sb) (x.price sa) else addP (x.price sa) (y.price sb)) = r at h
      split at h
      · injection h with h
        subst h
        exact ⟨rfl, rfl, rfl, rfl⟩
      · cases h
    · cases h
  · cases h
/-- a cell of a row of quotes stored, so that it is another quote -/
theorem row_set {w : World} {B g c : Nat} {L : List Qt} (h : QT.Row w B (.slice (some ⟨g, 0, none⟩) L.length c) L) (j k : Nat) (e y : Qt) (u : Value) (hj : L[j]? = some e) (hk : k < 6) (hy : y.cells = e.cells.set k u) :
    QT.Row (w.setCell ⟨g, j * 6 + k, none⟩ u) B (.slice (some ⟨g, 0, none⟩) L.length c) (L.set j y) := by
  have hjl := lt_of_get hj
  obtain ⟨_, hje⟩ := get_of hj
  rcases h.2 with ⟨hv, _⟩ | ⟨g', cap, cur, hv, hb, hh, h1, h2, h3, h4⟩
  · injection hv with hv; cases hv
  · injection hv with hv hn hc
    injection hv with hv
    injection hv with hv
    subst hv
    subst hc
    have hblk : Blk w g QT.t cur := hh
    refine ⟨?_, .inr ⟨g, c, cur.setIfInBounds (j * 6 + k) u, ?_, hb, hblk.set_ (j * 6 + k) u, ?_, h2, ?_, ?_⟩⟩
    · rw [fm_length QT.cells QT.m QT.len]
    · rw [List.length_set]
    · rw [List.length_set]; exact h1
    · rw [Array.size_setIfInBounds]; exact h3
    · have hfs := fm_set QT.cells QT.m QT.len u y L j k hjl hk (by rw [hje]; exact hy)
      rw [← hfs, ← h4, Array.toList_setIfInBounds, List.length_set, List.take_set]
      congr 1

theorem row_swap {w : World} {B g c : Nat} {q : Qt} {n1 n2 sd : Int} (h : QT.Row w B (.slice (some ⟨g, 0, none⟩) 1 c) [q]) (hl : q.i0 = n2 ∧ q.s0 = 3 - sd ∧ q.i1 = n1 ∧ q.s1 = sd) :
    QT.Row ((((w.setCell ⟨g, 2, none⟩ (.int .i64 n1)).setCell ⟨g, 3, none⟩ (.int .i64 sd)).setCell ⟨g, 4, none⟩ (.int .i64 n2)).setCell ⟨g, 5, none⟩ (.int .i64 (3 - sd))) B (.slice (some ⟨g, 0, none⟩) 1 c) [swapQ q] := by
  have h1 := row_set (L := [q]) h 0 2 q { q with i0 := n1 } (.int .i64 n1) rfl (by omega) rfl
  have h2 := row_set (L := [{ q with i0 := n1 }]) h1 0 3 { q with i0 := n1 } { q with i0 := n1, s0 := sd } (.int .i64 sd) rfl (by omega) rfl
  have h3 := row_set (L := [{ q with i0 := n1, s0 := sd }]) h2 0 4 { q with i0 := n1, s0 := sd } { q with i0 := n1, s0 := sd, i1 := n2 } (.int .i64 n2) rfl (by omega) rfl
  have h4 := row_set (L := [{ q with i0 := n1, s0 := sd, i1 := n2 }]) h3 0 5 { q with i0 := n1, s0 := sd, i1 := n2 } { q with i0 := n1, s0 := sd, i1 := n2, s1 := 3 - sd } (.int .i64 (3 - sd)) rfl (by omega) rfl
  have e : swapQ q = { q with i0 := n1, s0 := sd, i1 := n2, s1 := 3 - sd } := by
    unfold swapQ
    rw [hl.1, hl.2.1, hl.2.2.1, hl.2.2.2]
  rw [e]
  exact h4
theorem keeps4 (w : World) (g : Nat) (u2 u3 u4 u5 : Value) : Keeps (fun k => k = g) w ((((w.setCell ⟨g, 2, none⟩ u2).setCell ⟨g, 3, none⟩ u3).setCell ⟨g, 4, none⟩ u4).setCell ⟨g, 5, none⟩ u5) :=
  ((((Keeps.refl (fun k => k = g) w).setCell (p := ⟨g, 2, none⟩) (fun _ => rfl) u2).setCell (p := ⟨g, 3, none⟩) (fun _ => rfl) u3).setCell (p := ⟨g, 4, none⟩) (fun _ => rfl) u4).setCell (p := ⟨g, 5, none⟩) (fun _ => rfl) u5
set_option maxRecDepth 100000 in
set_option maxHeartbeats 16000000 in
theorem all_any (p : Prod) (inst side : Int) (ta : Option Addr) (c : Nat) (L : List Tp) (w : World) (hp : PV w p) (hT : TP.Rd w ta L) (hok : ∀ x ∈ L, x.ok) (hL : L.length ≤ 1000000) :
    Calls Try.prog 17 #[p.agg, .slice ta L.length c, .int .i64 inst, .int .i64 side] w fun e w' => ∃ v, e = .returned v ∧ QT.Row w' w.heap.size v (allP p L inst side) ∧ Below w.heap.size w w' := by
  have s1 : ∀ (w : World) (o : Obj), (w.alloc o).heap.size = w.heap.size + 1 := fun w o => by simp
  have hs0 := St.new hp
  unfold Prod.cells at hs0
  have HS0 := Lib.hid hs0
  have hck := count_inst_any p _ hs0.pv
  unfold Prod.agg Prod.cells at hck ⊢
  have HPV := Lib.hid hp
  have HT := Lib.hid hT
  have HOK := Lib.hid hok
  clear hp hs0 hT hok
  have hcb := countP_bd p
  by_cases hbad : badAll p L inst side
  · have HV : Hid (allP p L inst side = []) := Lib.hid (if_pos hbad)
    unfold badAll at hbad
    have hcs : countP p = 0 ∨ (¬ countP p = 0 ∧ ¬ (L.length : Int) = countP p) ∨ (¬ countP p = 0 ∧ (L.length : Int) = countP p ∧ inst < 0) ∨ (¬ countP p = 0 ∧ (L.length : Int) = countP p ∧ ¬ inst < 0 ∧ countP p ≤ inst) ∨ (¬ countP p = 0 ∧ (L.length : Int) = countP p ∧ ¬ inst < 0 ∧ ¬ countP p ≤ inst ∧ ¬ side = 1 ∧ ¬ side = 2) := by omega
    clear hbad
    generalize L.length = ln at *
    obtain ⟨n, hn⟩ : ∃ n : Int, countP p = n := ⟨_, rfl⟩
    rw [hn] at hck hcs hcb
    clear hn
    rcases hcs with rfl | ⟨h0, h⟩ | ⟨h0, rfl, h⟩ | ⟨h0, rfl, h1, h⟩ | ⟨h0, rfl, h1, h2, h3, h4⟩
    · go_enter Try.func17, Try.ntmps17
      go_wp2_with fail
      refine hck.mono ?_
      rintro e w1 ⟨rfl, hb1⟩
      have HS := Lib.hid (HS0.out.next hb1)
      clear hck hb1 HS0
      go_wp2_with fail
      go_ret
      exact ⟨_, rfl, by rw [HV.out]; exact Lay.Row.nil _ _, HS.out.bel⟩
    · have e1 : (n == 0) = false := by rw [beq_eq_false_iff_ne]; exact h0
      have e2 : ((ln : Int) != n) = true := by rw [bne_iff_ne]; exact h
      clear h0 h
      go_enter Try.func17, Try.ntmps17
      go_wp2_with fail
      refine hck.mono ?_
      rintro e w1 ⟨rfl, hb1⟩
      have HS := Lib.hid (HS0.out.next hb1)
      clear hck hb1 HS0
      go_wp2_with fail
      go_ret
      exact ⟨_, rfl, by rw [HV.out]; exact Lay.Row.nil _ _, HS.out.bel⟩
    all_goals
      have e0 : ¬ ln = 0 := by omega
      have e1 : (ln == 0) = false := by rw [beq_eq_false_iff_ne]; exact e0
      have e2 : ((ln : Int) == 0) = false := by rw [beq_eq_false_iff_ne]; exact h0
      clear h0
    · go_enter Try.func17, Try.ntmps17
      go_wp2_with fail
      refine hck.mono ?_
      rintro e w1 ⟨rfl, hb1⟩
      have HS := Lib.hid (HS0.out.next hb1)
      clear hck hb1 HS0
      go_wp2_with fail
      go_ret
      exact ⟨_, rfl, by rw [HV.out]; exact Lay.Row.nil _ _, HS.out.bel⟩
    · go_enter Try.func17, Try.ntmps17
      go_wp2_with fail
      refine hck.mono ?_
      rintro e w1 ⟨rfl, hb1⟩
      have HS := Lib.hid (HS0.out.next hb1)
      clear hck hb1 HS0
      go_wp2_with fail
      go_ret
      exact ⟨_, rfl, by rw [HV.out]; exact Lay.Row.nil _ _, HS.out.bel⟩
    · have e3 : (side == 1) = false := by rw [beq_eq_false_iff_ne]; exact h3
      have e4 : (side == 2) = false := by rw [beq_eq_false_iff_ne]; exact h4
      have e5 : (side != 1) = true := by rw [bne_iff_ne]; exact h3
      have e6 : (side != 2) = true := by rw [bne_iff_ne]; exact h4
      clear h3 h4
      go_enter Try.func17, Try.ntmps17
      go_wp2_with fail
      refine hck.mono ?_
      rintro e w1 ⟨rfl, hb1⟩
      have HS := Lib.hid (HS0.out.next hb1)
      clear hck hb1 HS0
      go_wp2_with fail
      go_ret
      exact ⟨_, rfl, by rw [HV.out]; exact Lay.Row.nil _ _, HS.out.bel⟩
  · unfold badAll at hbad
    have hn0 : ¬ countP p = 0 := by omega
    have hlc : (L.length : Int) = countP p := by omega
    have hi0 : ¬ inst < 0 := by omega
    have hi1 : ¬ countP p ≤ inst := by omega
    have hsd : side = 1 ∨ side = 2 := by omega
    have hz : checkP p = 0 := count_ne hn0
    have HBAD : Hid (¬ badAll p L inst side) := Lib.hid (by unfold badAll; omega)
    obtain ⟨i, rfl⟩ : ∃ i : Nat, inst = (i : Int) := ⟨inst.toNat, by omega⟩
    have HV : Hid (allP p L i side = _) := Lib.hid (if_neg HBAD.out)
    have hx0 : Blk (w.alloc (.cells #[.string p.code, .slice p.ma p.months.length p.mc, .int .i64 p.tick, .int .i64 p.low, .int .i64 p.high, .int .i64 p.wide, .int .i64 p.rule, .int .i64 p.top, .int .i64 p.least, .int .i64 p.part, .slice p.sa p.settle.length p.sc] 25)) w.heap.size 25 p.cells := Blk.new _ _ _
    have HX0 := Lib.hid hx0
    have HB0 : Hid (Below w.heap.size w (w.alloc (.cells #[.string p.code, .slice p.ma p.months.length p.mc, .int .i64 p.tick, .int .i64 p.low, .int .i64 p.high, .int .i64 p.wide, .int .i64 p.rule, .int .i64 p.top, .int .i64 p.least, .int .i64 p.part, .slice p.sa p.settle.length p.sc] 25))) := Lib.hid (Below.allocN _ _)
    have HLC := Lib.hid hlc
    have hi2 : ¬ (L.length : Int) ≤ (i : Int) := by omega
    have HI2 := Lib.hid hi2
    have e0 : ¬ L.length = 0 := by omega
    have e1 : (L.length == 0) = false := by rw [beq_eq_false_iff_ne]; exact e0
    have e2 : ((L.length : Int) == 0) = false := by rw [beq_eq_false_iff_ne]; omega
    have HLEG := Lib.hid fun wz (h : PV wz p) => legs_any p i wz h
    have HSP := Lib.hid fun (a b : Int) wz (h : PV wz p) => spread5_any p a b wz h
    have HLN := Lib.hid (check_len hz)
    have HZ := Lib.hid hz
    have HSD := Lib.hid hsd
    unfold Prod.agg Prod.cells at HLEG HSP
    rw [← hlc] at hck
    clear hbad hn0 hlc hi1 hx0 HBAD HS0 hz hcb hsd
    go_enter Try.func17, Try.ntmps17
    go_wp2_with fail
    refine hck.mono ?_
    rintro e w1 ⟨rfl, hb1⟩
    have HX1 := Lib.hid (HX0.out.below hb1)
    have HB1 := Lib.hid (HB0.out.trans (hb1.mono HB0.out.size))
    clear hck hb1 HX0 HB0
    go_upto_region 2 with (fail)
    go_cut [49] (fun u wx => u = .bool false ∧ w1 = wx)
    case first =>
      rcases HSD.out with rfl | rfl
      all_goals
        go_wp2_with fail
        go_meet
        exact ⟨by (have h1 : decide ((i : Int) < 0) = false := decide_eq_false (by omega)); (have h2 : decide (L.length ≤ i) = false := decide_eq_false (by omega)); rw [h1, h2]; rfl, rfl⟩
    case rest =>
    obtain ⟨rfl, rfl⟩ := hcut
    clear e0 e1 e2 hi2
    go_upto_region 5 with (fail)
    have hA : AllS w (w1.alloc (.cells #[.slice ta L.length c, .slice none 0 0] 60)) p w1.heap.size ta c L [] (.slice none 0 0) :=
      ⟨⟨HB1.out.trans ((Below.allocN _ _).mono HB1.out.size), Blk.new _ _ _, Lay.Row.nil _ _, HT.out, HB1.out.size⟩, HX1.out.alloc _, HPV.out⟩
    have HA := Lib.hid hA
    clear hA HX1 HT
    generalize w1.alloc (.cells #[.slice ta L.length c, .slice none 0 0] 60) = w2 at *
    obtain ⟨gm, hgm⟩ : ∃ gm, w1.heap.size = gm := ⟨_, rfl⟩
    rw [hgm] at HA ⊢
    clear hgm HB1
    obtain ⟨b0, b1, b2, b3, b4, b5, b6, b7, b8, b9, b10⟩ := HA.out.pc
    go_wp2_with fail
    refine (HLEG.out _ HA.out.pv).mono ?_
    rintro e w3 ⟨rfl, hb⟩
    have HA3 := Lib.hid (HA.out.next hb)
    clear hb b0 b1 b2 b3 b4 b5 b6 b7 b8 b9 b10 HA HLEG
    cases hsp : (legsP p i).2.2 with
    | false =>
      have HM := Lib.hid (show i < p.months.length by
        obtain ⟨i', h1, h2⟩ := legs_none (p := p) (inst := i) (by omega) (by have := HLC.out; have := HI2.out; omega) hsp
        unfold legsP at h1
        rw [if_neg (by have := HLC.out; have := HI2.out; omega)] at h1
        by_cases h3 : (i : Int) < p.months.length
        · omega
        · rw [if_neg h3] at h1; injection h1 with _ h1; injection h1 with _ h1; cases h1)
      have HV2 : Hid (allP p L i side = ups p L i side (p.months.length - (i + 1)) ++ downs p L i side i) := Lib.hid (by rw [HV.out, if_neg (by rw [hsp]; simp), Int.toNat_natCast])
      have him := HM.out
      have hmx : p.months.length ≤ 6 := HLN.out.2
      clear HV hsp hi0
      go_wp2_with fail
      go_loopw [17] (fun j w' => ∃ (k : Nat) (v : Value), j = .int .i64 ((i : Int) + 1 + (k : Int)) ∧ i + 1 + k ≤ p.months.length ∧ AllS w w' p gm ta c L (ups p L i side k) v) (fun j _ => p.months.length - (intOf j).toNat)
      case atStart => exact ⟨0, _, congrArg (Value.int .i64) (by omega), by omega, HA3.out⟩
      case round =>
        clear HA3
        obtain ⟨k, v, rfl, hk, hA⟩ := hrel
        obtain ⟨wz, rfl⟩ : ∃ wo : World, wo = wr := ⟨_, rfl⟩
        have HA := Lib.hid hA
        clear hA
        have y1 : IntKind.i64.wrap ((i : Int) + 1 + (k : Int) + 1) = (i : Int) + 1 + (k : Int) + 1 := IntWalk.i64_in _ (by omega)
        by_cases hkn : i + 1 + k < p.months.length
        · have hkn' : (i : Int) + 1 + (k : Int) < (p.months.length : Int) := by omega
          obtain ⟨a, hsp, ha1, ha2⟩ := spread_nat HZ.out (show i < i + 1 + k by omega) hkn
          have hs := HSP.out (i : Int) ((i : Int) + 1 + (k : Int)) _ HA.out.pv
          have hnn : ((i + 1 + k : Nat) : Int) = (i : Int) + 1 + (k : Int) := by omega
          rw [hnn] at hsp
          rw [hsp] at hs
          have hal : a < L.length := by have := HLC.out; omega
          have hbl : i + 1 + k < L.length := by have := HLC.out; omega
          have hlen := ups_len p L i side k
          have HUP : Hid (ups p L i side (k + 1) = ups p L i side k ++ (mkQ L (a : Int) side ((i : Int) + 1 + (k : Int)) side false).toList) := Lib.hid (by
            show ups p L i side k ++ (mkQ L (spreadP p (i : Int) ((i + 1 + k : Nat) : Int)).1 side ((i + 1 + k : Nat) : Int) side false).toList = _
            rw [hnn, hsp])
          clear hsp ha1 ha2
          obtain ⟨b0, b1, b2, b3, b4, b5, b6, b7, b8, b9, b10⟩ := HA.out.pc
          go_wp2_with fail
          refine hs.mono ?_
          rintro e w4 ⟨rfl, hb⟩
          have HA4 := Lib.hid (HA.out.next hb)
          have hmk := make_two HA4.out.mm a (i + 1 + k) side side false hal hbl HSD.out HSD.out HOK.out hL (by omega)
          rw [hnn] at hmk
          have HMK := Lib.hid hmk
          clear hb hs hmk hnn HA b0 b1 b2 b3 b4 b5 b6 b7 b8 b9 b10
          go_wp2_with fail
          refine HMK.out.mono ?_
          rintro e w5 ⟨rfl, ⟨v', hm⟩, hkp⟩
          rw [← HUP.out] at hm
          have HA5 := Lib.hid (HA4.out.made hm hkp)
          clear hm hkp HMK HA4
          go_wp2_with fail
          go_roundw
          case rel => exact ⟨k + 1, v', congrArg (Value.int .i64) (by omega), by omega, HA5.out⟩
          case measure => simp [intOf]; omega
        · have hkn' : ¬ (i : Int) + 1 + (k : Int) < (p.months.length : Int) := by omega
          obtain rfl : k = p.months.length - (i + 1) := by omega
          have HK6 : Hid (p.months.length - (i + 1) ≤ 6) := Lib.hid (by omega)
          have him2 : i ≤ 6 := by omega
          generalize p.months.length - (i + 1) = k at *
          obtain ⟨b0, b1, b2, b3, b4, b5, b6, b7, b8, b9, b10⟩ := HA.out.pc
          go_wp2_with fail
          clear b0 b1 b2 b3 b4 b5 b6 b7 b8 b9 b10
          go_loopw [120] (fun j w' => ∃ (m : Nat) (v : Value), j = .int .i64 m ∧ m ≤ i ∧ AllS w w' p gm ta c L (ups p L i side k ++ downs p L i side m) v) (fun j _ => i - (intOf j).toNat)
          case atStart => exact ⟨0, v, rfl, Nat.zero_le _, by rw [show downs p L i side 0 = [] from rfl, List.append_nil]; exact HA.out⟩
          case round =>
            clear HA hk hkn hkn' y1
            obtain ⟨m, v, rfl, hm, hA⟩ := hrel
            obtain ⟨wy, rfl⟩ : ∃ wo : World, wo = wr := ⟨_, rfl⟩
            have HA := Lib.hid hA
            clear hA
            by_cases hmi : m < i
            · have hmi' : (m : Int) < (i : Int) := by omega
              obtain ⟨a, hsp, ha1, ha2⟩ := spread_nat HZ.out hmi him
              have hs := HSP.out (m : Int) (i : Int) _ HA.out.pv
              rw [hsp] at hs
              have hal : a < L.length := by have := HLC.out; omega
              have hbl : m < L.length := by have := HI2.out; omega
              have hlen : (ups p L i side k ++ downs p L i side m).length ≤ 1000 := by
                have h1 := ups_len p L i side k
                have h2 := downs_len p L i side m
                rw [List.length_append]
                have := HK6.out
                omega
              have HUP : Hid (ups p L i side k ++ downs p L i side (m + 1) = ups p L i side k ++ downs p L i side m ++ (mkQ L (a : Int) (3 - side) (m : Int) side true).toList) := Lib.hid (by
                show ups p L i side k ++ (downs p L i side m ++ (mkQ L (spreadP p (m : Int) (i : Int)).1 (3 - side) (m : Int) side true).toList) = _
                rw [hsp, List.append_assoc])
              have HOTH := Lib.hid fun w => other_two side w HSD.out
              have hsd2 : 3 - side = 1 ∨ 3 - side = 2 := by have := HSD.out; omega
              have HSD2 := Lib.hid hsd2
              clear hsp ha1 ha2 hsd2
              obtain ⟨b0, b1, b2, b3, b4, b5, b6, b7, b8, b9, b10⟩ := HA.out.pc
              go_wp2_with fail
              refine hs.mono ?_
              rintro e w4 ⟨rfl, hb⟩
              have HA4 := Lib.hid (HA.out.next hb)
              have hmk := make_two HA4.out.mm a m (3 - side) side true hal hbl HSD2.out HSD.out HOK.out hL hlen
              have HMK := Lib.hid hmk
              clear hb hs hmk HA b0 b1 b2 b3 b4 b5 b6 b7 b8 b9 b10
              go_wp2_with fail
              refine (HOTH.out _).mono ?_
              rintro e w4' ⟨rfl, rfl⟩
              go_wp2_with fail
              refine HMK.out.mono ?_
              rintro e w5 ⟨rfl, ⟨v', hm2⟩, hkp⟩
              rw [← HUP.out] at hm2
              have HA5 := Lib.hid (HA4.out.made hm2 hkp)
              clear hm2 hkp HMK HA4
              go_wp2_with fail
              go_roundw
              case rel => exact ⟨m + 1, v', by go_num, by omega, HA5.out⟩
              case measure => simp [intOf]; omega
            · obtain rfl : m = i := by omega
              obtain ⟨va, vc, hvf⟩ := HA.out.mm.row.form
              have hv0 : wy.cell? ⟨gm, 1, none⟩ = some v := HA.out.mm.blk.cell 1
              rw [hvf] at hv0
              have hrow := HA.out.mm.row
              rw [hvf] at hrow
              have HBL := Lib.hid HA.out.mm.bel
              generalize (ups p L m side k ++ downs p L m side m).length = ln at hrow hv0
              rw [← HV2.out] at hrow
              have HR := Lib.hid hrow
              clear hvf hrow HA
              go_wp2_with fail
              go_ret
              exact ⟨_, rfl, HR.out, HBL.out⟩
    | true =>
      obtain ⟨_, n1, n2, hlg, hij, hjn, _, _⟩ := legs_some hsp
      have HV2 : Hid (allP p L i side = ((mkQ L (n2 : Int) (3 - side) (n1 : Int) side true).map swapQ).toList) := Lib.hid (by rw [HV.out, if_pos hsp, hlg])
      have hal : n2 < L.length := by have := HLC.out; have := countP_some HZ.out; have := countN_bd p.months.length HLN.out.2; omega
      have hbl : n1 < L.length := by omega
      have HOTH := Lib.hid fun w => other_two side w HSD.out
      have hsd2 : 3 - side = 1 ∨ 3 - side = 2 := by have := HSD.out; omega
      have HSD2 := Lib.hid hsd2
      rw [hlg]
      clear hsp hlg HV hij hjn hsd2 HSP HI2
      go_upto_region 7 with (fail)
      go_wp2_with (go_at_call 26; refine (HOTH.out _).mono ?_; rintro e w3' ⟨rfl, rfl⟩)
      have h2 := two_new w3 35 35 #[.int .i64 n1, .int .i64 side] #[.int .i64 n2, .int .i64 (3 - side)]
      have HA4 := Lib.hid (HA3.out.next h2.2.2)
      refine (make_two HA4.out.mm n2 n1 (3 - side) side true hal hbl HSD2.out HSD.out HOK.out hL (Nat.zero_le _)).mono ?_
      rintro e w5 ⟨rfl, ⟨v', hm⟩, hkp⟩
      have HI := Lib.hid (h2.1.keeps hkp (HA4.out.far h2.1 (by decide) (by decide)))
      have HJ := Lib.hid (h2.2.1.keeps hkp (HA4.out.far h2.2.1 (by decide) (by decide)))
      have HA5 := Lib.hid (HA4.out.made hm hkp)
      clear h2 hm hkp HA4 HA3 HOTH HSD2 HSD
      cases hq : mkQ L (n2 : Int) (3 - side) (n1 : Int) side true with
      | none =>
        rw [hq] at HA5 HV2
        simp only [Option.toList_none, List.append_nil, Option.map_none] at HA5 HV2
        obtain ⟨va, vc, hvf⟩ := HA5.out.mm.row.form
        have hv0 : w5.cell? ⟨gm, 1, none⟩ = some v' := HA5.out.mm.blk.cell 1
        rw [hvf] at hv0
        have hrow := HA5.out.mm.row
        rw [hvf] at hrow
        simp only [List.length_nil] at hrow hv0
        rw [← HV2.out] at hrow
        have HR := Lib.hid hrow
        have HBL := Lib.hid HA5.out.mm.bel
        clear hvf hrow hq HA5
        go_wp2_with fail
        go_loopw [77] (fun j w' => j = .int .i64 0 ∧ w' = w5) (fun _ _ => 0)
        case atStart => exact ⟨rfl, rfl⟩
        case round =>
          obtain ⟨rfl, rfl⟩ := hrel
          go_wp2_with fail
          go_ret
          exact ⟨_, rfl, HR.out, HBL.out⟩
      | some q =>
        obtain ⟨l0, l1, l2, l3⟩ := mkQ_legs hq
        rw [hq] at HA5 HV2
        simp only [Option.toList_some, List.nil_append, Option.map_some] at HA5 HV2
        obtain ⟨va, vc, hvf⟩ := HA5.out.mm.row.form
        rw [hvf] at HA5
        simp only [List.length_singleton] at HA5
        have hv0 : w5.cell? ⟨gm, 1, none⟩ = some (.slice va 1 vc) := HA5.out.mm.blk.cell 1
        obtain ⟨g, cap, hvg, hgl, hcq⟩ := HA5.out.mm.row.at_ 0 q rfl
        injection hvg with hva hvn hvc
        clear hvn
        subst hva
        subst hvc
        have HL := Lib.hid (⟨l0, l1, l2, l3⟩ : q.i0 = (n2 : Int) ∧ q.s0 = 3 - side ∧ q.i1 = (n1 : Int) ∧ q.s1 = side)
        clear hvf hq l0 l1 l2 l3 hcq
        clear hgl
        generalize w3.heap.size = hg at *
        go_wp2_with fail
        go_loopw [77] (fun j w' => ∃ k : Nat, j = .int .i64 k ∧ k ≤ 1 ∧ AllS w w' p gm ta c L [if k = 0 then q else swapQ q] (.slice (some ⟨g, 0, none⟩) 1 vc) ∧ Blk w' hg 35 #[.int .i64 n1, .int .i64 side] ∧ Blk w' (hg + 1) 35 #[.int .i64 n2, .int .i64 (3 - side)]) (fun j _ => 1 - (intOf j).toNat)
        case atStart => exact ⟨0, rfl, by omega, HA5.out, HI.out, HJ.out⟩
        case round =>
          clear HA5 HI HJ hv0
          obtain ⟨k, rfl, hk, hA, hi, hj⟩ := hrel
          obtain ⟨wz, rfl⟩ : ∃ wo : World, wo = wr := ⟨_, rfl⟩
          have HA := Lib.hid hA
          have HI := Lib.hid hi
          have HJ := Lib.hid hj
          clear hA hi hj
          by_cases hk0 : k = 0
          · subst hk0
            rw [if_pos rfl] at HA
            have hv0 : wz.cell? ⟨gm, 1, none⟩ = some (.slice (some ⟨g, 0, none⟩) 1 vc) := HA.out.mm.blk.cell 1
            obtain ⟨g', cap', hvg, hgl, hcq⟩ := HA.out.mm.row.at_ 0 q rfl
            injection hvg with hva hvn hvc
            clear hvn
            injection hva with hva
            injection hva with hva
            subst hva
            clear hvc
            have q2 : wz.cell? ⟨g, 2, none⟩ = some (.int .i64 q.i0) := hcq 2 _ rfl
            have q3 : wz.cell? ⟨g, 3, none⟩ = some (.int .i64 q.s0) := hcq 3 _ rfl
            have q4 : wz.cell? ⟨g, 4, none⟩ = some (.int .i64 q.i1) := hcq 4 _ rfl
            have q5 : wz.cell? ⟨g, 5, none⟩ = some (.int .i64 q.s1) := hcq 5 _ rfl
            have i0 : wz.cell? ⟨hg, 0, none⟩ = some (.int .i64 n1) := HI.out.cell 0
            have i1 : wz.cell? ⟨hg, 1, none⟩ = some (.int .i64 side) := HI.out.cell 1
            have j0 : wz.cell? ⟨hg + 1, 0, none⟩ = some (.int .i64 n2) := HJ.out.cell 0
            have j1 : wz.cell? ⟨hg + 1, 1, none⟩ = some (.int .i64 (3 - side)) := HJ.out.cell 1
            have fz : ∀ o, wz.frozen? ⟨g, o, none⟩ = false := fun o => by
              obtain ⟨cs, hcs⟩ := own_tyd HA.out.mm.row g rfl
              exact Blk.frozen (cs := cs) hcs o
            clear hcq hgl
            go_wp2_with fail
            refine wp_region_E (S := fun w' => w'.cell? ⟨gm, 1, none⟩ = some (.slice (some ⟨g, 0, none⟩) 1 vc) ∧ w'.cell? ⟨hg, 0, none⟩ = some (.int .i64 n1) ∧ w'.cell? ⟨hg, 1, none⟩ = some (.int .i64 side) ∧ w'.cell? ⟨hg + 1, 0, none⟩ = some (.int .i64 n2) ∧ w'.cell? ⟨hg + 1, 1, none⟩ = some (.int .i64 (3 - side))) (by kernel_rfl) ⟨hv0, i0, i1, j0, j1⟩ (fun hHeld => ?_)
            refine wpE_take (i := 0) (oi := ?oi1) (v := ?v1) ?hi1 (by kernel_rfl) (by kernel_rfl) (by kernel_rfl) (by kernel_rfl) ?hQ1 ?hy1 (by assumption) ?rest1
            case hi1 => (simp only [List.getElem?_toArray]; rfl)
            case hQ1 => exact fun _ _ _ h => h
            case hy1 => exact Or.inl ⟨by rfl, by (intro w hSw; (try dsimp only at hSw); go_simp; try with_reducible rfl)⟩
            try simp only [Act.put, List.setIfInBounds_toArray, List.set_cons_zero, List.set_cons_succ]
            refine wpE_take (i := 1) (oi := ?oi2) (v := ?v2) ?hi2 (by kernel_rfl) (by kernel_rfl) (by kernel_rfl) (by kernel_rfl) ?hQ2 ?hy2 (by assumption) ?rest2
            case hi2 => (simp only [List.getElem?_toArray]; rfl)
            case hQ2 => exact fun _ _ _ h => h
            case hy2 => exact Or.inl ⟨by rfl, by (intro w hSw; (try dsimp only at hSw); go_simp; try with_reducible rfl)⟩
            try simp only [Act.put, List.setIfInBounds_toArray, List.set_cons_zero, List.set_cons_succ]
            refine wpE_take (i := 2) (oi := ?oi3) (v := ?v3) ?hi3 (by kernel_rfl) (by kernel_rfl) (by kernel_rfl) (by kernel_rfl) ?hQ3 ?hy3 (by assumption) ?rest3
            case hi3 => (simp only [List.getElem?_toArray]; rfl)
            case hQ3 => exact fun _ _ _ h => h
            case hy3 => exact Or.inl ⟨by rfl, by (intro w hSw; (try dsimp only at hSw); go_simp; try with_reducible rfl)⟩
            try simp only [Act.put, List.setIfInBounds_toArray, List.set_cons_zero, List.set_cons_succ]
            refine wpE_take (i := 3) (oi := ?oi4) (v := ?v4) ?hi4 (by kernel_rfl) (by kernel_rfl) (by kernel_rfl) (by kernel_rfl) ?hQ4 ?hy4 (by assumption) ?rest4
            case hi4 => (simp only [List.getElem?_toArray]; rfl)
            case hQ4 => exact fun _ _ _ h => h
            case hy4 => exact Or.inl ⟨by rfl, by (intro w hSw; (try dsimp only at hSw); go_simp; try with_reducible rfl)⟩
            try simp only [Act.put, List.setIfInBounds_toArray, List.set_cons_zero, List.set_cons_succ]
            refine wpE_take (i := 4) (oi := ?oi5) (v := ?v5) ?hi5 (by kernel_rfl) (by kernel_rfl) (by kernel_rfl) (by kernel_rfl) ?hQ5 ?hy5 (by assumption) ?rest5
            case hi5 => (simp only [List.getElem?_toArray]; rfl)
            case hQ5 => exact fun _ _ _ h => h
            case hy5 => exact Or.inl ⟨by rfl, by (intro w hSw; (try dsimp only at hSw); go_simp; try with_reducible rfl)⟩
            try simp only [Act.put, List.setIfInBounds_toArray, List.set_cons_zero, List.set_cons_succ]
            refine wpE_take (i := 5) (oi := ?oi6) (v := ?v6) ?hi6 (by kernel_rfl) (by kernel_rfl) (by kernel_rfl) (by kernel_rfl) ?hQ6 ?hy6 (by assumption) ?rest6
            case hi6 => (simp only [List.getElem?_toArray]; rfl)
            case hQ6 => exact fun _ _ _ h => h
            case hy6 => exact Or.inl ⟨by rfl, by (intro w hSw; (try dsimp only at hSw); go_simp; try with_reducible rfl)⟩
            try simp only [Act.put, List.setIfInBounds_toArray, List.set_cons_zero, List.set_cons_succ]
            refine wpE_take (i := 6) (oi := ?oi7) (v := ?v7) ?hi7 (by kernel_rfl) (by kernel_rfl) (by kernel_rfl) (by kernel_rfl) ?hQ7 ?hy7 (by assumption) ?rest7
            case hi7 => (simp only [List.getElem?_toArray]; rfl)
            case hQ7 => exact fun _ _ _ h => h
            case hy7 => exact Or.inl ⟨by rfl, by (intro w hSw; (try dsimp only at hSw); go_simp; try with_reducible rfl)⟩
            try simp only [Act.put, List.setIfInBounds_toArray, List.set_cons_zero, List.set_cons_succ]
            refine wpE_take (i := 7) (oi := ?oi8) (v := ?v8) ?hi8 (by kernel_rfl) (by kernel_rfl) (by kernel_rfl) (by kernel_rfl) ?hQ8 ?hy8 (by assumption) ?rest8
            case hi8 => (simp only [List.getElem?_toArray]; rfl)
            case hQ8 => exact fun _ _ _ h => h
            case hy8 => exact Or.inl ⟨by rfl, by (intro w hSw; (try dsimp only at hSw); go_simp; try with_reducible rfl)⟩
            try simp only [Act.put, List.setIfInBounds_toArray, List.set_cons_zero, List.set_cons_succ]
            refine wpE_take (i := 8) (oi := ?oi9) (v := ?v9) ?hi9 (by kernel_rfl) (by kernel_rfl) (by kernel_rfl) (by kernel_rfl) ?hQ9 ?hy9 (by assumption) ?rest9
            case hi9 => (simp only [List.getElem?_toArray]; rfl)
            case hQ9 => exact fun _ _ _ h => h
            case hy9 => exact Or.inl ⟨by rfl, by (intro w hSw; (try dsimp only at hSw); go_simp; try with_reducible rfl)⟩
            try simp only [Act.put, List.setIfInBounds_toArray, List.set_cons_zero, List.set_cons_succ]
            refine wpE_take (i := 9) (oi := ?oi10) (v := ?v10) ?hi10 (by kernel_rfl) (by kernel_rfl) (by kernel_rfl) (by kernel_rfl) ?hQ10 ?hy10 (by assumption) ?rest10
            case hi10 => (simp only [List.getElem?_toArray]; rfl)
            case hQ10 => exact fun _ _ _ h => h
            case hy10 => exact Or.inl ⟨by rfl, by (intro w hSw; (try dsimp only at hSw); go_simp; try with_reducible rfl)⟩
            try simp only [Act.put, List.setIfInBounds_toArray, List.set_cons_zero, List.set_cons_succ]
            refine wpE_last (i := 10) (o := ?o11) ?ho11 (by kernel_rfl) (by kernel_rfl) (by kernel_rfl) (fun K hK => ?_)
            case ho11 => (simp only [List.getElem?_toArray]; rfl)
            go_simp
            refine hK.out _ _ ?_
            clear hK K
            clear q2 q3 q4 q5 i0 i1 j0 j1 hv0 fz
            have hA1 : AllS w ((((wz.setCell ⟨g, 2, none⟩ (.int .i64 n1)).setCell ⟨g, 3, none⟩ (.int .i64 side)).setCell ⟨g, 4, none⟩ (.int .i64 n2)).setCell ⟨g, 5, none⟩ (.int .i64 (3 - side))) p gm ta c L [swapQ q] (.slice (some ⟨g, 0, none⟩) 1 vc) := by
              have hk := keeps4 wz g (.int .i64 n1) (.int .i64 side) (.int .i64 n2) (.int .i64 (3 - side))
              have hne := HA.out.mm.ne g rfl
              have hgb := own_base HA.out.mm.row g rfl
              have htg := own_tyd HA.out.mm.row g rfl
              exact ⟨⟨HA.out.mm.bel.trans (hk.below (fun k hk => by have hk' : k = g := hk; omega) HA.out.mm.bel.size), HA.out.mm.blk.keeps hk (fun h => hne h.symm), row_swap HA.out.mm.row HL.out, HA.out.mm.tops, HA.out.mm.base⟩, HA.out.box.keeps hk (fun h => HA.out.box.tyd.ne htg (by decide) h), HA.out.pv0⟩
            have hI1 : Blk ((((wz.setCell ⟨g, 2, none⟩ (.int .i64 n1)).setCell ⟨g, 3, none⟩ (.int .i64 side)).setCell ⟨g, 4, none⟩ (.int .i64 n2)).setCell ⟨g, 5, none⟩ (.int .i64 (3 - side))) hg 35 #[.int .i64 n1, .int .i64 side] :=
              HI.out.keeps (keeps4 wz g _ _ _ _) (fun h => HI.out.tyd.ne (own_tyd HA.out.mm.row g rfl) (by decide) h)
            have hJ1 : Blk ((((wz.setCell ⟨g, 2, none⟩ (.int .i64 n1)).setCell ⟨g, 3, none⟩ (.int .i64 side)).setCell ⟨g, 4, none⟩ (.int .i64 n2)).setCell ⟨g, 5, none⟩ (.int .i64 (3 - side))) (hg + 1) 35 #[.int .i64 n2, .int .i64 (3 - side)] :=
              HJ.out.keeps (keeps4 wz g _ _ _ _) (fun h => HJ.out.tyd.ne (own_tyd HA.out.mm.row g rfl) (by decide) h)
            generalize (((wz.setCell ⟨g, 2, none⟩ (.int .i64 n1)).setCell ⟨g, 3, none⟩ (.int .i64 side)).setCell ⟨g, 4, none⟩ (.int .i64 n2)).setCell ⟨g, 5, none⟩ (.int .i64 (3 - side)) = wy at *
            have HA1 := Lib.hid (hA1.next (Below.drewN_of wy 1))
            have HI1 := Lib.hid (hI1.below (Below.drewN_of wy 1))
            have HJ1 := Lib.hid (hJ1.below (Below.drewN_of wy 1))
            clear hA1 hI1 hJ1 HA HI HJ
            go_wp2_with fail
            go_roundw
            case rel => exact ⟨1, rfl, by omega, by rw [if_neg (by omega)]; exact HA1.out, HI1.out, HJ1.out⟩
            case measure => simp [intOf]
          · obtain rfl : k = 1 := by omega
            rw [if_neg (by omega)] at HA
            have hv0 : wz.cell? ⟨gm, 1, none⟩ = some (.slice (some ⟨g, 0, none⟩) 1 vc) := HA.out.mm.blk.cell 1
            have hrow := HA.out.mm.row
            rw [← HV2.out] at hrow
            have HR := Lib.hid hrow
            have HBL := Lib.hid HA.out.mm.bel
            clear hrow HA
            go_wp2_with fail
            go_ret
            exact ⟨_, rfl, HR.out, HBL.out⟩
end Go.Proofs.Ytilficlanliinaa
