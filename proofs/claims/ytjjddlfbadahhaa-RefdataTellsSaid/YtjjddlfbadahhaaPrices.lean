/- The walk of legs.Prices. -/
import Derived.Test.YtjjddlfbadahhaaPrice
namespace Go.Proofs.Ytjjddlfbadahhaa
open Go.RowKit

theorem leg_bd : ∀ n, n ≤ 6 → ∀ k, k < 22 → n + k < countN n → legNear n k < legFar n k ∧ legFar n k < n := by decide
/-- a spread's two months, where it has them -/
theorem legs_some {p : Prod} {inst : Int} (h : (legsP p inst).2.2 = true) : checkP p = 0 ∧ ∃ i j : Nat, legsP p inst = ((i : Int), (j : Int), true) ∧ i < j ∧ j < p.months.length ∧ (p.months.length : Int) ≤ inst ∧ inst < countP p := by
  unfold legsP at h ⊢
  by_cases h1 : inst < 0 ∨ countP p ≤ inst
  · rw [if_pos h1] at h; cases h
  · rw [if_neg h1] at h ⊢
    by_cases h2 : inst < p.months.length
    · rw [if_pos h2] at h; cases h
    · rw [if_neg h2]
      have hz : checkP p = 0 := count_ne (by omega)
      have hl := check_len hz
      have hc := countP_some hz
      have hcn := countN_bd p.months.length hl.2
      have := leg_bd p.months.length hl.2 (inst - p.months.length).toNat (by omega) (by omega)
      exact ⟨hz, _, _, rfl, this.1, this.2, by omega, by omega⟩
def pricesP (p : Prod) (inst price : Int) : Int × Int × Int :=
  if checkP p ≠ 0 then (0, 0, 1) else if (legsP p inst).2.2 = false then (0, 0, 20) else if priceP p inst price ≠ 0 then (0, 0, priceP p inst price) else
    if p.high < p.settle.getD (legsP p inst).2.1.toNat 0 + price then (p.high, p.high - price, 0) else
      if p.settle.getD (legsP p inst).2.1.toNat 0 + price < p.low then (p.low, p.low - price, 0) else (p.settle.getD (legsP p inst).2.1.toNat 0 + price, p.settle.getD (legsP p inst).2.1.toNat 0, 0)
theorem price_zero {p : Prod} {inst price : Int} (h : priceP p inst price = 0) : checkP p = 0 ∧ 0 ≤ inst ∧ inst < countP p ∧ price.tmod p.tick = 0 ∧ lowP p inst ≤ price ∧ price ≤ highP p inst := by
  unfold priceP at h
  by_cases h1 : countP p = 0
  · rw [if_pos h1] at h; omega
  rw [if_neg h1] at h
  by_cases h2 : inst < 0 ∨ countP p ≤ inst
  · rw [if_pos h2] at h; omega
  rw [if_neg h2] at h
  by_cases h3 : price.tmod p.tick ≠ 0
  · rw [if_pos h3] at h; omega
  rw [if_neg h3] at h
  by_cases h4 : price < lowP p inst ∨ highP p inst < price
  · rw [if_pos h4] at h; omega
  exact ⟨count_ne h1, by omega, by omega, by omega, by omega, by omega⟩
set_option maxHeartbeats 4000000 in
theorem prices_any (p : Prod) (inst price : Int) (w : World) (hp : PV w p) :
    Calls Try.prog 18 #[p.agg, .int .i64 inst, .int .i64 price] w fun e w' => e = .returned (.tuple #[.int .i64 (pricesP p inst price).1, .int .i64 (pricesP p inst price).2.1, .int .i64 (pricesP p inst price).2.2]) ∧ Below w.heap.size w w' := by
  have hs0 := St.new hp
  unfold Prod.cells at hs0
  have HS0 := Lib.hid hs0
  have hck := check_any p _ hs0.pv
  have HLG := Lib.hid fun wz (h : PV wz p) => legs_any p inst wz h
  have HPR := Lib.hid fun wz (h : PV wz p) => price_any p inst price wz h
  unfold Prod.agg Prod.cells at hck HLG HPR ⊢
  clear hp hs0
  by_cases hz : checkP p = 0
  · have HC := Lib.hid hz
    rw [hz] at hck
    by_cases hsp : (legsP p inst).2.2 = true
    · obtain ⟨_, i, j, hlg, hij, hjn, hi1, hi2⟩ := legs_some hsp
      rw [hlg] at HLG
      have hsl := check_slen hz
      obtain ⟨x, hx⟩ : ∃ x, p.settle[j]? = some x := ⟨_, List.getElem?_eq_getElem (by omega)⟩
      have hxb := check_settle hz hx
      have hbd := check_band hz
      have hjs : (j : Int) < (p.settle.length : Int) := by omega
      by_cases hpz : priceP p inst price = 0
      · have hpb := price_zero hpz
        have hlo : lowP p inst = -p.wide ∧ highP p inst = p.wide := ⟨if_pos hi1, if_pos hi1⟩
        rw [hlo.1, hlo.2] at hpb
        rw [hpz] at HPR
        have HV : Hid (pricesP p inst price = if p.high < x + price then (p.high, p.high - price, 0) else if x + price < p.low then (p.low, p.low - price, 0) else (x + price, x, 0)) := Lib.hid (by
          unfold pricesP
          rw [if_neg (by rw [hz]; simp), if_neg (by rw [hsp]; simp), if_neg (by rw [hpz]; simp), hlg]
          simp only [Int.toNat_natCast]
          rw [getD_of hx])
        have HX0 := Lib.hid hx
        have hpr : -2000000 ≤ price ∧ price ≤ 2000000 := by omega
        have hlen6 := check_len hz
        clear hsp hlg hpz hz hlo hpb hsl hi1 hi2 hij
        by_cases k1 : p.high < x + price
        · have HV1 : Hid (pricesP p inst price = (p.high, p.high - price, 0)) := Lib.hid (by rw [HV.out, if_pos k1])
          have hn : ¬ p.high < p.low := by omega
          rw [HV1.out]
          clear hx
          go_enter Try.func18, Try.ntmps18
          go_wp2_with fail
          refine hck.mono ?_
          rintro e w1 ⟨rfl, hb1⟩
          have HS1 := Lib.hid (HS0.out.next hb1)
          obtain ⟨b0, b1, b2, b3, b4, b5, b6, b7, b8, b9, b10⟩ := HS1.out.pc
          clear hck hb1
          go_wp2_with fail
          refine (HLG.out _ HS1.out.pv).mono ?_
          rintro e w2 ⟨rfl, hb2⟩
          have HS2 := Lib.hid (HS1.out.next hb2)
          clear b0 b1 b2 b3 b4 b5 b6 b7 b8 b9 b10 hb2
          obtain ⟨b0, b1, b2, b3, b4, b5, b6, b7, b8, b9, b10⟩ := HS2.out.pc
          go_wp2_with fail
          refine (HPR.out _ HS2.out.pv).mono ?_
          rintro e w3 ⟨rfl, hb3⟩
          have HS3 := Lib.hid (HS2.out.next hb3)
          clear b0 b1 b2 b3 b4 b5 b6 b7 b8 b9 b10 hb3
          obtain ⟨b0, b1, b2, b3, b4, b5, b6, b7, b8, b9, b10⟩ := HS3.out.pc
          obtain ⟨_, b, off, ha, _, c0⟩ := HS3.out.pv.set_ j x HX0.out
          rw [ha] at b10
          go_wp2_with fail
          go_quiet (fail)
          go_wp2_with fail
          go_ret3
          exact ⟨by rfl, (HS3.out.next (Below.drewN_of _ _)).bel⟩
        · by_cases k2 : x + price < p.low
          · have HV1 : Hid (pricesP p inst price = (p.low, p.low - price, 0)) := Lib.hid (by rw [HV.out, if_neg k1, if_pos k2])
            rw [HV1.out]
            clear hx
            go_enter Try.func18, Try.ntmps18
            go_wp2_with fail
            refine hck.mono ?_
            rintro e w1 ⟨rfl, hb1⟩
            have HS1 := Lib.hid (HS0.out.next hb1)
            obtain ⟨b0, b1, b2, b3, b4, b5, b6, b7, b8, b9, b10⟩ := HS1.out.pc
            clear hck hb1
            go_wp2_with fail
            refine (HLG.out _ HS1.out.pv).mono ?_
            rintro e w2 ⟨rfl, hb2⟩
            have HS2 := Lib.hid (HS1.out.next hb2)
            clear b0 b1 b2 b3 b4 b5 b6 b7 b8 b9 b10 hb2
            obtain ⟨b0, b1, b2, b3, b4, b5, b6, b7, b8, b9, b10⟩ := HS2.out.pc
            go_wp2_with fail
            refine (HPR.out _ HS2.out.pv).mono ?_
            rintro e w3 ⟨rfl, hb3⟩
            have HS3 := Lib.hid (HS2.out.next hb3)
            clear b0 b1 b2 b3 b4 b5 b6 b7 b8 b9 b10 hb3
            obtain ⟨b0, b1, b2, b3, b4, b5, b6, b7, b8, b9, b10⟩ := HS3.out.pc
            obtain ⟨_, b, off, ha, _, c0⟩ := HS3.out.pv.set_ j x HX0.out
            rw [ha] at b10
            go_wp2_with fail
            go_quiet (fail)
            go_wp2_with fail
            go_ret3
            exact ⟨by rfl, (HS3.out.next (Below.drewN_of _ _)).bel⟩
          · have HV1 : Hid (pricesP p inst price = (x + price, x, 0)) := Lib.hid (by rw [HV.out, if_neg k1, if_neg k2])
            rw [HV1.out]
            clear hx
            go_enter Try.func18, Try.ntmps18
            go_wp2_with fail
            refine hck.mono ?_
            rintro e w1 ⟨rfl, hb1⟩
            have HS1 := Lib.hid (HS0.out.next hb1)
            obtain ⟨b0, b1, b2, b3, b4, b5, b6, b7, b8, b9, b10⟩ := HS1.out.pc
            clear hck hb1
            go_wp2_with fail
            refine (HLG.out _ HS1.out.pv).mono ?_
            rintro e w2 ⟨rfl, hb2⟩
            have HS2 := Lib.hid (HS1.out.next hb2)
            clear b0 b1 b2 b3 b4 b5 b6 b7 b8 b9 b10 hb2
            obtain ⟨b0, b1, b2, b3, b4, b5, b6, b7, b8, b9, b10⟩ := HS2.out.pc
            go_wp2_with fail
            refine (HPR.out _ HS2.out.pv).mono ?_
            rintro e w3 ⟨rfl, hb3⟩
            have HS3 := Lib.hid (HS2.out.next hb3)
            clear b0 b1 b2 b3 b4 b5 b6 b7 b8 b9 b10 hb3
            obtain ⟨b0, b1, b2, b3, b4, b5, b6, b7, b8, b9, b10⟩ := HS3.out.pc
            obtain ⟨_, b, off, ha, _, c0⟩ := HS3.out.pv.set_ j x HX0.out
            rw [ha] at b10
            go_wp2_with fail
            go_ret3
            exact ⟨by rfl, HS3.out.bel⟩
      · have HV : Hid (pricesP p inst price = (0, 0, priceP p inst price)) := Lib.hid (by
          unfold pricesP
          rw [if_neg (by rw [hz]; simp), if_neg (by rw [hsp]; simp), if_pos hpz])
        rw [HV.out]
        have hp1 : (priceP p inst price != 0) = true := by rw [bne_iff_ne]; exact hpz
        clear hsp hlg hpz hz hx hxb hsl hi1 hi2 hij
        generalize priceP p inst price = pr at *
        go_enter Try.func18, Try.ntmps18
        go_wp2_with fail
        refine hck.mono ?_
        rintro e w1 ⟨rfl, hb1⟩
        have HS1 := Lib.hid (HS0.out.next hb1)
        obtain ⟨b0, b1, b2, b3, b4, b5, b6, b7, b8, b9, b10⟩ := HS1.out.pc
        clear hck hb1
        go_wp2_with fail
        refine (HLG.out _ HS1.out.pv).mono ?_
        rintro e w2 ⟨rfl, hb2⟩
        have HS2 := Lib.hid (HS1.out.next hb2)
        clear b0 b1 b2 b3 b4 b5 b6 b7 b8 b9 b10 hb2
        obtain ⟨b0, b1, b2, b3, b4, b5, b6, b7, b8, b9, b10⟩ := HS2.out.pc
        go_wp2_with fail
        refine (HPR.out _ HS2.out.pv).mono ?_
        rintro e w3 ⟨rfl, hb3⟩
        have HS3 := Lib.hid (HS2.out.next hb3)
        clear b0 b1 b2 b3 b4 b5 b6 b7 b8 b9 b10 hb3
        go_wp2_with fail
        go_ret3
        exact ⟨by rfl, HS3.out.bel⟩
    · have hsf : (legsP p inst).2.2 = false := by simpa using hsp
      have HV : Hid (pricesP p inst price = (0, 0, 20)) := Lib.hid (by
        unfold pricesP
        rw [if_neg (by rw [hz]; simp), if_pos hsf])
      rw [HV.out]
      obtain ⟨l0, l1, l2, hl⟩ : ∃ l0 l1 l2, legsP p inst = (l0, l1, l2) := ⟨_, _, _, rfl⟩
      rw [hl] at HLG hsf
      replace hsf : l2 = false := hsf
      subst hsf
      clear hsp hz hl
      go_enter Try.func18, Try.ntmps18
      go_wp2_with fail
      refine hck.mono ?_
      rintro e w1 ⟨rfl, hb1⟩
      have HS1 := Lib.hid (HS0.out.next hb1)
      obtain ⟨b0, b1, b2, b3, b4, b5, b6, b7, b8, b9, b10⟩ := HS1.out.pc
      clear hck hb1
      go_wp2_with fail
      refine (HLG.out _ HS1.out.pv).mono ?_
      rintro e w2 ⟨rfl, hb2⟩
      have HS2 := Lib.hid (HS1.out.next hb2)
      clear b0 b1 b2 b3 b4 b5 b6 b7 b8 b9 b10 hb2
      go_wp2_with fail
      go_ret3
      exact ⟨by rfl, HS2.out.bel⟩
  · have HV : Hid (pricesP p inst price = (0, 0, 1)) := Lib.hid (if_pos hz)
    rw [HV.out]
    have hz2 : (checkP p != 0) = true := by rw [bne_iff_ne]; exact hz
    clear hz
    generalize checkP p = cp at *
    go_enter Try.func18, Try.ntmps18
    go_wp2_with fail
    refine hck.mono ?_
    rintro e w1 ⟨rfl, hb1⟩
    have HS1 := Lib.hid (HS0.out.next hb1)
    clear hck hb1
    go_wp2_with fail
    go_ret3
    exact ⟨by rfl, HS1.out.bel⟩
end Go.Proofs.Ytjjddlfbadahhaa
