/- The walks of refdata.Spread and of cornhillref5.Spread. -/
import Derived.Test.YtilficlanliinaaRPrice
import Derived.Test.YtilficlanliinaaRules
namespace Go.Proofs.Ytilficlanliinaa
open Go.RowKit

theorem leg_inv : ∀ n, n ≤ 6 → ∀ k, k < 22 → n + k < countN n → k = offN n (legNear n k) + (legFar n k - (legNear n k + 1)) := by decide
def spreadOk (p : Prod) (near far : Int) : Prop := 0 ≤ near ∧ near < far ∧ far < p.months.length
instance (p : Prod) (near far : Int) : Decidable (spreadOk p near far) := by unfold spreadOk; infer_instance
def spreadP (p : Prod) (near far : Int) : Int × Bool :=
  if checkP p = 0 ∧ spreadOk p near far then ((p.months.length : Int) + (offN p.months.length near.toNat : Nat) + (far - near - 1), true) else (0, false)
set_option maxHeartbeats 4000000 in
theorem spread5_any (p : Prod) (near far : Int) (w : World) (hp : PV w p) :
    Calls Try.prog 28 #[p.agg, .int .i64 near, .int .i64 far] w fun e w' => e = .returned (.tuple #[.int .i64 (spreadP p near far).1, .bool (spreadP p near far).2]) ∧ Below w.heap.size w w' := by
  have hs0 := St.new hp
  unfold Prod.cells at hs0
  have HS0 := Lib.hid hs0
  have hck := check_any p _ hs0.pv
  unfold Prod.agg Prod.cells at hck ⊢
  clear hp hs0
  obtain ⟨b0, b1, b2, b3, b4, b5, b6, b7, b8, b9, b10⟩ := HS0.out.pc
  by_cases hz : checkP p = 0
  · rw [hz] at hck
    have hlen := check_len hz
    by_cases hok : spreadOk p near far
    · have HV : Hid (spreadP p near far = ((p.months.length : Int) + (offN p.months.length near.toNat : Nat) + (far - near - 1), true)) := Lib.hid (if_pos ⟨hz, hok⟩)
      obtain ⟨i, rfl⟩ : ∃ i : Nat, near = (i : Int) := ⟨near.toNat, by have := hok.1; omega⟩
      obtain ⟨h0, h1, h2⟩ := hok
      rw [Int.toNat_natCast] at HV
      rw [HV.out]
      obtain ⟨r, hr⟩ : ∃ r : Int, (p.months.length : Int) + (offN p.months.length i : Nat) + (far - (i : Int) - 1) = r := ⟨_, rfl⟩
      rw [hr]
      have HR := Lib.hid hr
      clear hr
      have HLE := Lib.hid (offN_le p.months.length hlen.2)
      clear hz HV
      go_enter Try.func28, Try.ntmps28
      go_wp2_with fail
      refine hck.mono ?_
      rintro e w1 ⟨rfl, hb1⟩
      have HS := Lib.hid (HS0.out.next hb1)
      clear hck hb1 b0 b1 b2 b3 b4 b5 b6 b7 b8 b9 b10
      generalize p.months.length = n at *
      go_wp2_with fail
      go_loop [9, 33] (fun at_ j' => ∃ j : Nat, j' = .int .i64 j ∧ j ≤ i ∧ at_ = .int .i64 ((n : Int) + (offN n j : Nat))) (fun _ j' => i - (intOf j').toNat)
      case atStart => exact ⟨0, rfl, Nat.zero_le _, congrArg (Value.int .i64) (by rw [offN_zero]; simp)⟩
      case round =>
        obtain ⟨j, rfl, hj, rfl⟩ := hrel
        have ho1 := HLE.out j (by omega)
        by_cases hji : j < i
        · have hji' : (j : Int) < (i : Int) := by omega
          have HSO := Lib.hid (offN_succ n j)
          generalize offN n j = o at *
          go_wp2_with fail
          go_round
          case rel => exact ⟨j + 1, by go_num, by omega, congrArg (Value.int .i64) (by rw [HSO.out]; omega)⟩
          case measure => simp [intOf]; omega
        · obtain rfl : j = i := by omega
          generalize offN n j = o at *
          go_wp2_with fail
          go_ret2
          exact ⟨congrArg (fun x => Ending.returned (Value.tuple #[Value.int .i64 x, .bool true])) (by have := HR.out; omega), HS.out.bel⟩
    · have HV : Hid (spreadP p near far = (0, false)) := Lib.hid (if_neg fun h => hok h.2)
      rw [HV.out]
      unfold spreadOk at hok
      have hcs : near < 0 ∨ (¬ near < 0 ∧ far ≤ near) ∨ (¬ near < 0 ∧ ¬ far ≤ near ∧ (p.months.length : Int) ≤ far) := by omega
      clear hz hok
      rcases hcs with h | ⟨h, h'⟩ | ⟨h, h', h''⟩
      all_goals
        go_enter Try.func28, Try.ntmps28
        go_wp2_with fail
        refine hck.mono ?_
        rintro e w1 ⟨rfl, hb1⟩
        have HS := Lib.hid (HS0.out.next hb1)
        clear hck hb1 b0 b1 b2 b3 b4 b5 b6 b7 b8 b9 b10
        go_wp2_with fail
        go_ret2
        exact ⟨by rfl, HS.out.bel⟩
  · have HV : Hid (spreadP p near far = (0, false)) := Lib.hid (if_neg fun h => hz h.1)
    rw [HV.out]
    have hz2 : (checkP p != 0) = true := by rw [bne_iff_ne]; exact hz
    clear hz
    generalize checkP p = cp at *
    go_enter Try.func28, Try.ntmps28
    go_wp2_with fail
    refine hck.mono ?_
    rintro e w1 ⟨rfl, hb1⟩
    have HS := Lib.hid (HS0.out.next hb1)
    clear hck hb1 b0 b1 b2 b3 b4 b5 b6 b7 b8 b9 b10
    go_wp2_with fail
    go_ret2
    exact ⟨by rfl, HS.out.bel⟩

/-- what a spread's place says of its months -/
theorem spread_at {p : Prod} (hz : checkP p = 0) {k : Nat} (hk : (k : Int) < countP p) (hn : p.months.length ≤ k) {near far : Int} {i j : Int} {b : Bool} (hlg : legsP p (k : Int) = (i, j, b)) (h : i = near ∧ j = far) : spreadP p near far = ((k : Int), true) := by
  have hl := check_len hz
  have hc := countP_some hz
  have hcb := countN_bd p.months.length hl.2
  obtain ⟨m, rfl⟩ : ∃ m, k = p.months.length + m := ⟨k - p.months.length, by omega⟩
  have hin := leg_inv p.months.length hl.2 m (by omega) (by omega)
  have hbd := leg_bd p.months.length hl.2 m (by omega) (by omega)
  unfold legsP at hlg
  rw [if_neg (by omega), if_neg (by omega), show (((p.months.length + m : Nat) : Int) - (p.months.length : Int)).toNat = m by omega] at hlg
  injection hlg with h1 h2
  injection h2 with h2 _
  obtain ⟨rfl, rfl⟩ := h
  rw [← h1, ← h2]
  unfold spreadP
  rw [if_pos ⟨hz, by unfold spreadOk; omega⟩, Int.toNat_natCast]
  congr 1
  omega
theorem spread_none {p : Prod} {near far : Int} (hz : checkP p = 0) (h : ∀ k : Nat, p.months.length ≤ k → (k : Int) < countP p → ¬ ((legsP p (k : Int)).1 = near ∧ (legsP p (k : Int)).2.1 = far)) : spreadP p near far = (0, false) := by
  refine if_neg fun hh => ?_
  obtain ⟨_, h0, h1, h2⟩ := hh
  obtain ⟨i, rfl⟩ : ∃ i : Nat, near = (i : Int) := ⟨near.toNat, by omega⟩
  obtain ⟨j, rfl⟩ : ∃ j : Nat, far = (j : Int) := ⟨far.toNat, by omega⟩
  have hl := check_len hz
  have hc := countP_some hz
  have he := offN_end p.months.length hl.2
  have hs := offN_succ p.months.length i
  have hm := offN_mono p.months.length (show i + 1 ≤ p.months.length by omega)
  have hat := legs_at (p := p) (k := offN p.months.length i + (j - (i + 1))) rfl hz (i := i) (j := j) (by omega) (by omega) rfl
  refine h (p.months.length + (offN p.months.length i + (j - (i + 1)))) (by omega) (by omega) ?_
  rw [show ((p.months.length + (offN p.months.length i + (j - (i + 1))) : Nat) : Int) = (p.months.length : Int) + ((offN p.months.length i + (j - (i + 1)) : Nat) : Int) by omega, hat]
  exact ⟨rfl, rfl⟩
set_option maxHeartbeats 4000000 in
theorem rspread5_any (p : Prod) (near far : Int) (w : World) (hp : PV w p) :
    Calls Try.prog 45 #[p.agg, .int .i64 near, .int .i64 far] w fun e w' => e = .returned (.tuple #[.int .i64 (spreadP p near far).1, .bool (spreadP p near far).2]) ∧ Below w.heap.size w w' := by
  have hs0 := St.new hp
  unfold Prod.cells at hs0
  have HS0 := Lib.hid hs0
  have HCO := Lib.hid fun wz (h : PV wz p) => rcount_inst_any p wz h
  have hml := hp.mlen
  unfold Prod.agg Prod.cells at HCO ⊢
  clear hp hs0
  by_cases hz : checkP p = 0
  · have HLG := Lib.hid fun (k : Int) wz (h : PV wz p) => rlegs_any p k wz h
    unfold Prod.agg Prod.cells at HLG
    have HAT := Lib.hid fun (k : Nat) (h1 : (k : Int) < countP p) (h2 : p.months.length ≤ k) (i j : Int) (b : Bool) h3 h4 => spread_at (near := near) (far := far) (i := i) (j := j) (b := b) hz h1 h2 h3 h4
    have HNO := Lib.hid (spread_none (near := near) (far := far) hz)
    have hcb := countP_bd p
    have hcn : (p.months.length : Int) ≤ countP p := by have := countN_bd p.months.length (check_len hz).2; rw [countP_some hz]; omega
    obtain ⟨c, hc⟩ : ∃ c : Nat, countP p = (c : Int) := ⟨(countP p).toNat, by omega⟩
    rw [hc] at HCO HAT HNO hcb hcn
    clear hc hz
    generalize spreadP p near far = v at *
    obtain ⟨b0, b1, b2, b3, b4, b5, b6, b7, b8, b9, b10⟩ := HS0.out.pc
    go_enter Try.func45, Try.ntmps45
    go_wp2_with fail
    clear b0 b1 b2 b3 b4 b5 b6 b7 b8 b9 b10
    go_loopw [8] (fun i w' => ∃ k : Nat, i = .int .i64 k ∧ p.months.length ≤ k ∧ k ≤ c ∧ St w w' p ∧ Hid (∀ j : Nat, p.months.length ≤ j → j < k → ¬ ((legsP p (j : Int)).1 = near ∧ (legsP p (j : Int)).2.1 = far))) (fun i _ => c - (intOf i).toNat)
    case atStart => exact ⟨p.months.length, rfl, Nat.le_refl _, by omega, HS0.out, Lib.hid fun j h1 h2 => by omega⟩
    case round =>
      clear HS0
      obtain ⟨k, rfl, hkn, hk, hS, HK⟩ := hrel
      obtain ⟨wz, rfl⟩ : ∃ wo : World, wo = wr := ⟨_, rfl⟩
      have HS0 := Lib.hid hS
      clear hS
      obtain ⟨b0, b1, b2, b3, b4, b5, b6, b7, b8, b9, b10⟩ := HS0.out.pc
      go_wp2_with fail
      refine (HCO.out _ HS0.out.pv).mono ?_
      rintro e w1 ⟨rfl, hb1⟩
      have HS := Lib.hid (HS0.out.next hb1)
      clear hb1 b0 b1 b2 b3 b4 b5 b6 b7 b8 b9 b10
      by_cases hkc : k < c
      · have hkc' : (k : Int) < (c : Int) := by omega
        have hlg := HLG.out (k : Int) _ HS.out.pv
        obtain ⟨l0, l1, l2, hl⟩ : ∃ l0 l1 l2, legsP p (k : Int) = (l0, l1, l2) := ⟨_, _, _, rfl⟩
        rw [hl] at hlg
        have HL := Lib.hid hl
        have HH := Lib.hid fun h4 => HAT.out k hkc' hkn l0 l1 l2 hl h4
        clear hl
        obtain ⟨b0, b1, b2, b3, b4, b5, b6, b7, b8, b9, b10⟩ := HS.out.pc
        go_wp2_with fail
        refine hlg.mono ?_
        rintro e w2 ⟨rfl, hb2⟩
        have HS2 := Lib.hid (HS.out.next hb2)
        clear hlg hb2 b0 b1 b2 b3 b4 b5 b6 b7 b8 b9 b10
        by_cases h1 : l0 = near
        · by_cases h2 : l1 = far
          · have hv := HH.out ⟨h1, h2⟩
            subst hv
            have e1 : (l0 == near) = true := by rw [beq_iff_eq]; exact h1
            have e2 : (l1 == far) = true := by rw [beq_iff_eq]; exact h2
            clear HH h1 h2
            go_wp2_with fail
            go_ret2
            exact ⟨by rfl, HS2.out.bel⟩
          · have e1 : (l0 == near) = true := by rw [beq_iff_eq]; exact h1
            have e2 : (l1 == far) = false := by rw [beq_eq_false_iff_ne]; exact h2
            have HE : Hid (¬ (l0 = near ∧ l1 = far)) := Lib.hid fun h => h2 h.2
            clear HH h1 h2
            go_wp2_with fail
            go_roundw
            case rel => exact ⟨k + 1, by go_num, by omega, by omega, HS2.out, Lib.hid fun j hj1 hj2 => by
              by_cases hjk : j < k
              · exact HK.out j hj1 hjk
              · obtain rfl : j = k := by omega
                rw [HL.out]; exact HE.out⟩
            case measure => simp [intOf]; omega
        · have e1 : (l0 == near) = false := by rw [beq_eq_false_iff_ne]; exact h1
          have HE : Hid (¬ (l0 = near ∧ l1 = far)) := Lib.hid fun h => h1 h.1
          clear HH h1
          go_wp2_with fail
          go_roundw
          case rel => exact ⟨k + 1, by go_num, by omega, by omega, HS2.out, Lib.hid fun j hj1 hj2 => by
            by_cases hjk : j < k
            · exact HK.out j hj1 hjk
            · obtain rfl : j = k := by omega
              rw [HL.out]; exact HE.out⟩
          case measure => simp [intOf]; omega
      · obtain rfl : k = c := by omega
        have hv := HNO.out fun j h1 h2 => HK.out j h1 (by omega)
        subst hv
        go_wp2_with fail
        go_ret2
        exact ⟨by rfl, HS.out.bel⟩
  · have HV : Hid (spreadP p near far = (0, false)) := Lib.hid (if_neg fun h => hz h.1)
    rw [HV.out]
    rw [countP_zero hz] at HCO
    clear hz
    obtain ⟨b0, b1, b2, b3, b4, b5, b6, b7, b8, b9, b10⟩ := HS0.out.pc
    go_enter Try.func45, Try.ntmps45
    go_wp2_with fail
    clear b0 b1 b2 b3 b4 b5 b6 b7 b8 b9 b10
    go_loopw [8] (fun i w' => i = .int .i64 p.months.length ∧ St w w' p) (fun _ _ => 0)
    case atStart => exact ⟨rfl, HS0.out⟩
    case round =>
      clear HS0
      obtain ⟨rfl, hS⟩ := hrel
      obtain ⟨wz, rfl⟩ : ∃ wo : World, wo = wr := ⟨_, rfl⟩
      have HS0 := Lib.hid hS
      clear hS
      obtain ⟨b0, b1, b2, b3, b4, b5, b6, b7, b8, b9, b10⟩ := HS0.out.pc
      go_wp2_with fail
      refine (HCO.out _ HS0.out.pv).mono ?_
      rintro e w1 ⟨rfl, hb1⟩
      have HS := Lib.hid (HS0.out.next hb1)
      clear hb1 b0 b1 b2 b3 b4 b5 b6 b7 b8 b9 b10
      go_wp2_with fail
      go_ret2
      exact ⟨by rfl, HS.out.bel⟩
end Go.Proofs.Ytilficlanliinaa
