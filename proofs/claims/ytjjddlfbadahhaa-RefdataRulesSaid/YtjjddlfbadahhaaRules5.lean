/- The walk of cornhilllaw5.RefdataRules. -/
import Derived.Test.YtjjddlfbadahhaaFind
import Derived.Test.YtjjddlfbadahhaaSpr5
import Derived.Test.YtjjddlfbadahhaaLNumbers
import Derived.Deep.DeepCutAuto
namespace Go.Proofs.Ytjjddlfbadahhaa
open Go.RowKit

def nameK (n k : Nat) : ByteArray := if k < n then (codeS ⟨#[206, 169]⟩ ((monthsK n).getD k 0)).1 else (spreadS ⟨#[206, 169]⟩ ((monthsK n).getD (legNear n (k - n)) 0) ((monthsK n).getD (legFar n (k - n)) 0)).1
theorem nameK_apart : ∀ n, n ≤ 5 → 2 ≤ n → ∀ k, k < countN n → ∀ j, j < k → ((nameK n j).toList == (nameK n k).toList) = false := by decide +kernel
theorem toNat_nn (a b : Nat) : ((a : Int) - (b : Int)).toNat = a - b := by omega
theorem nameP_nat {p : Prod} (hz : checkP p = 0) (k : Nat) (hk : k < countN p.months.length) :
    nameP p k = if k < p.months.length then (codeS p.code (p.months.getD k 0)).1 else (spreadS p.code (p.months.getD (legNear p.months.length (k - p.months.length)) 0) (p.months.getD (legFar p.months.length (k - p.months.length)) 0)).1 := by
  have hc := countP_some hz
  have h1 : ¬ ((k : Int) < 0 ∨ countP p ≤ (k : Int)) := by omega
  unfold nameP
  rw [if_neg h1]
  by_cases h : k < p.months.length
  · have hl : legsP p k = ((k : Int), (k : Int), false) := by
      unfold legsP
      rw [if_neg h1, if_pos (by omega)]
    rw [if_pos h, hl, if_neg (by simp)]
    simp only [Int.toNat_natCast]
  · have hl : legsP p k = (((legNear p.months.length (k - p.months.length) : Nat) : Int), ((legFar p.months.length (k - p.months.length) : Nat) : Int), true) := by
      unfold legsP
      rw [if_neg h1, if_neg (by omega), toNat_nn]
    rw [if_neg h, hl, if_pos rfl]
    simp only [Int.toNat_natCast]
structure KeepFacts (p : Prod) : Prop where
  chk : checkP p = 0
  len : 2 ≤ p.months.length ∧ p.months.length ≤ 5
  low : p.low ≤ 0 ∧ 0 ≤ p.high
  apart : ∀ k, k < countN p.months.length → ∀ j, j < k → ((nameP p (j : Int)).toList == (nameP p (k : Int)).toList) = false
theorem keep_facts (k : Keep) (h : k.ok) (ma : Option Addr) (mc : Nat) (sa : Option Addr) (sc : Nat) : KeepFacts (k.prod ma mc sa sc) := by
  have hl : (k.prod ma mc sa sc).months.length = k.n := monthsK_len k.n
  have hck := keep_check k h ma mc sa sc
  refine ⟨hck, by rw [hl]; exact h.n, ?_, ?_⟩
  · have := h.tick
    show -20 * k.tick ≤ 0 ∧ 0 ≤ 100 * k.tick
    omega
  · intro i hi j hj
    rw [nameP_nat hck i hi, nameP_nat hck j (by omega)]
    rw [hl] at hi ⊢
    exact nameK_apart k.n h.n.2 h.n.1 i hi j hj
theorem KeepFacts.find {p : Prod} (h : KeepFacts p) {k : Nat} (hk : k < countN p.months.length) : findP p (nameP p (k : Int)) = ((k : Int), true) :=
  find_hit (by rw [countP_some h.chk]; omega) (by simp) (h.apart k hk)
/-- what the law asks of an instrument -/
structure Inst (p : Prod) (k : Nat) (i j : Nat) (b : Bool) : Prop where
  legs : legsP p k = ((i : Int), (j : Int), b)
  bb : b = decide ((p.months.length : Int) ≤ k)
  jj : j < p.months.length
  ij : (b = true ∧ i < j) ∨ (b = false ∧ i = k ∧ j = k)
  spr : spreadP p i j = if b = true then ((k : Int), true) else (0, false)
  fnd : findP p (nameP p (k : Int)) = ((k : Int), true)
  prc : priceP p k 0 = 0
theorem KeepFacts.inst {p : Prod} (h : KeepFacts p) {k : Nat} (hk : k < countN p.months.length) : ∃ (i j : Nat) (b : Bool), Inst p k i j b := by
  have hc := countP_some h.chk
  have hb := check_band h.chk
  have hd0 : p.tick ∣ 0 := ⟨0, by simp⟩
  by_cases hm : k < p.months.length
  · refine ⟨k, k, false, ?_, ?_, hm, .inr ⟨rfl, rfl, rfl⟩, ?_, h.find hk, ?_⟩
    · unfold legsP
      rw [if_neg (by omega), if_pos (by omega)]
    · rw [decide_eq_false (by omega)]
    · rw [if_neg (by simp)]
      exact if_neg fun hh => by have := hh.2.2.1; omega
    · exact (price_month h.chk hm hd0).2 h.low
  · have h1 : (p.months.length : Int) ≤ (k : Int) := by omega
    obtain ⟨i, j, hl, hij, hj⟩ := legs_spread h.chk h1 (by omega)
    refine ⟨i, j, true, hl, by rw [decide_eq_true h1], hj, .inl ⟨rfl, hij⟩, ?_, h.find hk, price_spread h.chk h1 (by omega) hd0 (by omega)⟩
    rw [if_pos rfl]
    unfold spreadP
    rw [if_pos ⟨h.chk, by show (0 : Int) ≤ i; omega, by omega, by omega⟩]
    have hl2 := hl
    unfold legsP at hl2
    rw [if_neg (by omega), if_neg (by omega), toNat_nn] at hl2
    injection hl2 with e1 e2
    injection e2 with e2 _
    have hi := leg_inv p.months.length (by have := h.len; omega) (k - p.months.length) (by have := countN_bd p.months.length (by have := h.len; omega); omega) (by omega)
    have e1' : legNear p.months.length (k - p.months.length) = i := by omega
    have e2' : legFar p.months.length (k - p.months.length) = j := by omega
    rw [e1', e2'] at hi
    rw [Int.toNat_natCast]
    congr 1
    omega
set_option maxRecDepth 100000 in
set_option maxHeartbeats 8000000 in
theorem rules5_any (px : Prod) (w : World) (hX : PIn w px) :
    Calls Try.prog 10 #[px.agg] w fun e w' => e = .returned (.bool true) ∧ Below w.heap.size w w' := by
  have s1 : ∀ (w : World) (o : Obj), (w.alloc o).heap.size = w.heap.size + 1 := fun w o => by simp
  have hkp := keep_any px (w.alloc (.cells #[.string px.code, .slice px.ma px.months.length px.mc, .int .i64 px.tick, .int .i64 px.low, .int .i64 px.high, .int .i64 px.wide, .int .i64 px.rule, .int .i64 px.top, .int .i64 px.least, .int .i64 px.part, .slice px.sa px.settle.length px.sc] 25)) hX.px
  unfold Prod.agg Prod.cells at hkp ⊢
  have HB0 : Hid (Below w.heap.size w (w.alloc (.cells #[.string px.code, .slice px.ma px.months.length px.mc, .int .i64 px.tick, .int .i64 px.low, .int .i64 px.high, .int .i64 px.wide, .int .i64 px.rule, .int .i64 px.top, .int .i64 px.least, .int .i64 px.part, .slice px.sa px.settle.length px.sc] 25))) := Lib.hid (Below.allocN _ _)
  go_enter Try.func10, Try.ntmps10
  go_wp2_with fail
  refine hkp.mono ?_
  rintro e w1 ⟨k, ma, mc, sa, sc, hok, rfl, hpv, hb1⟩
  have HF := Lib.hid (keep_facts k hok ma mc sa sc)
  have hB1 := HB0.out.trans (hb1.mono HB0.out.size)
  clear hkp hb1 HB0 hX hok
  generalize k.prod ma mc sa sc = p at *
  go_upto_region 2 with (fail)
  have T0 : Hid (One w (w1.alloc (.cells #[.string p.code, .slice p.ma p.months.length p.mc, .int .i64 p.tick, .int .i64 p.low, .int .i64 p.high, .int .i64 p.wide, .int .i64 p.rule, .int .i64 p.top, .int .i64 p.least, .int .i64 p.part, .slice p.sa p.settle.length p.sc] 25)) w1.heap.size p) := Lib.hid ⟨hB1.trans ((Below.allocN _ _).mono hB1.size), PC.new w1 p, hpv.below (Below.allocN _ _), by rw [s1]; omega⟩
  clear hpv hB1
  generalize (w1.alloc (.cells #[.string p.code, .slice p.ma p.months.length p.mc, .int .i64 p.tick, .int .i64 p.low, .int .i64 p.high, .int .i64 p.wide, .int .i64 p.rule, .int .i64 p.top, .int .i64 p.least, .int .i64 p.part, .slice p.sa p.settle.length p.sc] 25)) = w2 at *
  have F1 := Lib.hid fun wz (h : PV wz p) => count_inst_any p wz h
  have F2 := Lib.hid fun wz (h : PV wz p) => check_any p wz h
  have F3 := Lib.hid fun (i : Int) wz (h : PV wz p) => legs_any p i wz h
  have F4 := Lib.hid fun (i j : Int) wz (h : PV wz p) => spread5_any p i j wz h
  have F5 := Lib.hid fun (i : Int) wz (h : PV wz p) => name_any p i wz h
  have F6 := Lib.hid fun (s : ByteArray) wz (h : PV wz p) => find_any p s wz h
  have F7 := Lib.hid fun (i x : Int) wz (h : PV wz p) => price_any p i x wz h
  rw [HF.out.chk] at F2
  rw [countP_some HF.out.chk] at F1
  have hlen := HF.out.len
  unfold Prod.agg Prod.cells at F1 F2 F3 F4 F5 F6 F7
  obtain ⟨c, hc⟩ : ∃ c : Nat, countN p.months.length = c := ⟨_, rfl⟩
  have hcb := countN_bd p.months.length (by omega)
  have HC := Lib.hid hc
  rw [hc] at F1 hcb
  clear hc
  obtain ⟨b0, b1, b2, b3, b4, b5, b6, b7, b8, b9, b10⟩ := T0.out.pc
  go_wp2_with fail
  refine (F1.out _ T0.out.pv).mono ?_
  rintro e w3 ⟨rfl, hb⟩
  have T1 := Lib.hid (T0.out.next hb)
  clear hb b0 b1 b2 b3 b4 b5 b6 b7 b8 b9 b10 T0
  go_upto_region 4 with (fail)
  go_cut [4, 5, 32] (fun u v x wx => u = .int .i64 p.months.length ∧ v = .int .i64 c ∧ x = .bool false ∧ One w wx w1.heap.size p)
  case first =>
    have hn : p.months.length = 2 ∨ p.months.length = 3 ∨ p.months.length = 4 ∨ p.months.length = 5 := by omega
    obtain ⟨b0, b1, b2, b3, b4, b5, b6, b7, b8, b9, b10⟩ := T1.out.pc
    go_wp2_with fail
    refine (F2.out _ T1.out.pv).mono ?_
    rintro e w4 ⟨rfl, hb⟩
    have T2 := Lib.hid (T1.out.next hb)
    clear hb b0 b1 b2 b3 b4 b5 b6 b7 b8 b9 b10 T1 hcb hlen
    rcases hn with hn | hn | hn | hn
    all_goals
      have hc := HC.out
      rw [hn] at hc
      have HN := Lib.hid hn
      simp only [countN, Nat.reduceSub, Nat.reduceMul, Nat.reduceDiv, Nat.reduceAdd] at hc
      subst hc
      rw [hn]
      clear hn
      go_wp2_with fail
      go_meet
      exact ⟨by first | rfl | (rw [HN.out]; rfl), rfl, rfl, T2.out⟩
  case rest =>
  obtain ⟨rfl, rfl, rfl, hT⟩ := hcut
  have T2 := Lib.hid hT
  clear hT T1 F1 F2
  go_wp2_with fail
  go_loopw [6] (fun i w' => ∃ z : Nat, i = .int .i64 z ∧ z ≤ c ∧ One w w' w1.heap.size p) (fun i _ => c - (intOf i).toNat)
  case atStart => exact ⟨0, rfl, Nat.zero_le _, T2.out⟩
  case round =>
    clear T2
    obtain ⟨z, rfl, hz, hT⟩ := hrel
    obtain ⟨wo, rfl⟩ : ∃ wo : World, wo = wr := ⟨_, rfl⟩
    have T3 := Lib.hid hT
    clear hT
    by_cases hzc : z < c
    · have hzc' : (z : Int) < (c : Int) := by omega
      obtain ⟨i, j, b, hI⟩ := HF.out.inst (show z < countN p.months.length by rw [HC.out]; exact hzc)
      have HI := Lib.hid hI
      have hlg := F3.out z _ T3.out.pv
      rw [hI.legs] at hlg
      have hsp := F4.out (i : Int) (j : Int)
      obtain ⟨s0, s1, hss⟩ : ∃ s0 s1, spreadP p (i : Int) (j : Int) = (s0, s1) := ⟨_, _, rfl⟩
      have hs := hI.spr
      rw [hss] at hsp hs
      have hsc : (b = true ∧ s1 = true ∧ s0 = (z : Int)) ∨ (b = false ∧ s1 = false) := by
        rcases hI.ij with ⟨hb, _⟩ | ⟨hb, _⟩
        · rw [hb, if_pos rfl] at hs
          injection hs with h1 h2
          exact .inl ⟨hb, h2, h1⟩
        · rw [hb, if_neg (by simp)] at hs
          injection hs with h1 h2
          exact .inr ⟨hb, h2⟩
      clear hs hss
      have HSC := Lib.hid hsc
      clear hsc
      have HSP := Lib.hid hsp
      obtain ⟨nm, hnm⟩ : ∃ nm, nameP p (z : Int) = nm := ⟨_, rfl⟩
      have hna := F5.out (z : Int)
      have hfi := F6.out nm
      have hpr := F7.out (z : Int) 0
      rw [hI.prc] at hpr
      rw [hnm] at hna
      rw [← hnm, hI.fnd, hnm] at hfi
      have HNA := Lib.hid hna
      have HFI := Lib.hid hfi
      have HPR := Lib.hid hpr
      have HCS := Lib.hid hI.ij
      have HBB := Lib.hid hI.bb
      have hj' : ¬ (p.months.length : Int) ≤ (j : Int) := by have := hI.jj; omega
      have hi' : ¬ (i : Int) < 0 := by omega
      clear hI hna hfi hpr hsp hnm
      obtain ⟨b0, b1, b2, b3, b4, b5, b6, b7, b8, b9, b10⟩ := T3.out.pc
      go_wp2_with fail
      refine hlg.mono ?_
      rintro e w5 ⟨rfl, hb⟩
      have T4 := Lib.hid (T3.out.next hb)
      clear hlg hb b0 b1 b2 b3 b4 b5 b6 b7 b8 b9 b10 T3
      obtain ⟨b0, b1, b2, b3, b4, b5, b6, b7, b8, b9, b10⟩ := T4.out.pc
      go_upto_region 10 with (fail)
      go_cut [80] (fun u wx => u = .bool false ∧ w5 = wx)
      case first =>
        rcases HCS.out with ⟨rfl, h⟩ | ⟨rfl, h, h'⟩
        · have h1 : (p.months.length : Int) ≤ (z : Int) := by simpa using HBB.out.symm
          have h2 : ¬ (j : Int) ≤ (i : Int) := by omega
          go_wp2_with fail
          go_meet
          exact ⟨by simp [hi']; omega, rfl⟩
        · obtain rfl : z = i := h.symm
          obtain rfl : z = j := h'.symm
          have h1 : ¬ (p.months.length : Int) ≤ (z : Int) := by simpa using HBB.out.symm
          go_wp2_with fail
          go_meet
          exact ⟨rfl, rfl⟩
      case rest =>
      obtain ⟨rfl, rfl⟩ := hcut
      go_wp2_with fail
      refine (HSP.out _ T4.out.pv).mono ?_
      rintro e w6 ⟨rfl, hb⟩
      have T5 := Lib.hid (T4.out.next hb)
      clear hb b0 b1 b2 b3 b4 b5 b6 b7 b8 b9 b10 T4
      go_upto_region 13 with (fail)
      go_cut [98] (fun u wx => u = .bool false ∧ w6 = wx)
      case first =>
        rcases HSC.out with ⟨rfl, rfl, rfl⟩ | ⟨rfl, rfl⟩
        all_goals
          go_wp2_with fail
          go_meet
          exact ⟨by rfl, rfl⟩
      case rest =>
      obtain ⟨rfl, rfl⟩ := hcut
      go_wp2_with fail
      have T6 := Lib.hid (T5.out.next (Below.drewN_of w6 1))
      refine wp_region_E (S := fun w' => w'.cell? ⟨w1.heap.size, 0, none⟩ = some (.string p.code) ∧ w'.cell? ⟨w1.heap.size, 1, none⟩ = some (.slice p.ma p.months.length p.mc) ∧ w'.cell? ⟨w1.heap.size, 2, none⟩ = some (.int .i64 p.tick) ∧ w'.cell? ⟨w1.heap.size, 3, none⟩ = some (.int .i64 p.low) ∧ w'.cell? ⟨w1.heap.size, 4, none⟩ = some (.int .i64 p.high) ∧ w'.cell? ⟨w1.heap.size, 5, none⟩ = some (.int .i64 p.wide) ∧ w'.cell? ⟨w1.heap.size, 6, none⟩ = some (.int .i64 p.rule) ∧ w'.cell? ⟨w1.heap.size, 7, none⟩ = some (.int .i64 p.top) ∧ w'.cell? ⟨w1.heap.size, 8, none⟩ = some (.int .i64 p.least) ∧ w'.cell? ⟨w1.heap.size, 9, none⟩ = some (.int .i64 p.part) ∧ w'.cell? ⟨w1.heap.size, 10, none⟩ = some (.slice p.sa p.settle.length p.sc)) (by kernel_rfl) T6.out.pc (fun hHeld => ?_)
      refine wpE_take (i := 0) (oi := ?oi6) (v := ?v6) ?hi6 (by kernel_rfl) (by kernel_rfl) (by kernel_rfl) (by kernel_rfl) ?hQ6 ?hy6 (by assumption) ?rest6
      case hi6 => (simp only [List.getElem?_toArray, List.getElem?_cons_zero]; rfl)
      case hQ6 => exact fun _ _ _ h => h
      case hy6 => exact Or.inl ⟨by rfl, by (intro w hSw; (try dsimp only at hSw); go_simp; try with_reducible rfl)⟩
      try simp only [Act.put, List.setIfInBounds_toArray, List.set_cons_zero, List.set_cons_succ]
      refine wpE_take (i := 1) (oi := ?oi7) (v := ?v7) ?hi7 (by kernel_rfl) (by kernel_rfl) (by kernel_rfl) (by kernel_rfl) ?hQ7 ?hy7 (by assumption) ?rest7
      case hi7 => (simp only [List.getElem?_toArray, List.getElem?_cons_succ, List.getElem?_cons_zero]; rfl)
      case hQ7 => exact fun _ _ _ h => h
      case hy7 => exact Or.inl ⟨by rfl, by (intro w hSw; (try dsimp only at hSw); go_simp; try with_reducible rfl)⟩
      try simp only [Act.put, List.setIfInBounds_toArray, List.set_cons_zero, List.set_cons_succ]
      refine wpE_take (i := 2) (oi := ?oi8) (v := ?v8) ?hi8 (by kernel_rfl) (by kernel_rfl) (by kernel_rfl) (by kernel_rfl) ?hQ8 ?hy8 (by assumption) ?rest8
      case hi8 => (simp only [List.getElem?_toArray, List.getElem?_cons_succ, List.getElem?_cons_zero]; rfl)
      case hQ8 => exact fun _ _ _ h => h
      case hy8 => exact Or.inl ⟨by rfl, by (intro w hSw; (try dsimp only at hSw); go_simp; try with_reducible rfl)⟩
      try simp only [Act.put, List.setIfInBounds_toArray, List.set_cons_zero, List.set_cons_succ]
      refine wpE_one (i := 3) (o := ?o9) ?ho9 (by kernel_rfl) (fun K hK => ?_)
      case ho9 => (simp only [List.getElem?_toArray, List.getElem?_cons_succ, List.getElem?_cons_zero]; rfl)
      go_simp
      go_at_call 30
      refine (HNA.out _ T6.out.pv).mono ?_
      rintro e w7 ⟨rfl, hb⟩
      have T7 := Lib.hid (T6.out.next hb)
      clear hb T6
      refine hK.out _ _ T7.out.pc (fun hHeld => ?_)
      clear hK K
      refine wpE_one (i := 4) (o := ?o10) ?ho10 (by kernel_rfl) (fun K hK => ?_)
      case ho10 => (simp only [List.getElem?_toArray, List.getElem?_cons_succ, List.getElem?_cons_zero]; rfl)
      go_simp
      go_at_call 29
      refine (HFI.out _ T7.out.pv).mono ?_
      rintro e w8 ⟨rfl, hb⟩
      have T8 := Lib.hid (T7.out.next hb)
      clear hb T7
      refine hK.out _ _ T8.out.pc (fun hHeld => ?_)
      clear hK K
      refine wpE_of_held _ _ _ _ ?_
      refine wpAnyH_take (i := 5) (oi := ?oi1) (v := ?v1) ?hi1 (by kernel_rfl) (by kernel_rfl) (by kernel_rfl) ?hQ1 ?hy1 (by assumption) ?rest1
      case hi1 => (simp only [List.getElem?_toArray, List.getElem?_cons_succ, List.getElem?_cons_zero]; rfl)
      case hQ1 => exact fun _ _ _ h => h
      case hy1 => exact Or.inl ⟨by rfl, by (intro w hSw; (try dsimp only at hSw); go_simp; try with_reducible rfl)⟩
      try simp only [Act.put, List.setIfInBounds_toArray, List.set_cons_zero, List.set_cons_succ]
      refine wpAnyH_take (i := 6) (oi := ?oi2) (v := ?v2) ?hi2 (by kernel_rfl) (by kernel_rfl) (by kernel_rfl) ?hQ2 ?hy2 (by assumption) ?rest2
      case hi2 => (simp only [List.getElem?_toArray, List.getElem?_cons_succ, List.getElem?_cons_zero]; rfl)
      case hQ2 => exact fun _ _ _ h => h
      case hy2 => exact Or.inl ⟨by rfl, by (intro w hSw; (try dsimp only at hSw); go_simp; try with_reducible rfl)⟩
      try simp only [Act.put, List.setIfInBounds_toArray, List.set_cons_zero, List.set_cons_succ]
      refine wpAnyH_take (i := 7) (oi := ?oi3) (v := ?v3) ?hi3 (by kernel_rfl) (by kernel_rfl) (by kernel_rfl) ?hQ3 ?hy3 (by assumption) ?rest3
      case hi3 => (simp only [List.getElem?_toArray, List.getElem?_cons_succ, List.getElem?_cons_zero]; rfl)
      case hQ3 => exact fun _ _ _ h => h
      case hy3 => exact Or.inl ⟨by rfl, by (intro w hSw; (try dsimp only at hSw); go_simp; try with_reducible rfl)⟩
      try simp only [Act.put, List.setIfInBounds_toArray, List.set_cons_zero, List.set_cons_succ]
      refine wpAnyH_take (i := 8) (oi := ?oi4) (v := ?v4) ?hi4 (by kernel_rfl) (by kernel_rfl) (by kernel_rfl) ?hQ4 ?hy4 (by assumption) ?rest4
      case hi4 => (simp only [List.getElem?_toArray, List.getElem?_cons_succ, List.getElem?_cons_zero]; rfl)
      case hQ4 => exact fun _ _ _ h => h
      case hy4 => exact Or.inl ⟨by rfl, by (intro w hSw; (try dsimp only at hSw); go_simp; try with_reducible rfl)⟩
      try simp only [Act.put, List.setIfInBounds_toArray, List.set_cons_zero, List.set_cons_succ]
      refine wpAnyH_take (i := 9) (oi := ?oi5) (v := ?v5) ?hi5 (by kernel_rfl) (by kernel_rfl) (by kernel_rfl) ?hQ5 ?hy5 (by assumption) ?rest5
      case hi5 => (simp only [List.getElem?_toArray, List.getElem?_cons_succ, List.getElem?_cons_zero]; rfl)
      case hQ5 => exact fun _ _ _ h => h
      case hy5 => exact Or.inl ⟨by rfl, by (intro w hSw; (try dsimp only at hSw); go_simp; try with_reducible rfl)⟩
      try simp only [Act.put, List.setIfInBounds_toArray, List.set_cons_zero, List.set_cons_succ]
      refine wpAnyH_done (by kernel_rfl) ?_ _
      clear hHeld
      obtain ⟨b0, b1, b2, b3, b4, b5, b6, b7, b8, b9, b10⟩ := T8.out.pc
      go_wp2_with fail
      refine (HPR.out _ T8.out.pv).mono ?_
      rintro e w9 ⟨rfl, hb⟩
      have T9 := Lib.hid (T8.out.next hb)
      clear hb T8 b0 b1 b2 b3 b4 b5 b6 b7 b8 b9 b10
      go_wp2_with fail
      go_roundw
      case rel => exact ⟨z + 1, by go_num, by omega, T9.out⟩
      case measure => simp [intOf]; omega
    · obtain rfl : z = c := by omega
      have hE1 := F5.out (z : Int)
      have hE2 := F5.out (-1)
      have hn1 : nameP p (z : Int) = ⟨#[]⟩ := if_pos (.inr (by rw [countP_some HF.out.chk, HC.out]; exact Int.le_refl _))
      have hn2 : nameP p (-1) = ⟨#[]⟩ := if_pos (.inl (by omega))
      rw [hn1] at hE1
      rw [hn2] at hE2
      have HE1 := Lib.hid hE1
      have HE2 := Lib.hid hE2
      clear hE1 hE2 hn1 hn2
      obtain ⟨b0, b1, b2, b3, b4, b5, b6, b7, b8, b9, b10⟩ := T3.out.pc
      go_wp2_with fail
      refine (HE1.out _ T3.out.pv).mono ?_
      rintro e w5 ⟨rfl, hb⟩
      have T4 := Lib.hid (T3.out.next hb)
      clear hb T3 b0 b1 b2 b3 b4 b5 b6 b7 b8 b9 b10
      obtain ⟨b0, b1, b2, b3, b4, b5, b6, b7, b8, b9, b10⟩ := T4.out.pc
      go_wp2_with fail
      refine (HE2.out _ T4.out.pv).mono ?_
      rintro e w6 ⟨rfl, hb⟩
      have T5 := Lib.hid (T4.out.next hb)
      clear hb T4 b0 b1 b2 b3 b4 b5 b6 b7 b8 b9 b10
      go_wp2_with fail
      refine (known5_any _).mono ?_
      rintro e w7 ⟨rfl, hb⟩
      have T6 := Lib.hid (T5.out.next hb)
      clear hb T5
      go_wp2_with fail
      go_ret
      exact ⟨by trivial, T6.out.bel⟩
end Go.Proofs.Ytjjddlfbadahhaa
