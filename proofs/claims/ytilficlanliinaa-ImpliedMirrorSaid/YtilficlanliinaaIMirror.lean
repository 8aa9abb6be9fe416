/- The walk of cornhilllaw14.ImpliedMirror. Printed by mk_imirror.py. -/
import Derived.Test.YtilficlanliinaaPShi
import Derived.Test.YtilficlanliinaaSameQ
import Derived.Deep.DeepCutAuto
import Derived.BigRegion
namespace Go.Proofs.Ytilficlanliinaa
open Go.RowKit

theorem keep_mir (k : Keep) (h : k.ok) (ma : Option Addr) (mc : Nat) (sa : Option Addr) (sc : Nat) (sa' : Option Addr) (sc' : Nat) : checkP ((k.prod ma mc sa sc).band (-(k.prod ma mc sa sc).high) (k.prod ma mc sa sc).high sa' (List.replicate (k.prod ma mc sa sc).months.length 0) sc') = 0 := by
  have hk := keep_check k h ma mc sa sc
  obtain ⟨hn, ht, hr, htp, hl, hpt, hw⟩ := h
  have hm := mul_bd ht.1 hw.1 hw.2
  refine band_check hk sa' sc' ?_ ?_ ?_ (by simp) ?_
  · show k.tick ∣ -(100 * k.tick)
    exact (Int.dvd_neg).2 ⟨100, by rw [Int.mul_comm]⟩
  · show k.tick ∣ 100 * k.tick
    exact ⟨100, by rw [Int.mul_comm]⟩
  · show -1000000 ≤ -(100 * k.tick) ∧ -(100 * k.tick) < 100 * k.tick ∧ 100 * k.tick ≤ 1000000 ∧ k.tick * k.wd ≤ 100 * k.tick - -(100 * k.tick)
    omega
  · intro x hx
    rw [List.mem_replicate] at hx
    obtain ⟨_, rfl⟩ := hx
    exact ⟨Int.dvd_zero _, by show -(100 * k.tick) ≤ 0; omega, by show 0 ≤ 100 * k.tick; omega⟩
theorem made_ints (n : Nat) : madeCells (Value.int .i64 0).cells (n * 1) = Array.replicate n (.int .i64 0) := by
  apply Array.toList_inj.1
  apply List.ext_getElem?
  intro j
  rw [Nat.mul_one]
  by_cases hj : j < n
  · simp [madeCells, Value.cells, hj, Nat.mod_one]
  · simp [madeCells, Value.cells, hj]
theorem rep_ints (n : Nat) : ((List.replicate n (0 : Int)).map (Value.int .i64)).toArray = Array.replicate n (.int .i64 0) := by simp
theorem price_small {p : Prod} {k x : Int} (h : priceP p k x = 0) : -2000000 ≤ x ∧ x ≤ 2000000 := by
  unfold priceP at h
  split at h
  · omega
  · rename_i hc
    have hb := check_band (count_ne hc)
    split at h
    · omega
    · split at h
      · omega
      · split at h
        · omega
        · rename_i hx
          unfold lowP highP at hx
          split at hx <;> omega
/-- tops that are being turned -/
def mirTo (S : List Tp) (i : Nat) : List Tp := (S.take i).map mirT ++ List.replicate (S.length - i) zeroTp
theorem mirTo_len {S : List Tp} {i : Nat} (h : i ≤ S.length) : (mirTo S i).length = S.length := by
  unfold mirTo; rw [List.length_append, List.length_map, List.length_take, List.length_replicate]; omega
theorem mirTo_zero (S : List Tp) : mirTo S 0 = List.replicate S.length zeroTp := by simp [mirTo]
theorem mirTo_end (S : List Tp) : mirTo S S.length = S.map mirT := by simp [mirTo]
theorem mirTo_get {S : List Tp} {i : Nat} (h : i < S.length) : (mirTo S i)[i]? = some zeroTp := by
  unfold mirTo
  rw [List.getElem?_append_right (by rw [List.length_map, List.length_take]; omega), List.length_map, List.length_take, List.getElem?_replicate, if_pos (by omega)]
theorem mirTo_succ {S : List Tp} {i : Nat} {x : Tp} (h : S[i]? = some x) : (mirTo S i).set i (mirT x) = mirTo S (i + 1) := by
  have hl := lt_of_get h
  unfold mirTo
  rw [List.set_append_right _ _ (by rw [List.length_map, List.length_take]; omega), List.length_map, List.length_take, show i - min i S.length = 0 by omega, show S.length - i = S.length - (i + 1) + 1 by omega, List.replicate_succ, List.set_cons_zero, List.take_add_one, h, List.map_append, List.append_assoc]
  rfl
structure MS (w3 w1 : World) (gu : Nat) (U : List Tp) : Prop where
  bel : Below w3.heap.size w3 w1
  out : Blk w1 gu 42 (U.flatMap Tp.cells).toArray
  base : w3.heap.size ≤ gu
theorem MS.next {w3 w1 w2 : World} {gu : Nat} {U : List Tp} (h : MS w3 w1 gu U) (hb : Below w1.heap.size w1 w2) : MS w3 w2 gu U := ⟨h.bel.trans (hb.mono h.bel.size), h.out.below hb, h.base⟩
theorem MS.set1 {w3 w1 : World} {gu : Nat} {S : List Tp} (h : MS w3 w1 gu S) (i k : Nat) (e y : Tp) (u : Value) (hi : S[i]? = some e) (hk : k < 6) (hy : y.cells = e.cells.set k u) : MS w3 (w1.setCell ⟨gu, i * 6 + k, none⟩ u) gu (S.set i y) :=
  ⟨h.bel.setCell (p := ⟨gu, i * 6 + k, none⟩) h.base u, tps_set h.out i k e y u hi hk hy, h.base⟩
theorem MS.put {w3 w1 : World} {gu : Nat} {S : List Tp} (h : MS w3 w1 gu S) (i : Nat) (e x : Tp) (hi : S[i]? = some e) : MS w3 ((((((w1.setCell ⟨gu, i * 6, none⟩ (.bool x.h0)).setCell ⟨gu, i * 6 + 1, none⟩ (.bool x.h1)).setCell ⟨gu, i * 6 + 2, none⟩ (.int .i64 x.p0)).setCell ⟨gu, i * 6 + 3, none⟩ (.int .i64 x.p1)).setCell ⟨gu, i * 6 + 4, none⟩ (.int .i64 x.q0)).setCell ⟨gu, i * 6 + 5, none⟩ (.int .i64 x.q1)) gu (S.set i x) := by
  have hl := lt_of_get hi
  have hg : ∀ (S : List Tp) (y : Tp), i < S.length → (S.set i y)[i]? = some y := fun S y h => List.getElem?_set_self h
  have h1 := h.set1 i 0 e { e with h0 := x.h0 } (.bool x.h0) hi (by omega) rfl
  have h2 := h1.set1 i 1 _ { e with h0 := x.h0, h1 := x.h1 } (.bool x.h1) (hg _ _ hl) (by omega) rfl
  rw [List.set_set] at h2
  have h3 := h2.set1 i 2 _ { e with h0 := x.h0, h1 := x.h1, p0 := x.p0 } (.int .i64 x.p0) (hg _ _ hl) (by omega) rfl
  rw [List.set_set] at h3
  have h4 := h3.set1 i 3 _ { e with h0 := x.h0, h1 := x.h1, p0 := x.p0, p1 := x.p1 } (.int .i64 x.p1) (hg _ _ hl) (by omega) rfl
  rw [List.set_set] at h4
  have h5 := h4.set1 i 4 _ { e with h0 := x.h0, h1 := x.h1, p0 := x.p0, p1 := x.p1, q0 := x.q0 } (.int .i64 x.q0) (hg _ _ hl) (by omega) rfl
  rw [List.set_set] at h5
  have h6 := h5.set1 i 5 _ x (.int .i64 x.q1) (hg _ _ hl) (by omega) rfl
  rw [List.set_set] at h6
  exact h6
structure MU (w w1 : World) (gp : Nat) (p : Prod) (gt : Nat) (S : List Tp) (gu : Nat) (U : List Tp) : Prop where
  l : LT w w1 gp p gt S
  u : TP.Rd w1 (some ⟨gu, 0, none⟩) U
theorem MU.next {w w1 w2 : World} {gp : Nat} {p : Prod} {gt : Nat} {S : List Tp} {gu : Nat} {U : List Tp} (h : MU w w1 gp p gt S gu U) (hb : Below w1.heap.size w1 w2) : MU w w2 gp p gt S gu U := ⟨h.l.next hb, h.u.below hb⟩
theorem best_keeps {P : Qt → Prop} {side : Int} (l : List Qt) (x : Qt) (hx : P x) (hl : ∀ q ∈ l, P q) : P (l.foldl (bestStep side) x) := by
  induction l generalizing x with
  | nil => exact hx
  | cons q l ih =>
    refine ih _ ?_ fun r hr => hl r (List.mem_cons_of_mem _ hr)
    unfold bestStep
    split
    · exact hl q (List.mem_cons_self ..)
    · exact hx
theorem show_bd {l : List Qt} {side : Int} (hl : ∀ q ∈ l, -2000000 ≤ q.price ∧ q.price ≤ 2000000) : -2000000 ≤ (showP l side).1 ∧ (showP l side).1 ≤ 2000000 := by
  cases l with
  | nil => exact ⟨(by decide : (-2000000 : Int) ≤ 0), (by decide : (0 : Int) ≤ 2000000)⟩
  | cons x l => exact best_keeps (P := fun q => -2000000 ≤ q.price ∧ q.price ≤ 2000000) l x (hl x (List.mem_cons_self ..)) fun q hq => hl q (List.mem_cons_of_mem _ hq)
/-! a large region's lexical order, looked at in parts -/
def lst (n k : Nat) : Array Bool := ((List.range n).map (fun i => decide (i < k))).toArray
theorem lst_set {n k : Nat} (hk : k < n) : (lst n k).setIfInBounds k true = lst n (k + 1) := by
  unfold lst
  rw [List.setIfInBounds_toArray]
  congr 1
  apply List.ext_getElem?
  intro i
  rw [List.getElem?_set, List.length_map, List.length_range]
  by_cases hc : k = i
  · subst hc
    rw [if_pos rfl, if_pos hk]
    simp [hk]
  · rw [if_neg hc]
    by_cases hi : i < n
    · simp only [List.getElem?_map, List.getElem?_range hi, Option.map_some]
      congr 1
      rw [decide_eq_decide]
      omega
    · simp [hi]
theorem lst_zero (n : Nat) : lst n 0 = Array.replicate n false := by
  unfold lst
  apply Array.toList_inj.1
  apply List.ext_getElem?
  intro i
  by_cases hi : i < n <;> simp [hi]
def stepB (ops : Array Oper) (n k : Nat) : Bool := (Region.ready .any ops (lst n k)).contains k && Region.free .any ops (lst n k) k
theorem lexFrom_of {ops : Array Oper} {n : Nat} (h : ∀ k, 0 ≤ k → k < n → stepB ops n k = true) (he : (Region.ready .any ops (lst n n)).isEmpty = true) : ∀ fuel k, fuel + k = n → Region.lexFrom .any ops fuel k (lst n k) = true := by
  intro fuel
  induction fuel with
  | zero => intro k hk; obtain rfl : k = n := by omega
            exact he
  | succ fuel ih =>
    intro k hk
    have h1 := h k (Nat.zero_le _) (by omega)
    unfold stepB at h1
    unfold Region.lexFrom
    rw [h1, lst_set (by omega), ih (k + 1) (by omega)]
    rfl
theorem lexB_of {ops : Array Oper} (n : Nat) (hn : ops.size = n) (hs : Region.noSelect ops = true) (h : ∀ k, 0 ≤ k → k < n → stepB ops n k = true) (he : (Region.ready .any ops (lst n n)).isEmpty = true) : Region.lexB .any ops = true := by
  subst hn
  unfold Region.lexB
  rw [hs, ← lst_zero, lexFrom_of h he ops.size 0 (by omega)]
  rfl
theorem steps_cons {p : Nat → Bool} {n a : Nat} (h : (List.range' a 5).all p = true) (r : ∀ k, a + 5 ≤ k → k < n → p k = true) : ∀ k, a ≤ k → k < n → p k = true := by
  intro k h1 h2
  by_cases hk : a + 5 ≤ k
  · exact r k hk h2
  · rw [List.all_eq_true] at h
    exact h k (List.mem_range'_1.2 ⟨h1, by omega⟩)
set_option maxRecDepth 100000 in
set_option maxHeartbeats 16000000 in
theorem imirror_any (px : Prod) (ta : Option Addr) (tc : Nat) (L : List Tp) (inst : Int) (w : World) (hX : PIn w px) (hT : TP.Rd w ta L) (hok : ∀ x ∈ L, x.ok) (hL : L.length ≤ 9223372036854775807) (hi1 : -9223372036854775808 ≤ inst) (hi2 : inst ≤ 9223372036854775807) :
    Calls Try.prog 9 #[px.agg, .slice ta L.length tc, .int .i64 inst] w fun e w' => e = .returned (.bool true) ∧ Below w.heap.size w w' := by
  have s1 : ∀ (w : World) (o : Obj), (w.alloc o).heap.size = w.heap.size + 1 := fun w o => by simp
  have hkp := keep_any px (w.alloc (.cells #[.string px.code, .slice px.ma px.months.length px.mc, .int .i64 px.tick, .int .i64 px.low, .int .i64 px.high, .int .i64 px.wide, .int .i64 px.rule, .int .i64 px.top, .int .i64 px.least, .int .i64 px.part, .slice px.sa px.settle.length px.sc] 25)) hX.px
  unfold Prod.agg Prod.cells at hkp ⊢
  have HB0 : Hid (Below w.heap.size w (w.alloc (.cells #[.string px.code, .slice px.ma px.months.length px.mc, .int .i64 px.tick, .int .i64 px.low, .int .i64 px.high, .int .i64 px.wide, .int .i64 px.rule, .int .i64 px.top, .int .i64 px.least, .int .i64 px.part, .slice px.sa px.settle.length px.sc] 25))) := Lib.hid (Below.allocN _ _)
  have HT := Lib.hid hT
  have HOK := Lib.hid hok
  clear hT hok
  go_enter Try.func9, Try.ntmps9
  go_wp2_with fail
  refine hkp.mono ?_
  rintro e w1 ⟨k, ma, mc, sa, sc, hko, rfl, hpv, hb1⟩
  have hmi := keep_mir k hko ma mc sa sc
  have hck := keep_check k hko ma mc sa sc
  have hB1 := HB0.out.trans (hb1.mono HB0.out.size)
  clear hkp hb1 HB0 hX hko
  generalize k.prod ma mc sa sc = p at *
  go_upto_region 2 with (fail)
  have hbx : Blk (w1.alloc (.cells #[.string p.code, .slice p.ma p.months.length p.mc, .int .i64 p.tick, .int .i64 p.low, .int .i64 p.high, .int .i64 p.wide, .int .i64 p.rule, .int .i64 p.top, .int .i64 p.least, .int .i64 p.part, .slice p.sa p.settle.length p.sc] 25)) w1.heap.size 25 p.cells := Blk.new _ _ _
  have HBW := Lib.hid hB1
  have HPV := Lib.hid hpv
  have HB2 : Hid (Below w1.heap.size w1 (w1.alloc (.cells #[.string p.code, .slice p.ma p.months.length p.mc, .int .i64 p.tick, .int .i64 p.low, .int .i64 p.high, .int .i64 p.wide, .int .i64 p.rule, .int .i64 p.top, .int .i64 p.least, .int .i64 p.part, .slice p.sa p.settle.length p.sc] 25))) := Lib.hid (Below.allocN _ _)
  have HMI := Lib.hid hmi
  have HCK := Lib.hid hck
  have HGE : Hid (w1.heap.size ≤ w1.heap.size) := Lib.hid (Nat.le_refl _)
  clear hpv hB1 hmi hck
  have hbd := check_band HCK.out
  have hlen := check_len HCK.out
  have y1 : IntKind.i64.wrap (-p.high) = -p.high := IntWalk.i64_in _ (by omega)
  generalize (w1.alloc (.cells #[.string p.code, .slice p.ma p.months.length p.mc, .int .i64 p.tick, .int .i64 p.low, .int .i64 p.high, .int .i64 p.wide, .int .i64 p.rule, .int .i64 p.top, .int .i64 p.least, .int .i64 p.part, .slice p.sa p.settle.length p.sc] 25)) = wA at *
  have hpc := PC.of5 hbx
  obtain ⟨gp, hgp⟩ : ∃ gp, w1.heap.size = gp := ⟨_, rfl⟩
  replace HGE : Hid (w1.heap.size ≤ gp) := Lib.hid (by rw [hgp]; exact Nat.le_refl _)
  rw [hgp] at hpc hbx ⊢
  clear hgp
  have HBX := Lib.hid hbx
  have fz : ∀ o, wA.frozen? ⟨gp, o, none⟩ = false := fun o => HBX.out.frozen o
  clear hbx
  obtain ⟨b0, b1, b2, b3, b4, b5, b6, b7, b8, b9, b10⟩ := hpc
  go_upto_region 3 with (fail)
  have hbx3 : Blk (wA.setCell ⟨gp, 3, none⟩ (.int .i64 (-p.high))) gp 25 (p.band (-p.high) p.high p.sa p.settle p.sc).cells := HBX.out.set_ 3 _
  have HB3 := Lib.hid (HB2.out.setCell (p := ⟨gp, 3, none⟩) HGE.out (.int .i64 (-p.high)))
  clear b0 b1 b2 b3 b4 b5 b6 b7 b8 b9 b10 fz HBX HB2 y1
  generalize wA.setCell ⟨gp, 3, none⟩ (.int .i64 (-p.high)) = wB at *
  obtain ⟨m, hm⟩ : ∃ m, p.months.length = m := ⟨_, rfl⟩
  obtain ⟨i0, hi, hz0, hz1, hz2⟩ := info_parts info_int64
  have hmk := fun w => run_makeSlice (P := Try.prog) w 23 2 i0 _ Try.underlying23 hi hz0 .i64 .i64 m m (by omega) (by omega) (by rw [hz1]; omega) (by rw [hz2]; omega) (by omega)
  rw [hz1, Int.toNat_natCast, made_ints] at hmk
  clear hi hz0 hz1 hz2
  have hbx4 : Blk (wB.alloc (.cells (Array.replicate m (.int .i64 0)) 2)) gp 25 (p.band (-p.high) p.high p.sa p.settle p.sc).cells := hbx3.alloc _
  have c1 : wB.cell? ⟨gp, 1, none⟩ = some (.slice p.ma m p.mc) := by rw [hbx3.cell, ← hm]; rfl
  have c10 : (wB.alloc (.cells (Array.replicate m (.int .i64 0)) 2)).cell? ⟨gp, 10, none⟩ = some (.slice p.sa p.settle.length p.sc) := by rw [hbx4.cell]; rfl
  have f10 : (wB.alloc (.cells (Array.replicate m (.int .i64 0)) 2)).frozen? ⟨gp, 10, none⟩ = false := hbx4.frozen 10
  have HBX4 := Lib.hid hbx4
  have HBL := Lib.hid hbx3.lt
  clear hbx3 hbx4
  go_upto_region 4 with (fail)
  have hbx5 : Blk ((wB.alloc (.cells (Array.replicate m (.int .i64 0)) 2)).setCell ⟨gp, 10, none⟩ (.slice (some ⟨wB.heap.size, 0, none⟩) m m)) gp 25 (p.band (-p.high) p.high (some ⟨wB.heap.size, 0, none⟩) (List.replicate m 0) m).cells := by
    have h := HBX4.out.set_ 10 (.slice (some ⟨wB.heap.size, 0, none⟩) m m)
    have e : (p.band (-p.high) p.high (some ⟨wB.heap.size, 0, none⟩) (List.replicate m 0) m).cells = (p.band (-p.high) p.high p.sa p.settle p.sc).cells.setIfInBounds 10 (.slice (some ⟨wB.heap.size, 0, none⟩) m m) := by
      unfold Prod.cells
      rw [show (p.band (-p.high) p.high (some ⟨wB.heap.size, 0, none⟩) (List.replicate m 0) m).settle.length = m from List.length_replicate]
      rfl
    rw [e]; exact h
  have hz5 : Blk ((wB.alloc (.cells (Array.replicate m (.int .i64 0)) 2)).setCell ⟨gp, 10, none⟩ (.slice (some ⟨wB.heap.size, 0, none⟩) m m)) wB.heap.size 2 (Array.replicate m (.int .i64 0)) := (Blk.new wB _ _).far (p := ⟨gp, 10, none⟩) (Nat.ne_of_gt HBL.out) _
  have hb5 : Below w1.heap.size w1 ((wB.alloc (.cells (Array.replicate m (.int .i64 0)) 2)).setCell ⟨gp, 10, none⟩ (.slice (some ⟨wB.heap.size, 0, none⟩) m m)) := (HB3.out.alloc HB3.out.size _).setCell (p := ⟨gp, 10, none⟩) HGE.out _
  have hpv5 : PV ((wB.alloc (.cells (Array.replicate m (.int .i64 0)) 2)).setCell ⟨gp, 10, none⟩ (.slice (some ⟨wB.heap.size, 0, none⟩) m m)) (p.band (-p.high) p.high (some ⟨wB.heap.size, 0, none⟩) (List.replicate m 0) m) := by
    obtain ⟨v1, v2, v3, v4, v5, v6, v7, v8, v9⟩ := HPV.out.below hb5
    refine ⟨v1, v2, blk_ints (L := List.replicate m 0) (by rw [rep_ints]; exact hz5) ?_, v4, ?_, v6, ?_, ?_, v9⟩
    · intro x hx
      rw [List.mem_replicate] at hx
      rw [hx.2]; unfold i64ok; omega
    · show (List.replicate m (0 : Int)).length ≤ 1000000
      rw [List.length_replicate]; omega
    · show i64ok (-p.high); unfold i64ok; omega
    · show i64ok p.high; unfold i64ok; omega
  have hck5 := HMI.out (some ⟨wB.heap.size, 0, none⟩) m
  rw [hm] at hck5
  have hsy : (p.band (-p.high) p.high (some ⟨wB.heap.size, 0, none⟩) (List.replicate m 0) m).low = -(p.band (-p.high) p.high (some ⟨wB.heap.size, 0, none⟩) (List.replicate m 0) m).high := rfl
  clear HB3 HPV HMI HCK hmk c1 c10 f10 HBX4 HBL hm hlen hbd
  generalize p.band (-p.high) p.high (some ⟨wB.heap.size, 0, none⟩) (List.replicate m 0) m = q at *
  generalize (wB.alloc (.cells (Array.replicate m (.int .i64 0)) 2)).setCell ⟨gp, 10, none⟩ (.slice (some ⟨wB.heap.size, 0, none⟩) m m) = w2 at *
  have HBX := Lib.hid hbx5
  have HPV := Lib.hid hpv5
  have HCK := Lib.hid hck5
  have HSY := Lib.hid hsy
  have HB2 := Lib.hid (HBW.out.trans (hb5.mono HBW.out.size))
  have HLE := Lib.hid (Nat.le_trans HBW.out.size HGE.out)
  clear hbx5 hz5 hb5 hpv5 hck5 hsy HBW HGE
  have hto := tops_any q ta tc L w2 HPV.out HCK.out (HT.out.below HB2.out) HOK.out hL
  have hpc := PC.of5 HBX.out
  unfold Prod.agg Prod.cells at hto
  obtain ⟨b0, b1, b2, b3, b4, b5, b6, b7, b8, b9, b10⟩ := hpc
  have HN := Lib.hid (countN_room q.months.length (check_len HCK.out).2 (check_len HCK.out).1)
  have hcn := countN_bd q.months.length (check_len HCK.out).2
  have hnr := HN.out
  have hlen := check_len HCK.out
  obtain ⟨n, hn⟩ : ∃ n, countN q.months.length = n := ⟨_, rfl⟩
  rw [hn] at hto hcn hnr
  have HNN := Lib.hid hn
  clear hn
  go_wp2_with fail
  refine hto.mono ?_
  rintro e w3 ⟨gt, rfl, htp, hgt, hb⟩
  have hlt : LT w w3 gp q gt (topsP q L) := ⟨HB2.out.trans (hb.mono HB2.out.size), HBX.out.below hb, HPV.out.below hb, htp, HLE.out, Nat.le_trans HB2.out.size hgt⟩
  have T3 := Lib.hid hlt
  have HTO := Lib.hid (topsP_ok HCK.out L)
  have HTL : Hid ((topsP q L).length = n) := Lib.hid (by rw [topsP_len, HNN.out])
  have HTS : Hid (Small (topsP q L)) := Lib.hid (fun x hx s => by have := tops_price HCK.out hx s; omega)
  clear hto hb htp hgt hlt HBX HB2 HPV HLE HT HOK hL b0 b1 b2 b3 b4 b5 b6 b7 b8 b9 b10
  generalize topsP q L = S at *
  obtain ⟨i0, hi, hz0, hz1, hz2⟩ := info_parts top_info
  have hmk := fun w => run_makeSlice (P := Try.prog) w 26 42 i0 _ Try.underlying26 hi hz0 .i64 .i64 n n (by omega) (by omega) (by rw [hz1]; omega) (by rw [hz2]; omega) (by omega)
  rw [hz1, Int.toNat_natCast, made_tops] at hmk
  clear hi hz0 hz1 hz2
  go_upto_region 6 with (fail)
  have hms : MS w3 (w3.alloc (.cells ((List.replicate n zeroTp).flatMap Tp.cells).toArray 42)) w3.heap.size (mirTo S 0) :=
    ⟨Below.allocN _ _, by rw [mirTo_zero, HTL.out]; exact Blk.new _ _ _, Nat.le_refl _⟩
  obtain ⟨gu, hgu⟩ : ∃ gu, w3.heap.size = gu := ⟨_, rfl⟩
  have HGU : Hid (gt < gu) := Lib.hid (by rw [← hgu]; exact T3.out.tp.lt)
  have HMS := Lib.hid hms
  rw [hgu] at HMS ⊢
  clear hgu hmk hms
  generalize w3.alloc (.cells ((List.replicate n zeroTp).flatMap Tp.cells).toArray 42) = w4 at *
  go_wp2_with fail
  go_loopw [10] (fun j w' => ∃ i : Nat, j = .int .i64 i ∧ i ≤ n ∧ MS w3 w' gu (mirTo S i)) (fun j _ => n - (intOf j).toNat)
  case atStart => exact ⟨0, rfl, Nat.zero_le _, HMS.out⟩
  case round =>
    clear HMS
    obtain ⟨i, rfl, hin, hm⟩ := hrel
    obtain ⟨wz, rfl⟩ : ∃ wo : World, wo = wr := ⟨_, rfl⟩
    have HMS := Lib.hid hm
    clear hm
    by_cases hi : i < n
    · as_aux_lemma =>
        have hi' : (i : Int) < (n : Int) := by omega
        obtain ⟨x, hx⟩ : ∃ x, S[i]? = some x := ⟨_, List.getElem?_eq_getElem (by rw [HTL.out]; exact hi)⟩
        have hxs1 := HTS.out x (List.mem_of_getElem? hx) 1
        have hxs2 := HTS.out x (List.mem_of_getElem? hx) 2
        simp only [Tp.price, if_true, show ¬ (2 : Int) = 1 by decide, if_false] at hxs1 hxs2
        have HSUC := Lib.hid (mirTo_succ hx)
        have hgz := mirTo_get (S := S) (i := i) (by rw [HTL.out]; exact hi)
        have HGZ := Lib.hid hgz
        have ht := (T3.out.next HMS.out.bel).tp
        have c0 := tps_cell ht i 0 x hx (by omega)
        have c1 := tps_cell ht i 1 x hx (by omega)
        have c2 := tps_cell ht i 2 x hx (by omega)
        have c3 := tps_cell ht i 3 x hx (by omega)
        have c4 := tps_cell ht i 4 x hx (by omega)
        have c5 := tps_cell ht i 5 x hx (by omega)
        have d0 := tps_cell HMS.out.out i 0 _ hgz (by omega)
        have d1 := tps_cell HMS.out.out i 1 _ hgz (by omega)
        have d2 := tps_cell HMS.out.out i 2 _ hgz (by omega)
        have d3 := tps_cell HMS.out.out i 3 _ hgz (by omega)
        have d4 := tps_cell HMS.out.out i 4 _ hgz (by omega)
        have d5 := tps_cell HMS.out.out i 5 _ hgz (by omega)
        simp only [Tp.cells, zeroTp, Nat.add_zero, List.getElem?_cons_zero, List.getElem?_cons_succ] at c0 c1 c2 c3 c4 c5 d0 d1 d2 d3 d4 d5
        have fz : ∀ o, wz.frozen? ⟨gu, o, none⟩ = false := fun o => HMS.out.out.frozen o
        have n1 : gt ≠ gu := Nat.ne_of_lt HGU.out
        have n2 : gu ≠ gt := Ne.symm n1
        have y1 : IntKind.i64.wrap (-x.p1) = -x.p1 := IntWalk.i64_in _ (by omega)
        have y2 : IntKind.i64.wrap (-x.p0) = -x.p0 := IntWalk.i64_in _ (by omega)
        clear hx ht hgz hxs1 hxs2
        go_upto_region 9 with (fail)
        go_region
        clear c0 c1 c2 c3 c4 c5 d0 d1 d2 d3 d4 d5 fz n1 n2 y1 y2
        have HM2 := Lib.hid ((HMS.out.put i _ (mirT x) HGZ.out).next (Below.drewN_of _ 1))
        rw [HSUC.out] at HM2
        go_wp2_with fail
        go_roundw
        case rel => exact ⟨i + 1, by go_num, by omega, HM2.out⟩
        case measure => simp [intOf]; omega
    · obtain rfl : i = n := by omega
      have hue := mirTo_end S
      rw [HTL.out] at hue
      rw [hue] at HMS
      have HL7 : Hid (MU w wz gp q gt S gu (S.map mirT)) := Lib.hid ⟨T3.out.next HMS.out.bel, by
        have h := HMS.out.out
        exact h.tops⟩
      clear hue HMS T3
      have HUL : Hid ((S.map mirT).length = i) := Lib.hid (by rw [List.length_map, HTL.out])
      have HUO := Lib.hid (mir_ok HTO.out HTS.out)
      have hw2 := withI_bd inst 0 ((i : Int) - 1) (by omega)
      have HWI := Lib.hid fun w => within_any inst 0 ((i : Int) - 1) w hi1 hi2 (by omega) (by omega) (by omega)
      have y2 : IntKind.i64.wrap ((i : Int) - 1) = (i : Int) - 1 := IntWalk.i64_in _ (by omega)
      generalize withI inst 0 ((i : Int) - 1) = kk at *
      go_wp2_with fail
      refine (HWI.out _).mono ?_
      rintro e w5 ⟨rfl, rfl⟩
      clear HWI y2 hw2
      have HAS := Lib.hid fun (s : Int) wz (h : LT w wz gp q gt S) => quotes_any q kk s (some ⟨gt, 0, none⟩) i S wz h.pv h.rd HTO.out (by rw [HTL.out]; omega) (Nat.le_trans (allP_len q S kk s) (by omega))
      rw [HTL.out] at HAS
      unfold Prod.agg Prod.cells at HAS
      have HFT := Lib.hid fun (s : Int) (hs : s = 1 ∨ s = 2) => quotesP_mir HSY.out HTS.out (inst := kk) hs
      have HAN := Lib.hid fun s => quotesP_len q S kk s
      have HQR := Lib.hid fun s (hs : s = 1 ∨ s = 2) x (hx : x ∈ quotesP q S kk s) => qr_quotes hs hx
      have HPR := Lib.hid fun s (hs : s = 1 ∨ s = 2) x (hx : x ∈ quotesP q S kk s) => price_small (qr_price (p := q) (S := S) (k := kk) (q := x) (by rcases hs with rfl | rfl; exact .inl hx; exact .inr hx))
      generalize S.map mirT = U at *
      have HAU := Lib.hid fun (s : Int) wz (h : MU w wz gp q gt S gu U) => quotes_any q kk s (some ⟨gu, 0, none⟩) i U wz h.l.pv h.u HUO.out (by rw [HUL.out]; omega) (Nat.le_trans (allP_len q U kk s) (by omega))
      rw [HUL.out] at HAU
      unfold Prod.agg Prod.cells at HAU
      go_wp2_with fail
      go_loopw [12] (fun j w' => ∃ s : Int, j = .int .i64 s ∧ 1 ≤ s ∧ s ≤ 3 ∧ MU w w' gp q gt S gu U) (fun j _ => (3 - intOf j).toNat)
      case atStart => exact ⟨1, rfl, by omega, by omega, HL7.out⟩
      case round =>
        clear HL7
        obtain ⟨s, rfl, hs1, hs3, hT⟩ := hrel
        obtain ⟨wy, rfl⟩ : ∃ wo : World, wo = wr := ⟨_, rfl⟩
        have T3 := Lib.hid hT
        clear hT
        have y1 : IntKind.i64.wrap (s + 1) = s + 1 := IntWalk.i64_in _ (by omega)
        by_cases hs2 : s ≤ 2
        · have HS : Hid (s = 1 ∨ s = 2) := Lib.hid (by omega)
          obtain ⟨t, ht⟩ : ∃ t : Int, 3 - s = t := ⟨_, rfl⟩
          have y2 : IntKind.i64.wrap (3 - s) = t := by rw [← ht]; exact IntWalk.i64_in _ (by omega)
          have HTS2 : Hid (t = 1 ∨ t = 2) := Lib.hid (by omega)
          have hft := HFT.out s HS.out
          rw [ht] at hft
          have HQ := Lib.hid (HQR.out s HS.out)
          have HP := Lib.hid (HPR.out s HS.out)
          have hal := HAN.out s
          have hsm := show_mir HS.out (quotesP q S kk s)
          rw [ht] at hsm
          have HMQ := Lib.hid hft
          clear ht hft
          obtain ⟨b0, b1, b2, b3, b4, b5, b6, b7, b8, b9, b10⟩ := T3.out.l.pc
          go_wp2_with fail
          refine (HAS.out s _ T3.out.l).mono ?_
          rintro e w5 ⟨v, rfl, hr, hb⟩
          have T4 := Lib.hid (T3.out.next hb)
          clear b0 b1 b2 b3 b4 b5 b6 b7 b8 b9 b10
          generalize quotesP q S kk s = A at *
          have hbd := show_bd (side := s) HP.out
          obtain ⟨qa, qc, hvf, hqn, hrd⟩ := hr.rd
          subst hvf
          have HRD := Lib.hid hrd
          clear hr hb T3 hrd hqn
          obtain ⟨b0, b1, b2, b3, b4, b5, b6, b7, b8, b9, b10⟩ := T4.out.l.pc
          go_wp2_with fail
          refine (HAU.out t _ T4.out).mono ?_
          rintro e w6 ⟨v, rfl, hr, hb⟩
          have T5 := Lib.hid (T4.out.next hb)
          have HRD2 := Lib.hid (HRD.out.below hb)
          clear b0 b1 b2 b3 b4 b5 b6 b7 b8 b9 b10
          rw [HMQ.out] at hr
          obtain ⟨ra, rc, hvf, hqn, hrd⟩ := hr.rd
          rw [List.length_map] at hvf
          subst hvf
          have HRB := Lib.hid hrd
          clear hr hb T4 HRD hrd hqn HMQ
          have HSM := Lib.hid hsm
          clear hsm
          have HSA := Lib.hid fun wz (h : QT.Rd wz qa A) => show_any A qa qc s wz h (by omega) (.inr HS.out)
          have HSB := Lib.hid fun wz (h : QT.Rd wz ra (A.map mirQ)) => show_any (A.map mirQ) ra rc t wz h (by rw [List.length_map]; omega) (.inr HTS2.out)
          rw [HSM.out, List.length_map] at HSB
          obtain ⟨z1, z2, z3, z4, hz⟩ : ∃ z1 z2 z3 z4, showP A s = (z1, z2, z3, z4) := ⟨_, _, _, _, rfl⟩
          rw [hz] at HSA HSB hbd
          dsimp only at HSA HSB hbd
          obtain ⟨nz, hnz⟩ : ∃ nz : Int, -z1 = nz := ⟨_, rfl⟩
          rw [hnz] at HSB
          have y3 : IntKind.i64.wrap (-nz) = z1 := by rw [← hnz, Int.neg_neg]; exact IntWalk.i64_in _ (by omega)
          clear hz hnz hbd HSM
          go_wp2_with fail
          go_loopw [15] (fun j w' => ∃ i : Nat, j = .int .i64 i ∧ i ≤ A.length ∧ MU w w' gp q gt S gu U ∧ QT.Rd w' qa A ∧ QT.Rd w' ra (A.map mirQ)) (fun j _ => A.length - (intOf j).toNat)
          case atStart => exact ⟨0, rfl, Nat.zero_le _, T5.out, HRD2.out, HRB.out⟩
          case round =>
            clear T5 HRD2 HRB
            obtain ⟨l, rfl, hi, hT, hR, hR2⟩ := hrel
            obtain ⟨wz, rfl⟩ : ∃ wo : World, wo = wr := ⟨_, rfl⟩
            have T5 := Lib.hid hT
            have HRD := Lib.hid hR
            have HRB := Lib.hid hR2
            clear hT hR hR2
            by_cases hin : l < A.length
            · as_aux_lemma =>
                have hin' : (l : Int) < (A.length : Int) := by omega
                obtain ⟨x, hx⟩ : ∃ x, A[l]? = some x := ⟨_, List.getElem?_eq_getElem hin⟩
                obtain ⟨qb, off, rfl, hbl0, hcq⟩ := HRD.out l x hx
                have hx2 : (A.map mirQ)[l]? = some (mirQ x) := by rw [List.getElem?_map, hx]; rfl
                obtain ⟨rb, ro, rfl, hbl1, hcr⟩ := HRB.out l (mirQ x) hx2
                have hqr := HQ.out x (List.mem_of_getElem? hx)
                have hpr := HP.out x (List.mem_of_getElem? hx)
                have hl0 : x.s0 = 1 ∨ x.s0 = 2 := by obtain ⟨_, _, _, _, h, _⟩ := hqr.l0; exact h
                have hl1 : x.s1 = 1 ∨ x.s1 = 2 := by obtain ⟨_, _, _, _, h, _⟩ := hqr.l1; exact h
                obtain ⟨np, hnp⟩ : ∃ v : Int, -x.price = v := ⟨_, rfl⟩
                obtain ⟨m0, hm0⟩ : ∃ v : Int, 3 - x.s0 = v := ⟨_, rfl⟩
                obtain ⟨m1, hm1⟩ : ∃ v : Int, 3 - x.s1 = v := ⟨_, rfl⟩
                have a0 : wz.cell? ⟨qb, off + l * 6, none⟩ = some (.int .i64 x.price) := hcq 0 _ rfl
                have a1 : wz.cell? ⟨qb, off + l * 6 + 1, none⟩ = some (.int .i64 x.qty) := hcq 1 _ rfl
                have a2 : wz.cell? ⟨qb, off + l * 6 + 2, none⟩ = some (.int .i64 x.i0) := hcq 2 _ rfl
                have a3 : wz.cell? ⟨qb, off + l * 6 + 3, none⟩ = some (.int .i64 x.s0) := hcq 3 _ rfl
                have a4 : wz.cell? ⟨qb, off + l * 6 + 4, none⟩ = some (.int .i64 x.i1) := hcq 4 _ rfl
                have a5 : wz.cell? ⟨qb, off + l * 6 + 5, none⟩ = some (.int .i64 x.s1) := hcq 5 _ rfl
                have e0 : wz.cell? ⟨rb, ro + l * 6, none⟩ = some (.int .i64 np) := by rw [← hnp]; exact hcr 0 _ rfl
                have e1 : wz.cell? ⟨rb, ro + l * 6 + 1, none⟩ = some (.int .i64 x.qty) := hcr 1 _ rfl
                have e2 : wz.cell? ⟨rb, ro + l * 6 + 2, none⟩ = some (.int .i64 x.i0) := hcr 2 _ rfl
                have e3 : wz.cell? ⟨rb, ro + l * 6 + 3, none⟩ = some (.int .i64 m0) := by rw [← hm0]; exact hcr 3 _ rfl
                have e4 : wz.cell? ⟨rb, ro + l * 6 + 4, none⟩ = some (.int .i64 x.i1) := hcr 4 _ rfl
                have e5 : wz.cell? ⟨rb, ro + l * 6 + 5, none⟩ = some (.int .i64 m1) := by rw [← hm1]; exact hcr 5 _ rfl
                have y4 : IntKind.i64.wrap (-np) = x.price := by rw [← hnp, Int.neg_neg]; exact IntWalk.i64_in _ (by omega)
                have y5 : IntKind.i64.wrap (3 - m0) = x.s0 := by rw [show 3 - m0 = x.s0 by omega]; exact IntWalk.i64_in _ (by omega)
                have y6 : IntKind.i64.wrap (3 - m1) = x.s1 := by rw [show 3 - m1 = x.s1 by omega]; exact IntWalk.i64_in _ (by omega)
                clear hx hx2 hcq hcr hbl0 hbl1 hnp hm0 hm1 hl0 hl1 hqr hpr
                go_upto_region 21 with (fail)
                simp only [List.append]
                as_aux_lemma =>
                refine wp_region_quiet_lit (by as_aux_lemma => kernel_rfl) ?hB ?_
                case hB =>
                  refine lexB_of 95 (by kernel_rfl) (by as_aux_lemma => kernel_rfl) ?_ (by as_aux_lemma => kernel_rfl)
                  iterate 19 (refine steps_cons (by as_aux_lemma => kernel_rfl) ?_)
                  exact fun k h1 h2 => absurd h1 (by omega)
                as_aux_lemma =>
                iterate 16 (first | go_big_quiet_step (fail) | quiet_step (fail))
                as_aux_lemma =>
                iterate 16 (first | go_big_quiet_step (fail) | quiet_step (fail))
                as_aux_lemma =>
                iterate 16 (first | go_big_quiet_step (fail) | quiet_step (fail))
                as_aux_lemma =>
                iterate 16 (first | go_big_quiet_step (fail) | quiet_step (fail))
                as_aux_lemma =>
                iterate 16 (first | go_big_quiet_step (fail) | quiet_step (fail))
                as_aux_lemma =>
                repeat (any_goals (first | go_big_quiet_step (fail) | quiet_step (fail)))
                refine wpQuiet_nil ?_
                intro _ hw'
                obtain ⟨nq, hw''⟩ := hw'
                subst hw''
                as_aux_lemma =>
                clear a0 a1 a2 a3 a4 a5 e0 e1 e2 e3 e4 e5 y4 y5 y6
                go_wp2_with fail
                go_roundw
                case rel => exact ⟨l + 1, by go_num, by omega, T5.out.next (Below.drewN_of _ _), HRD.out.below (Below.drewN_of _ _), HRB.out.below (Below.drewN_of _ _)⟩
                case measure => simp [intOf]; omega
            · obtain rfl : l = A.length := by omega
              go_wp2_with fail
              refine (HSA.out _ HRD.out).mono ?_
              rintro e w7 ⟨rfl, hb⟩
              have T6 := Lib.hid (T5.out.next hb)
              have HRB2 := Lib.hid (HRB.out.below hb)
              clear hb T5 HRB HRD HSA
              go_wp2_with fail
              refine (HSB.out _ HRB2.out).mono ?_
              rintro e w8 ⟨rfl, hb⟩
              have T7 := Lib.hid (T6.out.next hb)
              clear hb T6 HRB2 HSB
              go_wp2_with fail
              go_roundw
              case rel => exact ⟨s + 1, rfl, by omega, by omega, T7.out⟩
              case measure => simp [intOf]; omega
        · go_wp2_with fail
          refine (known14_any _).mono ?_
          rintro e w9 ⟨rfl, hb⟩
          have T9 := Lib.hid (T3.out.next hb)
          clear hb T3
          go_wp2_with fail
          go_ret
          exact ⟨by trivial, T9.out.l.bel⟩
end Go.Proofs.Ytilficlanliinaa
