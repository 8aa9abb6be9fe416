/- The walk of cornhilllaw14.ImpliedShift. Printed by mk_ishift.py. -/
import Derived.Test.YtilficlanliinaaPShi
import Derived.Test.YtilficlanliinaaSameQ
import Derived.Deep.DeepCutAuto
import Derived.BigRegion
namespace Go.Proofs.Ytilficlanliinaa
open Go.RowKit

/-- append of one number, as a step of a region that draws its order -/
theorem step_push_int64 {w : World} {ops : Array Oper} {o : Oper} {a : Act} {K : Act → World → Prop} {Q : Exit → Act → World → Prop} {E : Prop} (hgd : o.guard = none) (s x : Operand)
    (ho : o.op = .call { callee := .builtin .append, args := #[s, x], argTypes := #[23, 23] })
    (B : Nat) (a0 : Option Addr) (c0 n : Nat) (L : List Int) (hn : L.length = n) (hs : a.eval s = .slice a0 n c0) (hown : RowI w B 2 (.slice a0 n c0) L)
    (g : Nat) (y : Int) (hx : a.eval x = .slice (some ⟨g, 0, none⟩) 1 1) (hc : w.cell? ⟨g, 0, none⟩ = some (.int .i64 y)) (hle : n ≤ 1000000) (hB : B ≤ w.heap.size)
    (h : ∀ g' cap w', RowI w' B 2 (.slice (some ⟨g', 0, none⟩) (n + 1) cap) (L ++ [y]) → w.grownBy w' (Value.slice a0 n c0).ownBlock → K (a.put o.dst (.slice (some ⟨g', 0, none⟩) (n + 1) cap)) w') :
    if Region.wanted o (yielded ops a.tmps) = true then Oper.wp Try.prog o a w K Q else E := by
  subst hn
  have hw : Region.wanted o (yielded ops a.tmps) = true := by simp [Region.wanted, hgd]
  rw [if_pos hw]
  obtain ⟨i0, hi, hz0, hz1, hz2⟩ := info_parts info_int64
  obtain ⟨v', w', hrun, h2, h3, h4, h5⟩ := run_append_own_at (P := Try.prog) w B 23 o.type 2 i0 _ 1 8 Try.underlying23 hi hz0 hz1 hz2 rfl (by omega) _ L.length _ hown ⟨g, 0, none⟩ 1 1 [.int .i64 y] rfl (by
    intro j u hj
    have hj0 : j = 0 := by have := lt_of_get hj; simp at this; exact this
    subst hj0
    simp at hj
    subst hj
    rw [add_at]; exact hc) (by
    intro u hu
    simp at hu
    subst hu
    rfl) (by unfold maxLen; omega) (by omega) hB
  obtain ⟨g', cap, rfl⟩ : ∃ g' cap, v' = .slice (some ⟨g', 0, none⟩) (L.length + 1) cap := by
    rcases h2.2 with ⟨_, h0⟩ | ⟨g', cap, _, hv, _⟩
    · omega
    · exact ⟨g', cap, hv⟩
  unfold Oper.wp execOp
  simp only [ho, resolve, invoke, builtin, Sem.run_bind, Sem.run_pure, Result.andThen_ok, List.map_toArray, List.map_cons, List.map_nil, hs, hx, hrun]
  refine h g' cap w' ?_ h3
  unfold RowI
  rw [List.length_append, List.map_append]
  exact h2
theorem shi_check {p : Prod} (h : checkP p = 0) {K : Int} (hd : p.tick ∣ K) (hK : 0 ≤ K ∧ K ≤ 100000) (hh : p.high + K ≤ 1000000) (sa : Option Addr) (sc : Nat) : checkP (p.band (p.low + K) (p.high + K) sa (p.settle.map (fun x => x + K)) sc) = 0 := by
  have hb := check_band h
  obtain ⟨d1, d2, d3, d4⟩ := check_dvd h
  refine band_check h sa sc ((Int.dvd_add_right d1).2 hd) ((Int.dvd_add_right d2).2 hd) (by omega) (by rw [List.length_map, check_slen h]) ?_
  intro x hx
  rw [List.mem_map] at hx
  obtain ⟨y, hy, rfl⟩ := hx
  obtain ⟨j, hj, rfl⟩ := List.getElem_of_mem hy
  have h1 := check_settle h (List.getElem?_eq_getElem hj)
  have h2 := d4 j _ (List.getElem?_eq_getElem hj)
  exact ⟨(Int.dvd_add_right h2).2 hd, by omega, by omega⟩
def scs (p : Prod) (K : Int) (sa : Option Addr) (sc k : Nat) : Array Value := #[.string p.code, .slice p.ma p.months.length p.mc, .int .i64 p.tick, .int .i64 (p.low + K), .int .i64 (p.high + K), .int .i64 p.wide, .int .i64 p.rule, .int .i64 p.top, .int .i64 p.least, .int .i64 p.part, .slice sa k sc]
theorem price_small {p : Prod} {k x : Int} (h : priceP p k x = 0) : -2000000 ≤ x ∧ x ≤ 2000000 := by
  unfold priceP at h
  split at h
  · omega
  · rename_i hc
    have hb := check_band (count_ne hc)
    split at h
    · omega
    · split at h
      · omega
      · split at h
        · omega
        · rename_i hx
          unfold lowP highP at hx
          split at hx <;> omega
/-- quotes of which the first i are moved back -/
def bkQ (A : List Qt) (K : Int) (i : Nat) : List Qt := A.take i ++ (A.drop i).map (addQ K)
theorem bkQ_zero (A : List Qt) (K : Int) : bkQ A K 0 = A.map (addQ K) := by simp [bkQ]
theorem bkQ_end (A : List Qt) (K : Int) : bkQ A K A.length = A := by simp [bkQ]
theorem bkQ_none (A : List Qt) (i : Nat) : bkQ A 0 i = A := by
  unfold bkQ
  rw [show addQ 0 = id from funext addQ_zero, List.map_id, List.take_append_drop]
theorem bkQ_get {A : List Qt} {K : Int} {i : Nat} {x : Qt} (h : A[i]? = some x) : (bkQ A K i)[i]? = some (addQ K x) := by
  have hl := lt_of_get h
  unfold bkQ
  rw [List.getElem?_append_right (by rw [List.length_take]; omega), List.length_take, List.getElem?_map, List.getElem?_drop, show i + (i - min i A.length) = i by omega, h]
  rfl
theorem bkQ_succ {A : List Qt} {K : Int} {i : Nat} {x : Qt} (h : A[i]? = some x) : (bkQ A K i).set i x = bkQ A K (i + 1) := by
  obtain ⟨hl, he⟩ := get_of h
  unfold bkQ
  rw [List.set_append_right _ _ (by rw [List.length_take]; omega), List.length_take, show i - min i A.length = 0 by omega, List.drop_eq_getElem_cons hl, List.map_cons, List.set_cons_zero, List.take_add_one, h, List.append_assoc]
  rfl
theorem bkQ_len (A : List Qt) (K : Int) (i : Nat) : (bkQ A K i).length = A.length := by
  unfold bkQ; rw [List.length_append, List.length_map, List.length_take, List.length_drop]; omega
theorem row_cells {α : Type} {Y : Lay α} {w : World} {B g n cap j : Nat} {L : List α} {e : α} (h : Y.Row w B (.slice (some ⟨g, 0, none⟩) n cap) L) (hj : L[j]? = some e) : CellsAt w g (j * Y.m) (Y.cells e) := by
  obtain ⟨g', cap', hv, _, hc⟩ := h.at_ j e hj
  injection hv with hv
  injection hv with hv
  injection hv with hv
  subst hv
  exact hc
theorem row_frz {α : Type} {Y : Lay α} {w : World} {B g n cap : Nat} {L : List α} (h : Y.Row w B (.slice (some ⟨g, 0, none⟩) n cap) L) (o : Nat) : w.frozen? ⟨g, o, none⟩ = false := by
  rcases h.2 with ⟨hv, _⟩ | ⟨g', cap', cur, hv, _, hh, _⟩
  · injection hv with hv; cases hv
  · injection hv with hv
    injection hv with hv
    injection hv with hv
    subst hv
    have hb : Blk w g Y.t cur := hh
    exact hb.frozen o
theorem row_base_le {α : Type} {Y : Lay α} {w : World} {B g n cap : Nat} {L : List α} (h : Y.Row w B (.slice (some ⟨g, 0, none⟩) n cap) L) : B ≤ g := own_base h g rfl
/-- where the walk stands: two products, the tops of each -/
structure L2 (w w1 : World) (gp : Nat) (p : Prod) (gq : Nat) (q : Prod) (gt : Nat) (S : List Tp) (gu : Nat) (U : List Tp) : Prop where
  l : LT w w1 gp p gt S
  bq : Blk w1 gq 25 q.cells
  vq : PV w1 q
  u : TP.Rd w1 (some ⟨gu, 0, none⟩) U
theorem L2.next {w w1 w2 : World} {gp : Nat} {p : Prod} {gq : Nat} {q : Prod} {gt : Nat} {S : List Tp} {gu : Nat} {U : List Tp} (h : L2 w w1 gp p gq q gt S gu U) (hb : Below w1.heap.size w1 w2) : L2 w w2 gp p gq q gt S gu U := ⟨h.l.next hb, h.bq.below hb, h.vq.below hb, h.u.below hb⟩
set_option maxRecDepth 100000 in
set_option maxHeartbeats 16000000 in
theorem ishift_any (px : Prod) (ta : Option Addr) (tc : Nat) (L : List Tp) (inst by_ : Int) (w : World) (hX : PIn w px) (hT : TP.Rd w ta L) (hok : ∀ x ∈ L, x.ok) (hL : L.length ≤ 9223372036854775807) (hi1 : -9223372036854775808 ≤ inst) (hi2 : inst ≤ 9223372036854775807) (hg1 : -9223372036854775808 ≤ by_) (hg2 : by_ ≤ 9223372036854775807) :
    Calls Try.prog 5 #[px.agg, .slice ta L.length tc, .int .i64 inst, .int .i64 by_] w fun e w' => e = .returned (.bool true) ∧ Below w.heap.size w w' := by
  have s1 : ∀ (w : World) (o : Obj), (w.alloc o).heap.size = w.heap.size + 1 := fun w o => by simp
  have hkp := keep_any px (w.alloc (.cells #[.string px.code, .slice px.ma px.months.length px.mc, .int .i64 px.tick, .int .i64 px.low, .int .i64 px.high, .int .i64 px.wide, .int .i64 px.rule, .int .i64 px.top, .int .i64 px.least, .int .i64 px.part, .slice px.sa px.settle.length px.sc] 25)) hX.px
  unfold Prod.agg Prod.cells at hkp ⊢
  have HB0 : Hid (Below w.heap.size w (w.alloc (.cells #[.string px.code, .slice px.ma px.months.length px.mc, .int .i64 px.tick, .int .i64 px.low, .int .i64 px.high, .int .i64 px.wide, .int .i64 px.rule, .int .i64 px.top, .int .i64 px.least, .int .i64 px.part, .slice px.sa px.settle.length px.sc] 25))) := Lib.hid (Below.allocN _ _)
  have HT := Lib.hid hT
  have HOK := Lib.hid hok
  clear hT hok
  go_enter Try.func5, Try.ntmps5
  go_wp2_with fail
  refine hkp.mono ?_
  rintro e w1 ⟨k, ma, mc, sa, sc, hko, rfl, hpv, hb1⟩
  have hck := keep_check k hko ma mc sa sc
  have hhi : (k.prod ma mc sa sc).high ≤ 1000 ∧ (k.prod ma mc sa sc).tick ≤ 10 := by
    have := hko.tick
    exact ⟨by show 100 * k.tick ≤ 1000; omega, by show k.tick ≤ 10; omega⟩
  have hB1 := HB0.out.trans (hb1.mono HB0.out.size)
  clear hkp hb1 HB0 hX hko
  generalize k.prod ma mc sa sc = p at *
  have htk := check_tick hck
  have hwi := withI_bd by_ 0 500 (by omega)
  have hmb := mul_bd htk.1 hwi.1 hwi.2
  have hmb2 := mul_bd (t := 500) (by omega) htk.1 hhi.2
  have HWB := Lib.hid fun w => within_any by_ 0 500 w hg1 hg2 (by omega) (by omega) (by omega)
  have hdv : p.tick ∣ p.tick * withI by_ 0 500 := Int.dvd_mul_right _ _
  generalize withI by_ 0 500 = wb at *
  obtain ⟨KK, hKe⟩ : ∃ KK : Int, p.tick * wb = KK := ⟨_, rfl⟩
  have hKB : 0 ≤ KK ∧ KK ≤ 100000 := by omega
  have yK : IntKind.i64.wrap (p.tick * wb) = KK := by rw [hKe]; exact IntWalk.i64_in _ (by omega)
  rw [hKe] at hdv
  have HDV := Lib.hid hdv
  have HKE := Lib.hid hKe
  have hsh := shi_check hck hdv hKB (by omega)
  clear hdv hwi hmb hmb2 hKe
  go_upto_region 2 with (fail)
  have hbx : Blk (w1.alloc (.cells #[.string p.code, .slice p.ma p.months.length p.mc, .int .i64 p.tick, .int .i64 p.low, .int .i64 p.high, .int .i64 p.wide, .int .i64 p.rule, .int .i64 p.top, .int .i64 p.least, .int .i64 p.part, .slice p.sa p.settle.length p.sc] 25)) w1.heap.size 25 p.cells := Blk.new _ _ _
  have HBW := Lib.hid hB1
  have HPV := Lib.hid hpv
  have HSH := Lib.hid hsh
  have HCK := Lib.hid hck
  have hB2 : Below w1.heap.size w1 (w1.alloc (.cells #[.string p.code, .slice p.ma p.months.length p.mc, .int .i64 p.tick, .int .i64 p.low, .int .i64 p.high, .int .i64 p.wide, .int .i64 p.rule, .int .i64 p.top, .int .i64 p.least, .int .i64 p.part, .slice p.sa p.settle.length p.sc] 25)) := Below.allocN _ _
  clear hpv hB1 hck hsh
  obtain ⟨gp, hgp⟩ : ∃ gp, w1.heap.size = gp := ⟨_, rfl⟩
  have hgs : (w1.alloc (.cells #[.string p.code, .slice p.ma p.months.length p.mc, .int .i64 p.tick, .int .i64 p.low, .int .i64 p.high, .int .i64 p.wide, .int .i64 p.rule, .int .i64 p.top, .int .i64 p.least, .int .i64 p.part, .slice p.sa p.settle.length p.sc] 25)).heap.size = gp + 1 := by rw [s1, hgp]
  have HGP := Lib.hid hgp
  rw [hgp] at hbx ⊢
  clear hgp
  generalize (w1.alloc (.cells #[.string p.code, .slice p.ma p.months.length p.mc, .int .i64 p.tick, .int .i64 p.low, .int .i64 p.high, .int .i64 p.wide, .int .i64 p.rule, .int .i64 p.top, .int .i64 p.least, .int .i64 p.part, .slice p.sa p.settle.length p.sc] 25)) = w2 at *
  have HBX := Lib.hid hbx
  have HB2 := Lib.hid hB2
  have b2 : w2.cell? ⟨gp, 2, none⟩ = some (.int .i64 p.tick) := by rw [hbx.cell]; rfl
  clear hbx hB2
  refine wp_region_E (S := fun w' => w'.cell? ⟨gp, 2, none⟩ = some (.int .i64 p.tick)) (by kernel_rfl) b2 (fun hHeld => ?_)
  refine wpE_take (i := 0) (oi := ?oi5) (v := ?v5) ?hi5 (by kernel_rfl) (by kernel_rfl) (by kernel_rfl) (by kernel_rfl) ?hQ5 ?hy5 (by assumption) ?rest5
  case hi5 => (simp only [List.getElem?_toArray]; rfl)
  case hQ5 => exact fun _ _ _ h => h
  case hy5 => exact Or.inl ⟨by rfl, by (intro w hSw; (try dsimp only at hSw); go_simp; try with_reducible rfl)⟩
  try simp only [Act.put, List.setIfInBounds_toArray, List.set_cons_zero, List.set_cons_succ]
  refine wpE_take (i := 1) (oi := ?oi6) (v := ?v6) ?hi6 (by kernel_rfl) (by kernel_rfl) (by kernel_rfl) (by kernel_rfl) ?hQ6 ?hy6 (by assumption) ?rest6
  case hi6 => (simp only [List.getElem?_toArray]; rfl)
  case hQ6 => exact fun _ _ _ h => h
  case hy6 => exact Or.inl ⟨by rfl, by (intro w hSw; (try dsimp only at hSw); go_simp; try with_reducible rfl)⟩
  try simp only [Act.put, List.setIfInBounds_toArray, List.set_cons_zero, List.set_cons_succ]
  refine wpE_take (i := 2) (oi := ?oi7) (v := ?v7) ?hi7 (by kernel_rfl) (by kernel_rfl) (by kernel_rfl) (by kernel_rfl) ?hQ7 ?hy7 (by assumption) ?rest7
  case hi7 => (simp only [List.getElem?_toArray]; rfl)
  case hQ7 => exact fun _ _ _ h => h
  case hy7 => exact Or.inl ⟨by rfl, by (intro w hSw; (try dsimp only at hSw); go_simp; try with_reducible rfl)⟩
  try simp only [Act.put, List.setIfInBounds_toArray, List.set_cons_zero, List.set_cons_succ]
  refine wpE_one (i := 3) (o := ?o36) ?ho36 (by kernel_rfl) (fun K hK => ?_)
  case ho36 => (simp only [List.getElem?_toArray]; rfl)
  go_simp
  go_at_call 12
  refine (HWB.out _).mono ?_
  rintro e w3 ⟨rfl, rfl⟩
  refine hK.out _ _ b2 (fun hHeld => ?_)
  clear hK K
  refine wpE_of_held _ _ _ _ ?_
  refine wpAnyH_take (i := 4) (oi := ?oi1) (v := ?v1) ?hi1 (by kernel_rfl) (by kernel_rfl) (by kernel_rfl) ?hQ1 ?hy1 (by assumption) ?rest1
  case hi1 => (simp only [List.getElem?_toArray]; rfl)
  case hQ1 => exact fun _ _ _ h => h
  case hy1 => exact Or.inl ⟨by rfl, by (intro w hSw; (try dsimp only at hSw); go_simp; try with_reducible rfl)⟩
  try simp only [Act.put, List.setIfInBounds_toArray, List.set_cons_zero, List.set_cons_succ]
  refine wpAnyH_take (i := 5) (oi := ?oi2) (v := ?v2) ?hi2 (by kernel_rfl) (by kernel_rfl) (by kernel_rfl) ?hQ2 ?hy2 (by assumption) ?rest2
  case hi2 => (simp only [List.getElem?_toArray]; rfl)
  case hQ2 => exact fun _ _ _ h => h
  case hy2 => exact Or.inl ⟨by rfl, by (intro w hSw; (try dsimp only at hSw); go_simp; try with_reducible rfl)⟩
  try simp only [Act.put, List.setIfInBounds_toArray, List.set_cons_zero, List.set_cons_succ]
  refine wpAnyH_done (by kernel_rfl) ?_ _
  clear hHeld b2 HWB
  have hbx2 := HBX.out.drew
  have hB2 := HB2.out.drew
  have hgs2 : w2.drew.heap.size = gp + 1 := hgs
  clear hgs HBX HB2
  generalize w2.drew = w3 at *
  obtain ⟨b0, b1, b2, b3, b4, b5, b6, b7, b8, b9, b10⟩ := PC.of5 hbx2
  go_upto_region 4 with (fail)
  clear b0 b1 b2 b3 b4 b5 b6 b7 b8 b9 b10
  have hp0 : Blk ((w3.alloc (.cells #[.string p.code, .slice p.ma p.months.length p.mc, .int .i64 p.tick, .int .i64 p.low, .int .i64 p.high, .int .i64 p.wide, .int .i64 p.rule, .int .i64 p.top, .int .i64 p.least, .int .i64 p.part, .slice p.sa p.settle.length p.sc] 25))) gp 25 p.cells := hbx2.alloc _
  have hq0 : Blk ((w3.alloc (.cells #[.string p.code, .slice p.ma p.months.length p.mc, .int .i64 p.tick, .int .i64 p.low, .int .i64 p.high, .int .i64 p.wide, .int .i64 p.rule, .int .i64 p.top, .int .i64 p.least, .int .i64 p.part, .slice p.sa p.settle.length p.sc] 25))) (gp + 1) 25 p.cells := by
    have := Blk.new w3 25 p.cells
    rw [hgs2] at this
    exact this
  have hb0 : Below w1.heap.size w1 ((w3.alloc (.cells #[.string p.code, .slice p.ma p.months.length p.mc, .int .i64 p.tick, .int .i64 p.low, .int .i64 p.high, .int .i64 p.wide, .int .i64 p.rule, .int .i64 p.top, .int .i64 p.least, .int .i64 p.part, .slice p.sa p.settle.length p.sc] 25))) := hB2.alloc hB2.size _
  unfold Prod.cells at hp0 hq0 hb0

  clear hbx2 hB2 hgs2
  generalize (w3.alloc (.cells #[.string p.code, .slice p.ma p.months.length p.mc, .int .i64 p.tick, .int .i64 p.low, .int .i64 p.high, .int .i64 p.wide, .int .i64 p.rule, .int .i64 p.top, .int .i64 p.least, .int .i64 p.part, .slice p.sa p.settle.length p.sc] 25)) = wa at *
  obtain ⟨gq, hgq⟩ : ∃ gq, gp + 1 = gq := ⟨_, rfl⟩
  rw [hgq] at hq0 ⊢
  have b3 : wa.cell? ⟨gp, 3, none⟩ = some (.int .i64 p.low) := by rw [hp0.cell]; rfl
  have b4 : wa.cell? ⟨gp, 4, none⟩ = some (.int .i64 p.high) := by rw [hp0.cell]; rfl
  have q3 : wa.cell? ⟨gq, 3, none⟩ = some (.int .i64 p.low) := by rw [hq0.cell]; rfl
  have q4 : wa.cell? ⟨gq, 4, none⟩ = some (.int .i64 p.high) := by rw [hq0.cell]; rfl
  have f3 : wa.frozen? ⟨gq, 3, none⟩ = false := hq0.frozen 3
  have f4 : wa.frozen? ⟨gq, 4, none⟩ = false := hq0.frozen 4
  have hbd := check_band HCK.out
  have y1 : IntKind.i64.wrap (p.low + KK) = p.low + KK := IntWalk.i64_in _ (by omega)
  have y2 : IntKind.i64.wrap (p.high + KK) = p.high + KK := IntWalk.i64_in _ (by omega)
  have hne : gp ≠ gq := by omega
  have HNE := Lib.hid hne
  have HGQ : Hid (w1.heap.size ≤ gq) := Lib.hid (by rw [HGP.out]; omega)
  clear hgq hne
  have HP0 := Lib.hid hp0
  have HQ0 := Lib.hid hq0
  have HBA := Lib.hid hb0
  clear hp0 hq0 hb0
  have bb3 : (wa.setCell ⟨gq, 3, none⟩ (.int .i64 (p.low + KK))).cell? ⟨gp, 3, none⟩ = some (.int .i64 p.low) := by rw [(HP0.out.far (p := ⟨gq, 3, none⟩) HNE.out _).cell]; rfl
  have bb4 : (wa.setCell ⟨gq, 3, none⟩ (.int .i64 (p.low + KK))).cell? ⟨gp, 4, none⟩ = some (.int .i64 p.high) := by rw [(HP0.out.far (p := ⟨gq, 3, none⟩) HNE.out _).cell]; rfl
  have hq1 := HQ0.out.set_ 3 (.int .i64 (p.low + KK))
  have qq4 : (wa.setCell ⟨gq, 3, none⟩ (.int .i64 (p.low + KK))).cell? ⟨gq, 4, none⟩ = some (.int .i64 p.high) := by rw [hq1.cell]; rfl
  have ff4 : (wa.setCell ⟨gq, 3, none⟩ (.int .i64 (p.low + KK))).frozen? ⟨gq, 4, none⟩ = false := hq1.frozen 4
  clear hq1
  refine wp_region_E (S := fun w' => w'.cell? ⟨gp, 3, none⟩ = some (.int .i64 p.low) ∧ w'.cell? ⟨gp, 4, none⟩ = some (.int .i64 p.high)) (by kernel_rfl) ⟨b3, b4⟩ (fun hHeld => ?_)
  refine wpE_take (i := 0) (oi := ?oi8) (v := ?v8) ?hi8 (by kernel_rfl) (by kernel_rfl) (by kernel_rfl) (by kernel_rfl) ?hQ8 ?hy8 (by assumption) ?rest8
  case hi8 => (simp only [List.getElem?_toArray]; rfl)
  case hQ8 => exact fun _ _ _ h => h
  case hy8 => exact Or.inl ⟨by rfl, by (intro w hSw; (try dsimp only at hSw); go_simp; try with_reducible rfl)⟩
  try simp only [Act.put, List.setIfInBounds_toArray, List.set_cons_zero, List.set_cons_succ]
  refine wpE_take (i := 1) (oi := ?oi9) (v := ?v9) ?hi9 (by kernel_rfl) (by kernel_rfl) (by kernel_rfl) (by kernel_rfl) ?hQ9 ?hy9 (by assumption) ?rest9
  case hi9 => (simp only [List.getElem?_toArray]; rfl)
  case hQ9 => exact fun _ _ _ h => h
  case hy9 => exact Or.inl ⟨by rfl, by (intro w hSw; (try dsimp only at hSw); go_simp; try with_reducible rfl)⟩
  try simp only [Act.put, List.setIfInBounds_toArray, List.set_cons_zero, List.set_cons_succ]
  refine wpE_take (i := 2) (oi := ?oi10) (v := ?v10) ?hi10 (by kernel_rfl) (by kernel_rfl) (by kernel_rfl) (by kernel_rfl) ?hQ10 ?hy10 (by assumption) ?rest10
  case hi10 => (simp only [List.getElem?_toArray]; rfl)
  case hQ10 => exact fun _ _ _ h => h
  case hy10 => exact Or.inl ⟨by rfl, by (intro w hSw; (try dsimp only at hSw); go_simp; try with_reducible rfl)⟩
  try simp only [Act.put, List.setIfInBounds_toArray, List.set_cons_zero, List.set_cons_succ]
  refine wpE_take (i := 3) (oi := ?oi11) (v := ?v11) ?hi11 (by kernel_rfl) (by kernel_rfl) (by kernel_rfl) (by kernel_rfl) ?hQ11 ?hy11 (by assumption) ?rest11
  case hi11 => (simp only [List.getElem?_toArray]; rfl)
  case hQ11 => exact fun _ _ _ h => h
  case hy11 => exact Or.inl ⟨by rfl, by (intro w hSw; (try dsimp only at hSw); go_simp; try with_reducible rfl)⟩
  try simp only [Act.put, List.setIfInBounds_toArray, List.set_cons_zero, List.set_cons_succ]
  refine wpE_take (i := 4) (oi := ?oi12) (v := ?v12) ?hi12 (by kernel_rfl) (by kernel_rfl) (by kernel_rfl) (by kernel_rfl) ?hQ12 ?hy12 (by assumption) ?rest12
  case hi12 => (simp only [List.getElem?_toArray]; rfl)
  case hQ12 => exact fun _ _ _ h => h
  case hy12 => exact Or.inl ⟨by rfl, by (intro w hSw; (try dsimp only at hSw); go_simp; try with_reducible rfl)⟩
  try simp only [Act.put, List.setIfInBounds_toArray, List.set_cons_zero, List.set_cons_succ]
  refine wpE_take (i := 5) (oi := ?oi13) (v := ?v13) ?hi13 (by kernel_rfl) (by kernel_rfl) (by kernel_rfl) (by kernel_rfl) ?hQ13 ?hy13 (by assumption) ?rest13
  case hi13 => (simp only [List.getElem?_toArray]; rfl)
  case hQ13 => exact fun _ _ _ h => h
  case hy13 => exact Or.inl ⟨by rfl, by (intro w hSw; (try dsimp only at hSw); go_simp; try with_reducible rfl)⟩
  try simp only [Act.put, List.setIfInBounds_toArray, List.set_cons_zero, List.set_cons_succ]
  refine wpE_take (i := 6) (oi := ?oi14) (v := ?v14) ?hi14 (by kernel_rfl) (by kernel_rfl) (by kernel_rfl) (by kernel_rfl) ?hQ14 ?hy14 (by assumption) ?rest14
  case hi14 => (simp only [List.getElem?_toArray]; rfl)
  case hQ14 => exact fun _ _ _ h => h
  case hy14 => exact Or.inl ⟨by rfl, by (intro w hSw; (try dsimp only at hSw); go_simp; try with_reducible rfl)⟩
  try simp only [Act.put, List.setIfInBounds_toArray, List.set_cons_zero, List.set_cons_succ]
  refine wpE_take (i := 7) (oi := ?oi15) (v := ?v15) ?hi15 (by kernel_rfl) (by kernel_rfl) (by kernel_rfl) (by kernel_rfl) ?hQ15 ?hy15 (by assumption) ?rest15
  case hi15 => (simp only [List.getElem?_toArray]; rfl)
  case hQ15 => exact fun _ _ _ h => h
  case hy15 => exact Or.inl ⟨by rfl, by (intro w hSw; (try dsimp only at hSw); go_simp; try with_reducible rfl)⟩
  try simp only [Act.put, List.setIfInBounds_toArray, List.set_cons_zero, List.set_cons_succ]
  refine wpE_take (i := 8) (oi := ?oi16) (v := ?v16) ?hi16 (by kernel_rfl) (by kernel_rfl) (by kernel_rfl) (by kernel_rfl) ?hQ16 ?hy16 (by assumption) ?rest16
  case hi16 => (simp only [List.getElem?_toArray]; rfl)
  case hQ16 => exact fun _ _ _ h => h
  case hy16 => exact Or.inl ⟨by rfl, by (intro w hSw; (try dsimp only at hSw); go_simp; try with_reducible rfl)⟩
  try simp only [Act.put, List.setIfInBounds_toArray, List.set_cons_zero, List.set_cons_succ]
  refine wpE_one (i := 9) (o := ?o37) ?ho37 (by kernel_rfl) (fun K hK => ?_)
  case ho37 => (simp only [List.getElem?_toArray]; rfl)
  go_simp
  refine hK.out _ _ ⟨bb3, bb4⟩ (fun hHeld => ?_)
  clear hK K
  refine wpE_take (i := 10) (oi := ?oi17) (v := ?v17) ?hi17 (by kernel_rfl) (by kernel_rfl) (by kernel_rfl) (by kernel_rfl) ?hQ17 ?hy17 (by assumption) ?rest17
  case hi17 => (simp only [List.getElem?_toArray]; rfl)
  case hQ17 => exact fun _ _ _ h => h
  case hy17 => exact Or.inl ⟨by rfl, by (intro w hSw; (try dsimp only at hSw); go_simp; try with_reducible rfl)⟩
  try simp only [Act.put, List.setIfInBounds_toArray, List.set_cons_zero, List.set_cons_succ]
  refine wpE_last (i := 11) (o := ?o42) ?ho42 (by kernel_rfl) (by kernel_rfl) (by kernel_rfl) (fun K hK => ?_)
  case ho42 => (simp only [List.getElem?_toArray]; rfl)
  go_simp
  refine hK.out _ _ ?_
  clear hK K
  clear b3 b4 q3 q4 f3 f4 y1 y2 bb3 bb4 qq4 ff4 hHeld
  have hk0 : Keeps (fun g => g = gq) wa ((wa.setCell ⟨gq, 3, none⟩ (.int .i64 (p.low + KK))).setCell ⟨gq, 4, none⟩ (.int .i64 (p.high + KK))).drew :=
    (((Keeps.refl (fun g => g = gq) wa).setCell (p := ⟨gq, 3, none⟩) (fun _ => rfl) _).setCell (p := ⟨gq, 4, none⟩) (fun _ => rfl) _).drew
  have hq2 : Blk ((wa.setCell ⟨gq, 3, none⟩ (.int .i64 (p.low + KK))).setCell ⟨gq, 4, none⟩ (.int .i64 (p.high + KK))).drew gq 25 (scs p KK p.sa p.sc p.settle.length) := (HQ0.out.set_ 3 (.int .i64 (p.low + KK))).set_ 4 (.int .i64 (p.high + KK))
  have hp2 := HP0.out.keeps hk0 HNE.out
  have hb2 : Below w1.heap.size w1 ((wa.setCell ⟨gq, 3, none⟩ (.int .i64 (p.low + KK))).setCell ⟨gq, 4, none⟩ (.int .i64 (p.high + KK))).drew := HBA.out.trans (hk0.below (fun g hg => by (have hg' : g = gq := hg); rw [hg']; exact HGQ.out) HBA.out.size)
  clear hk0 HP0 HQ0 HBA
  generalize ((wa.setCell ⟨gq, 3, none⟩ (.int .i64 (p.low + KK))).setCell ⟨gq, 4, none⟩ (.int .i64 (p.high + KK))).drew = wb0 at *
  have q10 : wb0.cell? ⟨gq, 10, none⟩ = some (.slice p.sa p.settle.length p.sc) := by rw [hq2.cell]; rfl
  have f10 : wb0.frozen? ⟨gq, 10, none⟩ = false := hq2.frozen 10
  have hk3 : Keeps (fun g => g = gq) wb0 (wb0.setCell ⟨gq, 10, none⟩ (.slice none 0 0)) := (Keeps.refl (fun g => g = gq) wb0).setCell (p := ⟨gq, 10, none⟩) (fun _ => rfl) _
  have HQ3 : Hid (Blk (wb0.setCell ⟨gq, 10, none⟩ (.slice none 0 0)) gq 25 (scs p KK none 0 0)) := Lib.hid (hq2.set_ 10 (.slice none 0 0))
  have HP3 := Lib.hid (hp2.keeps hk3 HNE.out)
  have HB3 := Lib.hid (hb2.trans (hk3.below (fun g hg => by (have hg' : g = gq := hg); rw [hg']; exact HGQ.out) hb2.size))
  clear hq2 hp2 hb2 hk3
  go_wp2_with fail
  clear q10 f10
  generalize wb0.setCell ⟨gq, 10, none⟩ (.slice none 0 0) = wc0 at *
  go_loopw [12] (fun i w' => ∃ k : Nat, i = .int .i64 k ∧ k ≤ p.settle.length ∧ ∃ sa sc, Blk w' gp 25 p.cells ∧ Blk w' gq 25 (scs p KK sa sc k) ∧ RowI w' w1.heap.size 2 (.slice sa k sc) ((p.settle.take k).map (fun x => x + KK)) ∧ Below w1.heap.size w1 w') (fun i _ => p.settle.length - (intOf i).toNat)
  case atStart => exact ⟨0, rfl, Nat.zero_le _, none, 0, HP3.out, HQ3.out, World.ownsRow_nil _ _ _ _, HB3.out⟩
  case round =>
    clear HP3 HQ3 HB3
    obtain ⟨k, rfl, hk, sa, sc, hP, hQ, hS, hB⟩ := hrel
    obtain ⟨wo, rfl⟩ : ∃ wo : World, wo = wr := ⟨_, rfl⟩
    have HP := Lib.hid hP
    have HQ := Lib.hid hQ
    have HS := Lib.hid hS
    have HB := Lib.hid hB
    clear hP hQ hS hB
    by_cases hkn : k < p.settle.length
    · have hkn' : (k : Int) < (p.settle.length : Int) := by omega
      obtain ⟨x, hx⟩ : ∃ x, p.settle[k]? = some x := ⟨_, List.getElem?_eq_getElem hkn⟩
      have hxb := check_settle HCK.out hx
      have hbd := check_band HCK.out
      have hs6 : p.settle.length ≤ 6 := by rw [check_slen HCK.out]; exact (check_len HCK.out).2
      have hpv := HPV.out.set_
      obtain ⟨_, b, off, hsa, hbl, c0⟩ := hpv k x hx
      have HC0 : Hid (∀ wv, Below w1.heap.size w1 wv → wv.cell? ⟨b, off + k, none⟩ = some (.int .i64 x)) := Lib.hid fun wv hb => (hb.cell (p := ⟨b, off + k, none⟩) hbl).trans c0
      have c0o := HC0.out wo HB.out
      have b10 : wo.cell? ⟨gp, 10, none⟩ = some (.slice (some ⟨b, off, none⟩) p.settle.length p.sc) := by rw [HP.out.cell, ← hsa]; rfl
      have q10 : wo.cell? ⟨gq, 10, none⟩ = some (.slice sa k sc) := by rw [HQ.out.cell]; rfl
      have HTK : Hid ((p.settle.take (k + 1)).map (fun x => x + KK) = (p.settle.take k).map (fun x => x + KK) ++ [x + KK]) := Lib.hid (by
        rw [List.take_succ_eq_append_getElem hkn, List.map_append]
        obtain ⟨_, h⟩ := get_of hx
        rw [h]; rfl)
      have HLK : Hid (((p.settle.take k).map (fun x => x + KK)).length = k) := Lib.hid (by rw [List.length_map, List.length_take]; omega)
      have HSA := Lib.hid hsa
      obtain ⟨xk, hxk⟩ : ∃ xk, x + KK = xk := ⟨_, rfl⟩
      rw [hxk] at HTK
      have y1 : IntKind.i64.wrap (x + KK) = xk := by rw [← hxk]; exact IntWalk.i64_in _ (by omega)
      have hlt7 := HP.out.lt
      have hlt8 := HQ.out.lt
      clear hx hpv hsa c0 hxk hxb hbd
      have b10p : (wo.alloc (.cells #[.int .i64 xk] 2)).drew.cell? ⟨gp, 10, none⟩ = some (.slice (some ⟨b, off, none⟩) p.settle.length p.sc) := ((Below.allocN wo (.cells #[.int .i64 xk] 2)).cell (p := ⟨gp, 10, none⟩) hlt7).trans b10
      have q10p : (wo.alloc (.cells #[.int .i64 xk] 2)).drew.cell? ⟨gq, 10, none⟩ = some (.slice sa k sc) := ((Below.allocN wo (.cells #[.int .i64 xk] 2)).cell (p := ⟨gq, 10, none⟩) hlt8).trans q10
      have c0p : (wo.alloc (.cells #[.int .i64 xk] 2)).drew.cell? ⟨b, off + k, none⟩ = some (.int .i64 x) := HC0.out _ (HB.out.alloc HB.out.size _).drew
      go_wp2_with fail
      refine wp_region_E (S := fun w' => w'.cell? ⟨gp, 10, none⟩ = some (.slice (some ⟨b, off, none⟩) p.settle.length p.sc) ∧ w'.cell? ⟨gq, 10, none⟩ = some (.slice sa k sc) ∧ w'.cell? ⟨b, off + k, none⟩ = some (.int .i64 x)) (by kernel_rfl) ⟨b10, q10, c0o⟩ (fun hHeld => ?_)
      refine wpE_take (i := 0) (oi := ?oi18) (v := ?v18) ?hi18 (by kernel_rfl) (by kernel_rfl) (by kernel_rfl) (by kernel_rfl) ?hQ18 ?hy18 (by assumption) ?rest18
      case hi18 => (simp only [List.getElem?_toArray]; rfl)
      case hQ18 => exact fun _ _ _ h => h
      case hy18 => exact Or.inl ⟨by rfl, by (intro w hSw; (try dsimp only at hSw); go_simp; try with_reducible rfl)⟩
      try simp only [Act.put, List.setIfInBounds_toArray, List.set_cons_zero, List.set_cons_succ]
      refine wpE_take (i := 1) (oi := ?oi19) (v := ?v19) ?hi19 (by kernel_rfl) (by kernel_rfl) (by kernel_rfl) (by kernel_rfl) ?hQ19 ?hy19 (by assumption) ?rest19
      case hi19 => (simp only [List.getElem?_toArray]; rfl)
      case hQ19 => exact fun _ _ _ h => h
      case hy19 => exact Or.inl ⟨by rfl, by (intro w hSw; (try dsimp only at hSw); go_simp; try with_reducible rfl)⟩
      try simp only [Act.put, List.setIfInBounds_toArray, List.set_cons_zero, List.set_cons_succ]
      refine wpE_take (i := 2) (oi := ?oi20) (v := ?v20) ?hi20 (by kernel_rfl) (by kernel_rfl) (by kernel_rfl) (by kernel_rfl) ?hQ20 ?hy20 (by assumption) ?rest20
      case hi20 => (simp only [List.getElem?_toArray]; rfl)
      case hQ20 => exact fun _ _ _ h => h
      case hy20 => exact Or.inl ⟨by rfl, by (intro w hSw; (try dsimp only at hSw); go_simp; try with_reducible rfl)⟩
      try simp only [Act.put, List.setIfInBounds_toArray, List.set_cons_zero, List.set_cons_succ]
      refine wpE_take (i := 3) (oi := ?oi21) (v := ?v21) ?hi21 (by kernel_rfl) (by kernel_rfl) (by kernel_rfl) (by kernel_rfl) ?hQ21 ?hy21 (by assumption) ?rest21
      case hi21 => (simp only [List.getElem?_toArray]; rfl)
      case hQ21 => exact fun _ _ _ h => h
      case hy21 => exact Or.inl ⟨by rfl, by (intro w hSw; (try dsimp only at hSw); go_simp; try with_reducible rfl)⟩
      try simp only [Act.put, List.setIfInBounds_toArray, List.set_cons_zero, List.set_cons_succ]
      refine wpE_take (i := 4) (oi := ?oi22) (v := ?v22) ?hi22 (by kernel_rfl) (by kernel_rfl) (by kernel_rfl) (by kernel_rfl) ?hQ22 ?hy22 (by assumption) ?rest22
      case hi22 => (simp only [List.getElem?_toArray]; rfl)
      case hQ22 => exact fun _ _ _ h => h
      case hy22 => exact Or.inl ⟨by rfl, by (intro w hSw; (try dsimp only at hSw); go_simp; try with_reducible rfl)⟩
      try simp only [Act.put, List.setIfInBounds_toArray, List.set_cons_zero, List.set_cons_succ]
      refine wpE_take (i := 5) (oi := ?oi23) (v := ?v23) ?hi23 (by kernel_rfl) (by kernel_rfl) (by kernel_rfl) (by kernel_rfl) ?hQ23 ?hy23 (by assumption) ?rest23
      case hi23 => (simp only [List.getElem?_toArray]; rfl)
      case hQ23 => exact fun _ _ _ h => h
      case hy23 => exact Or.inl ⟨by rfl, by (intro w hSw; (try dsimp only at hSw); go_simp; try with_reducible rfl)⟩
      try simp only [Act.put, List.setIfInBounds_toArray, List.set_cons_zero, List.set_cons_succ]
      refine wpE_take (i := 6) (oi := ?oi24) (v := ?v24) ?hi24 (by kernel_rfl) (by kernel_rfl) (by kernel_rfl) (by kernel_rfl) ?hQ24 ?hy24 (by assumption) ?rest24
      case hi24 => (simp only [List.getElem?_toArray]; rfl)
      case hQ24 => exact fun _ _ _ h => h
      case hy24 => exact Or.inl ⟨by rfl, by (intro w hSw; (try dsimp only at hSw); go_simp; try with_reducible rfl)⟩
      try simp only [Act.put, List.setIfInBounds_toArray, List.set_cons_zero, List.set_cons_succ]
      refine wpE_take (i := 7) (oi := ?oi25) (v := ?v25) ?hi25 (by kernel_rfl) (by kernel_rfl) (by kernel_rfl) (by kernel_rfl) ?hQ25 ?hy25 (by assumption) ?rest25
      case hi25 => (simp only [List.getElem?_toArray]; rfl)
      case hQ25 => exact fun _ _ _ h => h
      case hy25 => exact Or.inl ⟨by rfl, by (intro w hSw; (try dsimp only at hSw); go_simp; try with_reducible rfl)⟩
      try simp only [Act.put, List.setIfInBounds_toArray, List.set_cons_zero, List.set_cons_succ]
      refine wpE_take (i := 8) (oi := ?oi26) (v := ?v26) ?hi26 (by kernel_rfl) (by kernel_rfl) (by kernel_rfl) (by kernel_rfl) ?hQ26 ?hy26 (by assumption) ?rest26
      case hi26 => (simp only [List.getElem?_toArray]; rfl)
      case hQ26 => exact fun _ _ _ h => h
      case hy26 => exact Or.inl ⟨by rfl, by (intro w hSw; (try dsimp only at hSw); go_simp; try with_reducible rfl)⟩
      try simp only [Act.put, List.setIfInBounds_toArray, List.set_cons_zero, List.set_cons_succ]
      refine wpE_one (i := 9) (o := ?o38) ?ho38 (by kernel_rfl) (fun K hK => ?_)
      case ho38 => (simp only [List.getElem?_toArray]; rfl)
      go_simp
      refine hK.out _ _ ⟨b10p, q10p, c0p⟩ (fun hHeld => ?_)
      clear hK K
      refine wpE_one (i := 10) (o := ?o39) ?ho39 (by kernel_rfl) (fun K hK => ?_)
      case ho39 => (simp only [List.getElem?_toArray]; rfl)
      refine step_push_int64 (by rfl) (.tmp 48) (.tmp 56) (by rfl) w1.heap.size sa sc k ((p.settle.take k).map (fun x => x + KK)) HLK.out (by rfl) (own_below (own_below HS.out (Below.allocN wo (.cells #[.int .i64 xk] 2))) (Below.drewN_of _ 1)) wo.heap.size xk (by rfl) (by rw [((Blk.new wo 2 #[.int .i64 xk]).drew).cell]; rfl) (by omega) (by have := HB.out.size; rw [show (wo.alloc (.cells #[.int .i64 xk] 2)).drew.heap.size = wo.heap.size + 1 from s1 _ _]; omega) ?_
      intro g1 cap1 w5 hr5 hg5
      have hg5' : (wo.alloc (.cells #[.int .i64 xk] 2)).grownBy w5 (Value.slice sa k sc).ownBlock := ⟨hg5.os, hg5.tape, hg5.output, hg5.size, hg5.block⟩
      have hp5 := grow_blk HS.out hg5' HP.out (by decide)
      have hq5 := grow_blk HS.out hg5' HQ.out (by decide)
      have hb5 := grow_below HS.out hg5' HB.out
      have b105 : w5.cell? ⟨gp, 10, none⟩ = some (.slice (some ⟨b, off, none⟩) p.settle.length p.sc) := by rw [hp5.cell, ← HSA.out]; rfl
      have q105 : w5.cell? ⟨gq, 10, none⟩ = some (.slice sa k sc) := by rw [hq5.cell]; rfl
      have f105 : w5.frozen? ⟨gq, 10, none⟩ = false := hq5.frozen 10
      have c05 := HC0.out w5 hb5
      rw [← HTK.out] at hr5
      have HR5 := Lib.hid hr5
      have HP5 := Lib.hid hp5
      have HQ5 := Lib.hid hq5
      have HB5 := Lib.hid hb5
      clear hr5 hg5 hg5' hp5 hq5 hb5
      refine hK.out _ _ ⟨b105, q105, c05⟩ (fun hHeld => ?_)
      clear hK K
      refine wpE_take (i := 11) (oi := ?oi27) (v := ?v27) ?hi27 (by kernel_rfl) (by kernel_rfl) (by kernel_rfl) (by kernel_rfl) ?hQ27 ?hy27 (by assumption) ?rest27
      case hi27 => (simp only [List.getElem?_toArray]; rfl)
      case hQ27 => exact fun _ _ _ h => h
      case hy27 => exact Or.inl ⟨by rfl, by (intro w hSw; (try dsimp only at hSw); go_simp; try with_reducible rfl)⟩
      try simp only [Act.put, List.setIfInBounds_toArray, List.set_cons_zero, List.set_cons_succ]
      refine wpE_last (i := 12) (o := ?o43) ?ho43 (by kernel_rfl) (by kernel_rfl) (by kernel_rfl) (fun K hK => ?_)
      case ho43 => (simp only [List.getElem?_toArray]; rfl)
      go_simp
      refine hK.out _ _ ?_
      clear hK K hHeld b10 q10 c0o b10p q10p c0p b105 q105 f105 c05 HC0
      have hk6 : Keeps (fun g => g = gq) w5 (w5.setCell ⟨gq, 10, none⟩ (.slice (some ⟨g1, 0, none⟩) (k + 1) cap1)) := (Keeps.refl (fun g => g = gq) w5).setCell (p := ⟨gq, 10, none⟩) (fun _ => rfl) _
      have HQ6 : Hid (Blk (w5.setCell ⟨gq, 10, none⟩ (.slice (some ⟨g1, 0, none⟩) (k + 1) cap1)) gq 25 (scs p KK (some ⟨g1, 0, none⟩) cap1 (k + 1))) := Lib.hid (HQ5.out.set_ 10 (.slice (some ⟨g1, 0, none⟩) (k + 1) cap1))
      have HP6 := Lib.hid (HP5.out.keeps hk6 HNE.out)
      have HB6 := Lib.hid (HB5.out.trans (hk6.below (fun g hg => by (have hg' : g = gq := hg); rw [hg']; exact HGQ.out) HB5.out.size))
      have HR6 : Hid (RowI (w5.setCell ⟨gq, 10, none⟩ (.slice (some ⟨g1, 0, none⟩) (k + 1) cap1)) w1.heap.size 2 (.slice (some ⟨g1, 0, none⟩) (k + 1) cap1) ((p.settle.take (k + 1)).map (fun x => x + KK))) := Lib.hid (store_own HR5.out HQ5.out (by decide) 10 _)
      clear hk6 HQ5 HP5 HB5 HR5
      go_wp2_with fail
      go_roundw
      case rel => exact ⟨k + 1, by go_num, by omega, _, _, HP6.out, HQ6.out, HR6.out, HB6.out⟩
      case measure => simp [intOf]; omega
    · obtain rfl : k = p.settle.length := by omega
      have hnn : ¬ (p.settle.length : Int) < (p.settle.length : Int) := by omega
      have hbd := check_band HCK.out
      have hqb : Blk wo gq 25 (p.band (p.low + KK) (p.high + KK) sa (p.settle.map (fun x => x + KK)) sc).cells := by
        have h := HQ.out
        unfold Prod.band Prod.cells
        simp only [List.length_map]
        exact h
      have hpv0 := HPV.out.below HB.out
      have hqv : PV wo (p.band (p.low + KK) (p.high + KK) sa (p.settle.map (fun x => x + KK)) sc) := ⟨hpv0.code, hpv0.mon, (by
          have h := HS.out
          rw [List.take_length] at h
          exact h.ints fun x hx => by
            rw [List.mem_map] at hx
            obtain ⟨y, hy, rfl⟩ := hx
            obtain ⟨j, hj, rfl⟩ := List.getElem_of_mem hy
            have := check_settle HCK.out (List.getElem?_eq_getElem hj)
            unfold i64ok
            omega), hpv0.mlen, (by show (p.settle.map (fun x => x + KK)).length ≤ _; rw [List.length_map]; exact hpv0.slen), hpv0.tick, (by show i64ok (p.low + KK); unfold i64ok; omega), (by show i64ok (p.high + KK); unfold i64ok; omega), hpv0.wide⟩
      have HFS := Lib.hid fun (S : List Tp) (hS : Tiny S) (inst side : Int) => quotesP_sh HCK.out (HSH.out sa sc) HDV.out hS hKB (inst := inst) (side := side)
      have hb0 := HBW.out.trans (HB.out.mono HBW.out.size)
      have hgp0 : w.heap.size ≤ gp := Nat.le_trans HBW.out.size (by rw [HGP.out]; exact Nat.le_refl _)
      have hgq0 : w.heap.size ≤ gq := Nat.le_trans HBW.out.size HGQ.out
      generalize p.band (p.low + KK) (p.high + KK) sa (p.settle.map (fun x => x + KK)) sc = q at *
      have HB2 := Lib.hid hb0
      have HP0 := Lib.hid hpv0
      have HQV := Lib.hid hqv
      have HQB := Lib.hid hqb
      have HGP0 := Lib.hid hgp0
      clear HQ HS HB HBW HPV HGP HGQ HNE HSH hqb hqv hpv0 hb0 hgp0 hgq0 HDV HKE yK
      have hto := tops_any p ta tc L wo HP0.out HCK.out (HT.out.below HB2.out) HOK.out hL
      unfold Prod.agg Prod.cells at hto
      obtain ⟨b0, b1, b2, b3, b4, b5, b6, b7, b8, b9, b10⟩ := PC.of5 HP.out
      have HN := Lib.hid (countN_room p.months.length (check_len HCK.out).2 (check_len HCK.out).1)
      have hcn := countN_bd p.months.length (check_len HCK.out).2
      have hnr := HN.out
      have hlen := check_len HCK.out
      obtain ⟨n, hn⟩ : ∃ n, countN p.months.length = n := ⟨_, rfl⟩
      rw [hn] at hto hcn hnr
      have HNN := Lib.hid hn
      clear hn
      go_wp2_with fail
      refine hto.mono ?_
      rintro e w3 ⟨gt, rfl, htp, hgt, hb⟩
      have T3 : Hid (LT w w3 gp p gt (topsP p L)) := Lib.hid ⟨HB2.out.trans (hb.mono HB2.out.size), HP.out.below hb, HP0.out.below hb, htp, HGP0.out, Nat.le_trans HB2.out.size hgt⟩
      have HQB2 := Lib.hid (HQB.out.below hb)
      have HQV2 := Lib.hid (HQV.out.below hb)
      have HTO := Lib.hid (topsP_ok HCK.out L)
      have HTL : Hid ((topsP p L).length = n) := Lib.hid (by rw [topsP_len, HNN.out])
      have HTS : Hid (Tiny (topsP p L)) := Lib.hid (fun x hx s => by have := tops_price HCK.out hx s; omega)
      clear hto hb htp hgt HB2 HP0 HP HQB HQV HGP0 HT HOK hL b0 b1 b2 b3 b4 b5 b6 b7 b8 b9 b10
      generalize topsP p L = S at *
      have HE : Hid (TP.Row (w3.alloc (.cells #[] 42)) w3.heap.size (.slice (some ⟨w3.heap.size, 0, none⟩) 0 0) []) := Lib.hid (Lay.Row.empty (Y := TP) w3)
      have HTA := Lib.hid (T3.out.next (Below.allocN w3 (.cells #[] 42)))
      have HBA := Lib.hid (Below.allocN w3 (.cells #[] 42))
      have hn21 : n ≤ 1000000 := by omega
      go_upto_region 11 with (fail)
      go_wp2_with (first
        | (at_builtin; go_loud (refine TP.pushes rfl (.tmp 62) (.tmp 63) rfl w3.heap.size (.slice (some ⟨w3.heap.size, 0, none⟩) 0 0) [] rfl HE.out (some ⟨gt, 0, none⟩) n S (by show Value.slice (some ⟨gt, 0, none⟩) n n = _; rw [HTL.out]) (fun h => by cases h) HTA.out.rd (fun ad h => ⟨gt, 0, by injection h with h; exact h.symm⟩) (by rw [HTL.out]; simpa using hn21) (by simp) ?_)))
      intro vu w6 hr6 hg6 ho6
      have hb6 : Below w3.heap.size w3 w6 := grown_below hg6 HBA.out (own_base HE.out)
      clear hg6 ho6 HE HTA HBA
      obtain ⟨gu, cap, cur, rfl, hgu, hblk⟩ := hr6.blk (fun h => by have := HTL.out; rw [h] at this; simp at this; omega)
      rw [HTL.out] at hr6 ⊢
      have HR6 : Hid (TP.Row w6 w3.heap.size (.slice (some ⟨gu, 0, none⟩) n cap) (shS S KK 0)) := Lib.hid (by rw [shS_zero]; exact hr6)
      have HB6 := Lib.hid hb6
      have HGU := Lib.hid hgu
      clear hr6 hb6 hblk hgu
      obtain ⟨m, hm⟩ : ∃ m, p.months.length = m := ⟨_, rfl⟩
      rw [hm] at hlen hnr HFS
      have HM := Lib.hid hm
      clear hm
      have hpcm : Hid (∀ wv, Below w3.heap.size w3 wv → wv.cell? ⟨gp, 1, none⟩ = some (.slice p.ma m p.mc)) := Lib.hid fun wv hb => by
        rw [(T3.out.box.below hb).cell, ← HM.out]; rfl
      have b1 := hpcm.out _ HB6.out
      go_wp2_with fail
      clear b1
      go_loopw [15] (fun j w' => ∃ i : Nat, j = .int .i64 i ∧ i ≤ m ∧ Below w3.heap.size w3 w' ∧ TP.Row w' w3.heap.size (.slice (some ⟨gu, 0, none⟩) n cap) (shS S KK i)) (fun j _ => m - (intOf j).toNat)
      case atStart => exact ⟨0, rfl, Nat.zero_le _, HB6.out, HR6.out⟩
      case round =>
        clear HB6 HR6
        obtain ⟨i, rfl, him, hb, hr⟩ := hrel
        obtain ⟨wz, rfl⟩ : ∃ wo : World, wo = wr := ⟨_, rfl⟩
        have HB6 := Lib.hid hb
        have HR6 := Lib.hid hr
        clear hb hr
        have b1 := hpcm.out _ HB6.out
        by_cases hi : i < m
        · have hi' : (i : Int) < (m : Int) := by omega
          have hin' : (i : Int) < (n : Int) := by omega
          obtain ⟨x, hx⟩ : ∃ x, S[i]? = some x := ⟨_, List.getElem?_eq_getElem (by rw [HTL.out]; omega)⟩
          have hxs1 := HTS.out x (List.mem_of_getElem? hx) 1
          have hxs2 := HTS.out x (List.mem_of_getElem? hx) 2
          simp only [Tp.price, if_true, show ¬ (2 : Int) = 1 by decide, if_false] at hxs1 hxs2
          have HSUC := Lib.hid (shS_succ (K := KK) hx)
          have hgz : (shS S KK i)[i]? = some x := by rw [shS_get hx, if_neg (by omega)]
          have hil := lt_of_get hgz
          have HR7 : Hid (TP.Row (wz.setCell ⟨gu, i * 6 + 2, none⟩ (.int .i64 (x.p0 + KK))) w3.heap.size (.slice (some ⟨gu, 0, none⟩) n cap) ((shS S KK i).set i { x with p0 := x.p0 + KK })) := Lib.hid (HR6.out.set_ (k := 2) hgz (show 2 < 6 by omega) rfl)
          have hgz2 : ((shS S KK i).set i { x with p0 := x.p0 + KK })[i]? = some { x with p0 := x.p0 + KK } := List.getElem?_set_self hil
          have HR8 : Hid (TP.Row ((wz.setCell ⟨gu, i * 6 + 2, none⟩ (.int .i64 (x.p0 + KK))).setCell ⟨gu, i * 6 + 3, none⟩ (.int .i64 (x.p1 + KK))) w3.heap.size (.slice (some ⟨gu, 0, none⟩) n cap) (shS S KK (i + 1))) := Lib.hid (by
            have h := HR7.out.set_ (k := 3) (e' := shT KK x) (u := .int .i64 (x.p1 + KK)) hgz2 (show 3 < 6 by omega) rfl
            rw [List.set_set, HSUC.out] at h
            exact h)
          have HB8 : Hid (Below w3.heap.size w3 ((wz.setCell ⟨gu, i * 6 + 2, none⟩ (.int .i64 (x.p0 + KK))).setCell ⟨gu, i * 6 + 3, none⟩ (.int .i64 (x.p1 + KK)))) := Lib.hid ((HB6.out.setCell (p := ⟨gu, i * 6 + 2, none⟩) HGU.out _).setCell (p := ⟨gu, i * 6 + 3, none⟩) HGU.out _)
          have c2 : wz.cell? ⟨gu, i * 6 + 2, none⟩ = some (.int .i64 x.p0) := row_cells HR6.out hgz 2 _ rfl
          have c3 : (wz.setCell ⟨gu, i * 6 + 2, none⟩ (.int .i64 (x.p0 + KK))).drew.cell? ⟨gu, i * 6 + 3, none⟩ = some (.int .i64 x.p1) := row_cells HR7.out hgz2 3 _ rfl
          have fz : ∀ o, wz.frozen? ⟨gu, o, none⟩ = false := row_frz HR6.out
          have fz2 : ∀ o, (wz.setCell ⟨gu, i * 6 + 2, none⟩ (.int .i64 (x.p0 + KK))).drew.frozen? ⟨gu, o, none⟩ = false := row_frz HR7.out
          have y1 : IntKind.i64.wrap (x.p0 + KK) = x.p0 + KK := IntWalk.i64_in _ (by omega)
          have y2 : IntKind.i64.wrap (x.p1 + KK) = x.p1 + KK := IntWalk.i64_in _ (by omega)
          clear hx hgz hgz2 hil hxs1 hxs2
          go_upto_region 15 with (fail)
          go_region
          clear b1 c2 fz
          go_upto_region 16 with (fail)
          have HBD := Lib.hid (Below.drewN_of (wz.setCell ⟨gu, i * 6 + 2, none⟩ (.int .i64 (x.p0 + KK))) 1)
          generalize hwv : (wz.setCell ⟨gu, i * 6 + 2, none⟩ (.int .i64 (x.p0 + KK))).drew = wv at *
          go_region
          clear c3 fz2 y1 y2
          go_wp2_with fail
          go_roundw
          case rel => exact ⟨i + 1, by go_num, by omega, by
            subst hwv
            exact (HB8.out).drew.drew, by
            subst hwv
            exact HR8.out⟩
          case measure => simp [intOf]; omega
        · have him2 : i = m := by omega
          have hnm : ¬ (i : Int) < (m : Int) := by omega
          have hrd0 := HR6.out.rd_some
          rw [him2] at hrd0
          have HL7 : Hid (L2 w wz gp p gq q gt S gu (shS S KK m)) := Lib.hid ⟨T3.out.next HB6.out, HQB2.out.below HB6.out, HQV2.out.below HB6.out, hrd0⟩
          have HUL : Hid ((shS S KK m).length = n) := Lib.hid (by rw [shS_len, HTL.out])
          have HUO := Lib.hid (sh_ok HTO.out HTS.out hKB m)
          have hw2 := withI_bd inst 0 ((n : Int) - 1) (by omega)
          have HWI := Lib.hid fun w => within_any inst 0 ((n : Int) - 1) w hi1 hi2 (by omega) (by omega) (by omega)
          have y2 : IntKind.i64.wrap ((n : Int) - 1) = (n : Int) - 1 := IntWalk.i64_in _ (by omega)
          generalize withI inst 0 ((n : Int) - 1) = kk at *
          clear him2 hrd0 HR6 HB6 hpcm HQB2 HQV2 him hi
          go_wp2_with fail
          refine (HWI.out _).mono ?_
          rintro e w7 ⟨rfl, rfl⟩
          clear HWI y2 hw2 b1
          have HAS := Lib.hid fun (s : Int) wv (h : LT w wv gp p gt S) => quotes_any p kk s (some ⟨gt, 0, none⟩) n S wv h.pv h.rd HTO.out (by rw [HTL.out]; omega) (Nat.le_trans (allP_len p S kk s) (by omega))
          rw [HTL.out] at HAS
          have HFT := Lib.hid fun (s : Int) => HFS.out S HTS.out kk s
          have HAN := Lib.hid fun s => quotesP_len p S kk s
          have HPR := Lib.hid fun s (hs : s = 1 ∨ s = 2) x (hx : x ∈ quotesP p S kk s) => price_small (qr_price (p := p) (S := S) (k := kk) (q := x) (by rcases hs with rfl | rfl; exact .inl hx; exact .inr hx))
          generalize shS S KK m = U at *
          have HAU := Lib.hid fun (s : Int) wv (h : L2 w wv gp p gq q gt S gu U) => quotes_any q kk s (some ⟨gu, 0, none⟩) cap U wv h.vq h.u HUO.out (by rw [HUL.out]; omega) (Nat.le_trans (allP_len q U kk s) (by omega))
          rw [HUL.out] at HAU
          unfold Prod.agg Prod.cells at HAS HAU
          clear HFS T3
          go_wp2_with fail
          go_loopw [17] (fun j w' => ∃ s : Int, j = .int .i64 s ∧ 1 ≤ s ∧ s ≤ 3 ∧ L2 w w' gp p gq q gt S gu U) (fun j _ => (3 - intOf j).toNat)
          case atStart => exact ⟨1, rfl, by omega, by omega, HL7.out⟩
          case round =>
            clear HL7
            obtain ⟨s, rfl, hs1, hs3, hT⟩ := hrel
            obtain ⟨wy, rfl⟩ : ∃ wo : World, wo = wr := ⟨_, rfl⟩
            have T3 := Lib.hid hT
            clear hT
            have y1 : IntKind.i64.wrap (s + 1) = s + 1 := IntWalk.i64_in _ (by omega)
            by_cases hs2 : s ≤ 2
            · have HS : Hid (s = 1 ∨ s = 2) := Lib.hid (by omega)
              have HMQ := Lib.hid (HFT.out s)
              have HP := Lib.hid (HPR.out s HS.out)
              have hal := HAN.out s
              have HA1 := Lib.hid fun wv h => HAS.out s wv h
              have HA2 := Lib.hid fun wv h => HAU.out s wv h
              clear HS
              generalize quotesP p S kk s = A at *
              go_upto_region 21 with (fail)
              have T4 := Lib.hid (T3.out.next (Below.drewN_of wy 1))
              refine wp_region_E (S := fun w' => (w'.cell? ⟨gp, 0, none⟩ = some (.string p.code) ∧ w'.cell? ⟨gp, 1, none⟩ = some (.slice p.ma p.months.length p.mc) ∧ w'.cell? ⟨gp, 2, none⟩ = some (.int .i64 p.tick) ∧ w'.cell? ⟨gp, 3, none⟩ = some (.int .i64 p.low) ∧ w'.cell? ⟨gp, 4, none⟩ = some (.int .i64 p.high) ∧ w'.cell? ⟨gp, 5, none⟩ = some (.int .i64 p.wide) ∧ w'.cell? ⟨gp, 6, none⟩ = some (.int .i64 p.rule) ∧ w'.cell? ⟨gp, 7, none⟩ = some (.int .i64 p.top) ∧ w'.cell? ⟨gp, 8, none⟩ = some (.int .i64 p.least) ∧ w'.cell? ⟨gp, 9, none⟩ = some (.int .i64 p.part) ∧ w'.cell? ⟨gp, 10, none⟩ = some (.slice p.sa p.settle.length p.sc)) ∧ (w'.cell? ⟨gq, 0, none⟩ = some (.string q.code) ∧ w'.cell? ⟨gq, 1, none⟩ = some (.slice q.ma q.months.length q.mc) ∧ w'.cell? ⟨gq, 2, none⟩ = some (.int .i64 q.tick) ∧ w'.cell? ⟨gq, 3, none⟩ = some (.int .i64 q.low) ∧ w'.cell? ⟨gq, 4, none⟩ = some (.int .i64 q.high) ∧ w'.cell? ⟨gq, 5, none⟩ = some (.int .i64 q.wide) ∧ w'.cell? ⟨gq, 6, none⟩ = some (.int .i64 q.rule) ∧ w'.cell? ⟨gq, 7, none⟩ = some (.int .i64 q.top) ∧ w'.cell? ⟨gq, 8, none⟩ = some (.int .i64 q.least) ∧ w'.cell? ⟨gq, 9, none⟩ = some (.int .i64 q.part) ∧ w'.cell? ⟨gq, 10, none⟩ = some (.slice q.sa q.settle.length q.sc))) (by kernel_rfl) ⟨T3.out.l.pc, PC.of5 T3.out.bq⟩ (fun hHeld => ?_)
              refine wpE_take (i := 0) (oi := ?oi28) (v := ?v28) ?hi28 (by kernel_rfl) (by kernel_rfl) (by kernel_rfl) (by kernel_rfl) ?hQ28 ?hy28 (by assumption) ?rest28
              case hi28 => (simp only [List.getElem?_toArray]; rfl)
              case hQ28 => exact fun _ _ _ h => h
              case hy28 => exact Or.inl ⟨by rfl, by (intro w hSw; (try dsimp only at hSw); go_simp; try with_reducible rfl)⟩
              try simp only [Act.put, List.setIfInBounds_toArray, List.set_cons_zero, List.set_cons_succ]
              refine wpE_take (i := 1) (oi := ?oi29) (v := ?v29) ?hi29 (by kernel_rfl) (by kernel_rfl) (by kernel_rfl) (by kernel_rfl) ?hQ29 ?hy29 (by assumption) ?rest29
              case hi29 => (simp only [List.getElem?_toArray]; rfl)
              case hQ29 => exact fun _ _ _ h => h
              case hy29 => exact Or.inl ⟨by rfl, by (intro w hSw; (try dsimp only at hSw); go_simp; try with_reducible rfl)⟩
              try simp only [Act.put, List.setIfInBounds_toArray, List.set_cons_zero, List.set_cons_succ]
              refine wpE_take (i := 2) (oi := ?oi30) (v := ?v30) ?hi30 (by kernel_rfl) (by kernel_rfl) (by kernel_rfl) (by kernel_rfl) ?hQ30 ?hy30 (by assumption) ?rest30
              case hi30 => (simp only [List.getElem?_toArray]; rfl)
              case hQ30 => exact fun _ _ _ h => h
              case hy30 => exact Or.inl ⟨by rfl, by (intro w hSw; (try dsimp only at hSw); go_simp; try with_reducible rfl)⟩
              try simp only [Act.put, List.setIfInBounds_toArray, List.set_cons_zero, List.set_cons_succ]
              refine wpE_take (i := 3) (oi := ?oi31) (v := ?v31) ?hi31 (by kernel_rfl) (by kernel_rfl) (by kernel_rfl) (by kernel_rfl) ?hQ31 ?hy31 (by assumption) ?rest31
              case hi31 => (simp only [List.getElem?_toArray]; rfl)
              case hQ31 => exact fun _ _ _ h => h
              case hy31 => exact Or.inl ⟨by rfl, by (intro w hSw; (try dsimp only at hSw); go_simp; try with_reducible rfl)⟩
              try simp only [Act.put, List.setIfInBounds_toArray, List.set_cons_zero, List.set_cons_succ]
              refine wpE_take (i := 5) (oi := ?oi32) (v := ?v32) ?hi32 (by kernel_rfl) (by kernel_rfl) (by kernel_rfl) (by kernel_rfl) ?hQ32 ?hy32 (by assumption) ?rest32
              case hi32 => (simp only [List.getElem?_toArray]; rfl)
              case hQ32 => exact fun _ _ _ h => h
              case hy32 => exact Or.inl ⟨by rfl, by (intro w hSw; (try dsimp only at hSw); go_simp; try with_reducible rfl)⟩
              try simp only [Act.put, List.setIfInBounds_toArray, List.set_cons_zero, List.set_cons_succ]
              refine wpE_take (i := 6) (oi := ?oi33) (v := ?v33) ?hi33 (by kernel_rfl) (by kernel_rfl) (by kernel_rfl) (by kernel_rfl) ?hQ33 ?hy33 (by assumption) ?rest33
              case hi33 => (simp only [List.getElem?_toArray]; rfl)
              case hQ33 => exact fun _ _ _ h => h
              case hy33 => exact Or.inl ⟨by rfl, by (intro w hSw; (try dsimp only at hSw); go_simp; try with_reducible rfl)⟩
              try simp only [Act.put, List.setIfInBounds_toArray, List.set_cons_zero, List.set_cons_succ]
              refine wpE_take (i := 7) (oi := ?oi34) (v := ?v34) ?hi34 (by kernel_rfl) (by kernel_rfl) (by kernel_rfl) (by kernel_rfl) ?hQ34 ?hy34 (by assumption) ?rest34
              case hi34 => (simp only [List.getElem?_toArray]; rfl)
              case hQ34 => exact fun _ _ _ h => h
              case hy34 => exact Or.inl ⟨by rfl, by (intro w hSw; (try dsimp only at hSw); go_simp; try with_reducible rfl)⟩
              try simp only [Act.put, List.setIfInBounds_toArray, List.set_cons_zero, List.set_cons_succ]
              refine wpE_take (i := 8) (oi := ?oi35) (v := ?v35) ?hi35 (by kernel_rfl) (by kernel_rfl) (by kernel_rfl) (by kernel_rfl) ?hQ35 ?hy35 (by assumption) ?rest35
              case hi35 => (simp only [List.getElem?_toArray]; rfl)
              case hQ35 => exact fun _ _ _ h => h
              case hy35 => exact Or.inl ⟨by rfl, by (intro w hSw; (try dsimp only at hSw); go_simp; try with_reducible rfl)⟩
              try simp only [Act.put, List.setIfInBounds_toArray, List.set_cons_zero, List.set_cons_succ]
              refine wpE_one (i := 4) (o := ?o40) ?ho40 (by kernel_rfl) (fun K hK => ?_)
              case ho40 => (simp only [List.getElem?_toArray]; rfl)
              go_simp
              go_at_call 13
              refine (HA1.out wy.drew T4.out.l).mono ?_
              rintro e w8 ⟨v, rfl, hr, hb⟩
              have T5 := Lib.hid (T4.out.next hb)
              obtain ⟨qa, qc, hvf, hqn, hrd⟩ := hr.rd
              subst hvf
              have HRD := Lib.hid hrd
              clear hr hqn hrd hb
              refine hK.out _ _ ⟨T5.out.l.pc, PC.of5 T5.out.bq⟩ (fun hHeld => ?_)
              clear hK K T4 T3 HA1
              refine wpE_one (i := 9) (o := ?o41) ?ho41 (by kernel_rfl) (fun K hK => ?_)
              case ho41 => (simp only [List.getElem?_toArray]; rfl)
              go_simp
              go_at_call 13
              refine (HA2.out w8 T5.out).mono ?_
              rintro e w9 ⟨v, rfl, hr, hb⟩
              rw [HMQ.out] at hr
              obtain ⟨ba, bc, hvf⟩ := hr.form
              rw [List.length_map] at hvf
              subst hvf
              have T6 := T5.out.next hb
              refine hK.out _ _ ⟨T6.l.pc, PC.of5 T6.bq⟩ (fun hHeld => ?_)
              clear hK K HA2
              refine wpE_of_held _ _ _ _ ?_
              refine wpAnyH_take (i := 10) (oi := ?oi3) (v := ?v3) ?hi3 (by kernel_rfl) (by kernel_rfl) (by kernel_rfl) ?hQ3 ?hy3 (by assumption) ?rest3
              case hi3 => (simp only [List.getElem?_toArray]; rfl)
              case hQ3 => exact fun _ _ _ h => h
              case hy3 => exact Or.inl ⟨by rfl, by (intro w hSw; (try dsimp only at hSw); go_simp; try with_reducible rfl)⟩
              try simp only [Act.put, List.setIfInBounds_toArray, List.set_cons_zero, List.set_cons_succ]
              refine wpAnyH_take (i := 11) (oi := ?oi4) (v := ?v4) ?hi4 (by kernel_rfl) (by kernel_rfl) (by kernel_rfl) ?hQ4 ?hy4 (by assumption) ?rest4
              case hi4 => (simp only [List.getElem?_toArray]; rfl)
              case hQ4 => exact fun _ _ _ h => h
              case hy4 => exact Or.inl ⟨by rfl, by (intro w hSw; (try dsimp only at hSw); go_simp; try with_reducible rfl)⟩
              try simp only [Act.put, List.setIfInBounds_toArray, List.set_cons_zero, List.set_cons_succ]
              refine wpAnyH_done (by kernel_rfl) ?_ _
              have HR : Hid (QT.Row w9 w8.heap.size (.slice ba A.length bc) (bkQ A (if kk < m then KK else 0) 0)) := Lib.hid (by rw [bkQ_zero]; exact hr)
              have HB := Lib.hid hb
              clear hHeld T6 hr hb HMQ
              have hpcm : Hid (∀ wv, Below w8.heap.size w8 wv → wv.cell? ⟨gp, 1, none⟩ = some (.slice p.ma m p.mc)) := Lib.hid fun wv hb => by
                rw [(T5.out.l.box.below hb).cell, ← HM.out]; rfl
              go_wp2_with fail
              go_loopw [20] (fun j w' => ∃ i : Nat, j = .int .i64 i ∧ i ≤ A.length ∧ Below w8.heap.size w8 w' ∧ QT.Row w' w8.heap.size (.slice ba A.length bc) (bkQ A (if kk < m then KK else 0) i)) (fun j _ => A.length - (intOf j).toNat)
              case atStart => exact ⟨0, rfl, Nat.zero_le _, HB.out, HR.out⟩
              case round =>
                clear HB HR
                obtain ⟨i, rfl, hi, hb, hr⟩ := hrel
                obtain ⟨wz, rfl⟩ : ∃ wo : World, wo = wr := ⟨_, rfl⟩
                have HB := Lib.hid hb
                have HR := Lib.hid hr
                clear hb hr
                have b1 := hpcm.out _ HB.out
                by_cases hin : i < A.length
                · have hin' : (i : Int) < (A.length : Int) := by omega
                  obtain ⟨x, hx⟩ : ∃ x, A[i]? = some x := ⟨_, List.getElem?_eq_getElem hin⟩
                  have HX := Lib.hid hx
                  have hpx := HP.out x (List.mem_of_getElem? hx)
                  clear hx
                  by_cases hkm : kk < (m : Int)
                  · rw [if_pos hkm] at HR
                    have hgx := bkQ_get (K := KK) HX.out
                    obtain ⟨gb, cb, cur, hbe, hgb, hblk⟩ := HR.out.blk (fun h => by rw [h] at hgx; cases hgx)
                    rw [bkQ_len] at hbe
                    injection hbe with hb1 _ hb3
                    subst hb1
                    subst hb3
                    obtain ⟨pv, hpv⟩ : ∃ pv : Int, x.price + KK = pv := ⟨_, rfl⟩
                    have c0 : wz.cell? ⟨gb, i * 6, none⟩ = some (.int .i64 pv) := by rw [← hpv]; exact row_cells HR.out hgx 0 _ rfl
                    have fz : ∀ o, wz.frozen? ⟨gb, o, none⟩ = false := row_frz HR.out
                    have y3 : IntKind.i64.wrap (pv - KK) = x.price := by rw [← hpv, show x.price + KK - KK = x.price by omega]; exact IntWalk.i64_in _ (by omega)
                    have HR2 : Hid (QT.Row (wz.setCell ⟨gb, i * 6, none⟩ (.int .i64 x.price)) w8.heap.size (.slice (some ⟨gb, 0, none⟩) A.length bc) (bkQ A KK (i + 1))) := Lib.hid (by
                      have h := HR.out.set_ (k := 0) (e' := x) (u := .int .i64 x.price) hgx (show 0 < 6 by omega) rfl
                      rw [bkQ_succ HX.out] at h
                      exact h)
                    have HB2 := Lib.hid (HB.out.setCell (p := ⟨gb, i * 6, none⟩) hgb (.int .i64 x.price))
                    have HKM := Lib.hid hkm
                    clear hgx hblk hpv hgb HB HR
                    go_wp2_with fail
                    clear b1 c0 fz y3
                    go_roundw
                    case rel => exact ⟨i + 1, by go_num, by omega, HB2.out, by rw [if_pos HKM.out]; exact HR2.out⟩
                    case measure => simp [intOf]; omega
                  · rw [if_neg hkm, bkQ_none] at HR
                    have HKM := Lib.hid hkm
                    go_wp2_with fail
                    go_roundw
                    case rel => exact ⟨i + 1, by go_num, by omega, HB.out, by rw [if_neg HKM.out, bkQ_none]; exact HR.out⟩
                    case measure => simp [intOf]; omega
                · obtain rfl : i = A.length := by omega
                  have hre := HR.out
                  rw [bkQ_end] at hre
                  obtain ⟨a', c', hv', _, hrd⟩ := hre.rd
                  injection hv' with hv1 _ hv3
                  subst hv1
                  have T6 := Lib.hid (T5.out.next HB.out)
                  have HSM := Lib.hid (same_any A qa qc ba bc wz (HRD.out.below HB.out) hrd (by omega))
                  clear hre hv3 hrd HR HB
                  go_wp2_with fail
                  refine HSM.out.mono ?_
                  rintro e w10 ⟨rfl, hb⟩
                  have T7 := Lib.hid (T6.out.next hb)
                  clear hb T6 HSM
                  go_wp2_with fail
                  go_roundw
                  case rel => exact ⟨s + 1, rfl, by omega, by omega, T7.out⟩
                  case measure => simp [intOf]; omega
            · go_wp2_with fail
              refine (known14_any _).mono ?_
              rintro e w9 ⟨rfl, hb⟩
              have T9 := Lib.hid (T3.out.next hb)
              clear hb T3
              go_wp2_with fail
              go_ret
              exact ⟨by trivial, T9.out.l.bel⟩
end Go.Proofs.Ytilficlanliinaa
