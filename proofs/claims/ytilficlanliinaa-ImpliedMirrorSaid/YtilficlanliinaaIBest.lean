/- The walk of cornhilllaw14.ImpliedBest. Printed by mk_ibest.py. -/
import Derived.Test.YtilficlanliinaaLaw14
import Derived.Test.YtilficlanliinaaQEq
import Derived.Deep.DeepCutAuto
namespace Go.Proofs.Ytilficlanliinaa
open Go.RowKit

/-- what the law gathers over the first k: the greatest quantity at the best price -/
def mz (Q : List Qt) (x : Qt) (k : Nat) : Int := (Q.take k).foldl (fun m q => if q.price = x.price then (if m < q.qty then q.qty else m) else m) 0
theorem mz_succ {l : List Qt} {k : Nat} {q : Qt} (x : Qt) (h : l[k]? = some q) : mz l x (k + 1) = if q.price = x.price then (if mz l x k < q.qty then q.qty else mz l x k) else mz l x k := by
  unfold mz
  rw [List.take_add_one, h, List.foldl_append]
  rfl
theorem mz_most {l : List Qt} {x : Qt} (h0 : 0 ≤ x.qty) : ∀ k, k ≤ l.length → mostTo l x k = if mz l x k < x.qty then x.qty else mz l x k := by
  intro k
  induction k with
  | zero =>
    intro _
    show x.qty = if (0 : Int) < x.qty then x.qty else 0
    split <;> omega
  | succ k ih =>
    intro hk
    obtain ⟨q, hq⟩ : ∃ q, l[k]? = some q := ⟨_, List.getElem?_eq_getElem (by omega)⟩
    rw [mostTo_succ x hq, mz_succ x hq, ih (by omega)]
    by_cases hp : q.price = x.price
    · rw [if_pos hp, if_pos hp]
      (repeat' split) <;> omega
    · rw [if_neg hp, if_neg hp]
theorem mz_mono {l : List Qt} {x : Qt} {j : Nat} (hj : l[j]? = some x) : ∀ k, j < k → k ≤ l.length → x.qty ≤ mz l x k := by
  intro k
  induction k with
  | zero => intro h; omega
  | succ k ih =>
    intro h1 h2
    obtain ⟨q, hq⟩ : ∃ q, l[k]? = some q := ⟨_, List.getElem?_eq_getElem (by omega)⟩
    rw [mz_succ x hq]
    by_cases hjk : j = k
    · subst hjk
      rw [hq] at hj
      injection hj with hj
      subst hj
      rw [if_pos rfl]
      split <;> omega
    · have := ih (by omega) (by omega)
      split
      · split <;> omega
      · exact this
theorem many_zero {l : List Qt} {x : Qt} : ∀ k, k ≤ l.length → (∀ i q, i < k → l[i]? = some q → q.price ≠ x.price) → manyTo l x k = 0 := by
  intro k
  induction k with
  | zero => intro _ _; rfl
  | succ k ih =>
    intro hk h
    obtain ⟨q, hq⟩ : ∃ q, l[k]? = some q := ⟨_, List.getElem?_eq_getElem (by omega)⟩
    rw [manyTo_succ x hq, if_neg (h k q (by omega) hq), ih (by omega) (fun i q hi => h i q (by omega))]
theorem many_pos {l : List Qt} {x : Qt} {j : Nat} (hj : l[j]? = some x) : ∀ k, j < k → k ≤ l.length → 0 < manyTo l x k := by
  intro k
  induction k with
  | zero => intro h; omega
  | succ k ih =>
    intro h1 h2
    obtain ⟨q, hq⟩ : ∃ q, l[k]? = some q := ⟨_, List.getElem?_eq_getElem (by omega)⟩
    rw [manyTo_succ x hq]
    by_cases hjk : j = k
    · subst hjk
      rw [hq] at hj
      injection hj with hj
      subst hj
      rw [if_pos rfl]; omega
    · have := ih (by omega) (by omega)
      omega
/-- every quantity of a quote is not below 0 -/
theorem tops_qty {p : Prod} {L : List Tp} {x : Tp} (h : x ∈ topsP p L) : 0 ≤ x.q0 ∧ 0 ≤ x.q1 := by
  rcases tops_mem h with rfl | ⟨y, _, rfl⟩
  · exact ⟨Int.le_refl _, Int.le_refl _⟩
  · have a := withI_bd y.q0 0 20 (by omega)
    have b := withI_bd y.q1 0 20 (by omega)
    show 0 ≤ 1 + withI y.q0 0 20 ∧ 0 ≤ 1 + withI y.q1 0 20
    omega
theorem mkQ_qty {L : List Tp} (hL : ∀ x ∈ L, 0 ≤ x.q0 ∧ 0 ≤ x.q1) {ai sa bi sb : Int} {less : Bool} {q : Qt} (h : mkQ L ai sa bi sb less = some q) : 0 ≤ q.qty := by
  unfold mkQ at h
  split at h
  · rename_i x y hx hy
    split at h
    · dsimp only at h
      generalize (if less = true then subP (y.price sb) (x.price sa) else addP (x.price sa) (y.price sb)) = r at h
      split at h
      · injection h with h
        subst h
        have h1 := hL x (List.mem_of_getElem? hx)
        have h2 := hL y (List.mem_of_getElem? hy)
        show 0 ≤ min (x.qty sa) (y.qty sb)
        have h3 : 0 ≤ x.qty sa := by unfold Tp.qty; split <;> omega
        have h4 : 0 ≤ y.qty sb := by unfold Tp.qty; split <;> omega
        omega
      · cases h
    · cases h
  · cases h
theorem ups_mem {p : Prod} {L : List Tp} {i : Nat} {side : Int} {q : Qt} : ∀ k, q ∈ ups p L i side k → ∃ m, m < k ∧ mkQ L (spreadP p (i : Int) ((i + 1 + m : Nat) : Int)).1 side ((i + 1 + m : Nat) : Int) side false = some q := by
  intro k
  induction k with
  | zero => intro h; cases h
  | succ k ih =>
    intro h
    rw [ups, List.mem_append] at h
    rcases h with h | h
    · obtain ⟨m, h1, h2⟩ := ih h
      exact ⟨m, by omega, h2⟩
    · exact ⟨k, by omega, by simpa using h⟩
theorem downs_mem {p : Prod} {L : List Tp} {i : Nat} {side : Int} {q : Qt} : ∀ k, q ∈ downs p L i side k → ∃ m, m < k ∧ mkQ L (spreadP p (m : Int) (i : Int)).1 (3 - side) (m : Int) side true = some q := by
  intro k
  induction k with
  | zero => intro h; cases h
  | succ k ih =>
    intro h
    rw [downs, List.mem_append] at h
    rcases h with h | h
    · obtain ⟨m, h1, h2⟩ := ih h
      exact ⟨m, by omega, h2⟩
    · exact ⟨k, by omega, by simpa using h⟩
theorem allP_qty {p : Prod} {L : List Tp} (hL : ∀ x ∈ L, 0 ≤ x.q0 ∧ 0 ≤ x.q1) {inst side : Int} {q : Qt} (h : q ∈ allP p L inst side) : 0 ≤ q.qty := by
  unfold allP at h
  split at h
  · cases h
  · split at h
    · simp only [Option.mem_toList, Option.map_eq_some_iff] at h
      obtain ⟨q', h1, rfl⟩ := h
      exact (mkQ_qty hL h1 : 0 ≤ q'.qty)
    · rw [List.mem_append] at h
      rcases h with h | h
      · obtain ⟨_, _, h⟩ := ups_mem _ h
        exact mkQ_qty hL h
      · obtain ⟨_, _, h⟩ := downs_mem _ h
        exact mkQ_qty hL h
/-- what the law asks of the best -/
structure IB (Q : List Qt) (side : Int) (b : Qt) : Prop where
  best : bestP Q side = (b, true)
  none_ : ∀ (k : Nat) q, Q[k]? = some q → betterP side q.price b.price = false
  first : ∀ (k : Nat) q, Q[k]? = some q → q.price = b.price → manyTo Q b k = 0 → q = b
  most : mostTo Q b Q.length = mz Q b Q.length
theorem ib_of {Q : List Qt} (side : Int) (h0 : 0 < Q.length) (hq : ∀ q ∈ Q, 0 ≤ q.qty) : ∃ b, IB Q side b := by
  obtain ⟨j, hj, h1, h2, h3⟩ := bestTo_spec (l := Q) side Q.length h0 (Nat.le_refl _)
  have hb := bestTo_end (l := Q) side h0
  generalize bestTo Q side Q.length = b at *
  refine ⟨b, hb, fun k q hk => h3 k q (lt_of_get hk) hk, fun k q hk hp hm => ?_, ?_⟩
  · by_cases hkj : k < j
    · have := h2 k q hkj hk
      rw [hp, better_self] at this
      cases this
    · by_cases hkj2 : k = j
      · subst hkj2
        rw [h1] at hk
        injection hk with hk
        exact hk.symm
      · have := many_pos h1 k (by omega) (Nat.le_of_lt (lt_of_get hk))
        omega
  · rw [mz_most (hq b (List.mem_of_getElem? h1)) Q.length (Nat.le_refl _)]
    have := mz_mono h1 Q.length hj (Nat.le_refl _)
    split <;> omega
set_option maxRecDepth 100000 in
set_option maxHeartbeats 16000000 in
theorem ibest_any (px : Prod) (ta : Option Addr) (tc : Nat) (L : List Tp) (inst side : Int) (w : World) (hX : PIn w px) (hT : TP.Rd w ta L) (hok : ∀ x ∈ L, x.ok) (hL : L.length ≤ 9223372036854775807) (hi1 : -9223372036854775808 ≤ inst) (hi2 : inst ≤ 9223372036854775807) (hs1 : -9223372036854775808 ≤ side) (hs2 : side ≤ 9223372036854775807) :
    Calls Try.prog 8 #[px.agg, .slice ta L.length tc, .int .i64 inst, .int .i64 side] w fun e w' => e = .returned (.bool true) ∧ Below w.heap.size w w' := by
  have s1 : ∀ (w : World) (o : Obj), (w.alloc o).heap.size = w.heap.size + 1 := fun w o => by simp
  have hkp := keep_any px (w.alloc (.cells #[.string px.code, .slice px.ma px.months.length px.mc, .int .i64 px.tick, .int .i64 px.low, .int .i64 px.high, .int .i64 px.wide, .int .i64 px.rule, .int .i64 px.top, .int .i64 px.least, .int .i64 px.part, .slice px.sa px.settle.length px.sc] 25)) hX.px
  unfold Prod.agg Prod.cells at hkp ⊢
  have HB0 : Hid (Below w.heap.size w (w.alloc (.cells #[.string px.code, .slice px.ma px.months.length px.mc, .int .i64 px.tick, .int .i64 px.low, .int .i64 px.high, .int .i64 px.wide, .int .i64 px.rule, .int .i64 px.top, .int .i64 px.least, .int .i64 px.part, .slice px.sa px.settle.length px.sc] 25))) := Lib.hid (Below.allocN _ _)
  have HT := Lib.hid hT
  have HOK := Lib.hid hok
  clear hT hok
  go_enter Try.func8, Try.ntmps8
  go_wp2_with fail
  refine hkp.mono ?_
  rintro e w1 ⟨k, ma, mc, sa, sc, hko, rfl, hpv, hb1⟩
  have hck := keep_check k hko ma mc sa sc
  have hB1 := HB0.out.trans (hb1.mono HB0.out.size)
  clear hkp hb1 HB0 hX hko
  generalize k.prod ma mc sa sc = p at *
  go_upto_region 2 with (fail)
  have hbx : Blk (w1.alloc (.cells #[.string p.code, .slice p.ma p.months.length p.mc, .int .i64 p.tick, .int .i64 p.low, .int .i64 p.high, .int .i64 p.wide, .int .i64 p.rule, .int .i64 p.top, .int .i64 p.least, .int .i64 p.part, .slice p.sa p.settle.length p.sc] 25)) w1.heap.size 25 p.cells := Blk.new _ _ _
  have HBX := Lib.hid hbx
  have HB2 : Hid (Below w.heap.size w (w1.alloc (.cells #[.string p.code, .slice p.ma p.months.length p.mc, .int .i64 p.tick, .int .i64 p.low, .int .i64 p.high, .int .i64 p.wide, .int .i64 p.rule, .int .i64 p.top, .int .i64 p.least, .int .i64 p.part, .slice p.sa p.settle.length p.sc] 25))) := Lib.hid (hB1.trans ((Below.allocN _ _).mono hB1.size))
  have HPV := Lib.hid (hpv.below (Below.allocN w1 (.cells p.cells 25)))
  have HLE := Lib.hid hB1.size
  have HCK := Lib.hid hck
  clear hbx hpv hB1 hck
  unfold Prod.cells at HPV
  generalize (w1.alloc (.cells #[.string p.code, .slice p.ma p.months.length p.mc, .int .i64 p.tick, .int .i64 p.low, .int .i64 p.high, .int .i64 p.wide, .int .i64 p.rule, .int .i64 p.top, .int .i64 p.least, .int .i64 p.part, .slice p.sa p.settle.length p.sc] 25)) = w2 at *
  have hto := tops_any p ta tc L w2 HPV.out HCK.out (HT.out.below HB2.out) HOK.out hL
  have hpc := PC.of5 HBX.out
  generalize w1.heap.size = gp at *
  unfold Prod.agg Prod.cells at hto
  obtain ⟨b0, b1, b2, b3, b4, b5, b6, b7, b8, b9, b10⟩ := hpc
  have HN := Lib.hid (countN_room p.months.length (check_len HCK.out).2 (check_len HCK.out).1)
  have hcn := countN_bd p.months.length (check_len HCK.out).2
  have hnr := HN.out
  have hlen := check_len HCK.out
  obtain ⟨n, hn⟩ : ∃ n, countN p.months.length = n := ⟨_, rfl⟩
  rw [hn] at hto hcn hnr
  have HNN := Lib.hid hn
  clear hn
  go_wp2_with fail
  refine hto.mono ?_
  rintro e w3 ⟨gt, rfl, htp, hgt, hb⟩
  have hlt : LT w w3 gp p gt (topsP p L) := ⟨HB2.out.trans (hb.mono HB2.out.size), HBX.out.below hb, HPV.out.below hb, htp, HLE.out, Nat.le_trans HB2.out.size hgt⟩
  have T3 := Lib.hid hlt
  have HTO := Lib.hid (topsP_ok HCK.out L)
  have HTL : Hid ((topsP p L).length = n) := Lib.hid (by rw [topsP_len, HNN.out])
  have HTQ := Lib.hid (fun (x : Tp) (hx : x ∈ topsP p L) => tops_qty hx)
  clear hto hb htp hgt hlt HBX HB2 HPV HLE HT HOK hL b0 b1 b2 b3 b4 b5 b6 b7 b8 b9 b10
  generalize topsP p L = S at *
  have hw1 := withI_bd side 0 1 (by omega)
  obtain ⟨sd, hsd⟩ : ∃ s : Int, 1 + withI side 0 1 = s := ⟨_, rfl⟩
  have HWS := Lib.hid fun w => within_any side 0 1 w hs1 hs2 (by omega) (by omega) (by omega)
  have hw2 := withI_bd inst 0 ((n : Int) - 1) (by omega)
  have HWI := Lib.hid fun w => within_any inst 0 ((n : Int) - 1) w hi1 hi2 (by omega) (by omega) (by omega)
  have HSD : Hid (sd = 1 ∨ sd = 2) := Lib.hid (by omega)
  have y1 : IntKind.i64.wrap (1 + withI side 0 1) = sd := by rw [hsd]; exact IntWalk.i64_in _ (by omega)
  have y2 : IntKind.i64.wrap ((n : Int) - 1) = (n : Int) - 1 := IntWalk.i64_in _ (by omega)
  clear hsd hw1
  generalize withI side 0 1 = v1 at *
  generalize withI inst 0 ((n : Int) - 1) = kk at *
  go_upto_region 4 with (go_at_call 12; refine (HWS.out _).mono ?_; rintro e w4 ⟨rfl, rfl⟩)
  clear HWS y1
  have T4 := Lib.hid (T3.out.next (Below.drewN_of w3 1))
  clear T3
  have HQU := Lib.hid fun wz (h : LT w wz gp p gt S) => quotes_any p kk sd (some ⟨gt, 0, none⟩) n S wz h.pv h.rd HTO.out (by rw [HTL.out]; omega) (Nat.le_trans (allP_len p S kk sd) (by omega))
  rw [HTL.out] at HQU
  unfold Prod.agg Prod.cells at HQU
  go_wp2_with fail
  refine wp_region_E (S := fun w' => w'.cell? ⟨gp, 0, none⟩ = some (.string p.code) ∧ w'.cell? ⟨gp, 1, none⟩ = some (.slice p.ma p.months.length p.mc) ∧ w'.cell? ⟨gp, 2, none⟩ = some (.int .i64 p.tick) ∧ w'.cell? ⟨gp, 3, none⟩ = some (.int .i64 p.low) ∧ w'.cell? ⟨gp, 4, none⟩ = some (.int .i64 p.high) ∧ w'.cell? ⟨gp, 5, none⟩ = some (.int .i64 p.wide) ∧ w'.cell? ⟨gp, 6, none⟩ = some (.int .i64 p.rule) ∧ w'.cell? ⟨gp, 7, none⟩ = some (.int .i64 p.top) ∧ w'.cell? ⟨gp, 8, none⟩ = some (.int .i64 p.least) ∧ w'.cell? ⟨gp, 9, none⟩ = some (.int .i64 p.part) ∧ w'.cell? ⟨gp, 10, none⟩ = some (.slice p.sa p.settle.length p.sc)) (by kernel_rfl) T4.out.pc (fun hHeld => ?_)
  refine wpE_take (i := 0) (oi := ?oi2) (v := ?v2) ?hi2 (by kernel_rfl) (by kernel_rfl) (by kernel_rfl) (by kernel_rfl) ?hQ2 ?hy2 (by assumption) ?rest2
  case hi2 => (simp only [List.getElem?_toArray]; rfl)
  case hQ2 => exact fun _ _ _ h => h
  case hy2 => exact Or.inl ⟨by rfl, by (intro w hSw; (try dsimp only at hSw); go_simp; try with_reducible rfl)⟩
  try simp only [Act.put, List.setIfInBounds_toArray, List.set_cons_zero, List.set_cons_succ]
  refine wpE_take (i := 1) (oi := ?oi3) (v := ?v3) ?hi3 (by kernel_rfl) (by kernel_rfl) (by kernel_rfl) (by kernel_rfl) ?hQ3 ?hy3 (by assumption) ?rest3
  case hi3 => (simp only [List.getElem?_toArray]; rfl)
  case hQ3 => exact fun _ _ _ h => h
  case hy3 => exact Or.inl ⟨by rfl, by (intro w hSw; (try dsimp only at hSw); go_simp; try with_reducible rfl)⟩
  try simp only [Act.put, List.setIfInBounds_toArray, List.set_cons_zero, List.set_cons_succ]
  refine wpE_take (i := 2) (oi := ?oi4) (v := ?v4) ?hi4 (by kernel_rfl) (by kernel_rfl) (by kernel_rfl) (by kernel_rfl) ?hQ4 ?hy4 (by assumption) ?rest4
  case hi4 => (simp only [List.getElem?_toArray]; rfl)
  case hQ4 => exact fun _ _ _ h => h
  case hy4 => exact Or.inl ⟨by rfl, by (intro w hSw; (try dsimp only at hSw); go_simp; try with_reducible rfl)⟩
  try simp only [Act.put, List.setIfInBounds_toArray, List.set_cons_zero, List.set_cons_succ]
  refine wpE_take (i := 3) (oi := ?oi5) (v := ?v5) ?hi5 (by kernel_rfl) (by kernel_rfl) (by kernel_rfl) (by kernel_rfl) ?hQ5 ?hy5 (by assumption) ?rest5
  case hi5 => (simp only [List.getElem?_toArray]; rfl)
  case hQ5 => exact fun _ _ _ h => h
  case hy5 => exact Or.inl ⟨by rfl, by (intro w hSw; (try dsimp only at hSw); go_simp; try with_reducible rfl)⟩
  try simp only [Act.put, List.setIfInBounds_toArray, List.set_cons_zero, List.set_cons_succ]
  refine wpE_take (i := 4) (oi := ?oi6) (v := ?v6) ?hi6 (by kernel_rfl) (by kernel_rfl) (by kernel_rfl) (by kernel_rfl) ?hQ6 ?hy6 (by assumption) ?rest6
  case hi6 => (simp only [List.getElem?_toArray]; rfl)
  case hQ6 => exact fun _ _ _ h => h
  case hy6 => exact Or.inl ⟨by rfl, by (intro w hSw; (try dsimp only at hSw); go_simp; try with_reducible rfl)⟩
  try simp only [Act.put, List.setIfInBounds_toArray, List.set_cons_zero, List.set_cons_succ]
  refine wpE_take (i := 5) (oi := ?oi7) (v := ?v7) ?hi7 (by kernel_rfl) (by kernel_rfl) (by kernel_rfl) (by kernel_rfl) ?hQ7 ?hy7 (by assumption) ?rest7
  case hi7 => (simp only [List.getElem?_toArray]; rfl)
  case hQ7 => exact fun _ _ _ h => h
  case hy7 => exact Or.inl ⟨by rfl, by (intro w hSw; (try dsimp only at hSw); go_simp; try with_reducible rfl)⟩
  try simp only [Act.put, List.setIfInBounds_toArray, List.set_cons_zero, List.set_cons_succ]
  refine wpE_take (i := 7) (oi := ?oi8) (v := ?v8) ?hi8 (by kernel_rfl) (by kernel_rfl) (by kernel_rfl) (by kernel_rfl) ?hQ8 ?hy8 (by assumption) ?rest8
  case hi8 => (simp only [List.getElem?_toArray]; rfl)
  case hQ8 => exact fun _ _ _ h => h
  case hy8 => exact Or.inl ⟨by rfl, by (intro w hSw; (try dsimp only at hSw); go_simp; try with_reducible rfl)⟩
  try simp only [Act.put, List.setIfInBounds_toArray, List.set_cons_zero, List.set_cons_succ]
  refine wpE_one (i := 6) (o := ?o9) ?ho9 (by kernel_rfl) (fun K hK => ?_)
  case ho9 => (simp only [List.getElem?_toArray]; rfl)
  go_simp
  go_at_call 12
  refine (HWI.out _).mono ?_
  rintro e w5 ⟨rfl, rfl⟩
  refine hK.out _ _ T4.out.pc (fun hHeld => ?_)
  clear hK K
  refine wpE_one (i := 8) (o := ?o10) ?ho10 (by kernel_rfl) (fun K hK => ?_)
  case ho10 => (simp only [List.getElem?_toArray]; rfl)
  go_simp
  go_at_call 13
  refine (HQU.out _ T4.out).mono ?_
  rintro e w5 ⟨v, rfl, hr, hb⟩
  have T5 := Lib.hid (T4.out.next hb)
  have hr0 := row_base hr T4.out.bel.size
  refine hK.out _ _ T5.out.pc (fun hHeld => ?_)
  clear hK K
  refine wpE_of_held _ _ _ _ ?_
  refine wpAnyH_take (i := 9) (oi := ?oi1) (v := ?v1) ?hi1 (by kernel_rfl) (by kernel_rfl) (by kernel_rfl) ?hQ1 ?hy1 (by assumption) ?rest1
  case hi1 => (simp only [List.getElem?_toArray]; rfl)
  case hQ1 => exact fun _ _ _ h => h
  case hy1 => exact Or.inl ⟨by rfl, by (intro w hSw; (try dsimp only at hSw); go_simp; try with_reducible rfl)⟩
  try simp only [Act.put, List.setIfInBounds_toArray, List.set_cons_zero, List.set_cons_succ]
  refine wpAnyH_done (by kernel_rfl) ?_ _
  clear hHeld
  obtain ⟨qa, qc, hvf, hqn, hrd⟩ := hr0.rd
  subst hvf
  have HRD := Lib.hid hrd
  have HQL := Lib.hid (quotesP_len p S kk sd)
  have HQQ := Lib.hid (show ∀ q ∈ quotesP p S kk sd, 0 ≤ q.qty from fun q hq => allP_qty HTQ.out (List.mem_filter.1 hq).1)
  clear hr hr0 hb T4 HQU HWI hrd hqn y2 HTO HTL HTQ
  generalize quotesP p S kk sd = Q at *
  have HBE := Lib.hid fun (wz : World) (h : QT.Rd wz qa Q) => best_any Q qa qc sd wz h (by have := HQL.out; omega) (.inr HSD.out)
  have HSH := Lib.hid fun (wz : World) (h : QT.Rd wz qa Q) => show_any Q qa qc sd wz h (by have := HQL.out; omega) (.inr HSD.out)
  by_cases hq0 : Q.length = 0
  · have hQ : Q = [] := List.eq_nil_of_length_eq_zero hq0
    subst hQ
    clear hq0
    have hbe := HBE.out _ HRD.out
    rw [show bestP [] sd = (zeroQt, false) from rfl] at hbe
    have hsh := fun wz h => HSH.out wz h
    rw [show showP [] sd = (0, 0, 0, false) from rfl] at hsh
    have HS2 := Lib.hid hsh
    clear hsh
    simp only [List.length_nil, zeroQt, Qt.cells] at hbe HS2 ⊢
    go_wp2_with fail
    refine hbe.mono ?_
    rintro e w6 ⟨rfl, hb⟩
    have T6 := Lib.hid ((T5.out.next hb).next (Below.allocN w6 (.cells #[.int .i64 0, .int .i64 0, .int .i64 0, .int .i64 0, .int .i64 0, .int .i64 0] 38)))
    clear hbe hb T5
    go_upto_region 6 with (fail)
    generalize w6.alloc (.cells #[.int .i64 0, .int .i64 0, .int .i64 0, .int .i64 0, .int .i64 0, .int .i64 0] 38) = w7 at *
    go_wp2_with fail
    refine (HS2.out _ Lay.Rd.nil).mono ?_
    rintro e w8 ⟨rfl, hb⟩
    have T8 := Lib.hid (T6.out.next hb)
    clear hb T6
    go_wp2_with fail
    refine (known14_any _).mono ?_
    rintro e w9 ⟨rfl, hb⟩
    have T9 := Lib.hid (T8.out.next hb)
    clear hb T8
    go_wp2_with fail
    go_ret
    exact ⟨by trivial, T9.out.bel⟩
  · obtain ⟨b, hib⟩ := ib_of sd (show 0 < Q.length by omega) HQQ.out
    have HIB := Lib.hid hib
    have hbe := HBE.out _ HRD.out
    rw [hib.best] at hbe
    have hsh := fun wz h => HSH.out wz h
    have hsv : showP Q sd = (b.price, mz Q b Q.length, (manyTo Q b Q.length : Int), true) := by
      unfold showP
      rw [hib.best, if_pos rfl, hib.most]
    rw [hsv] at hsh
    have HS2 := Lib.hid hsh
    have hql : 0 < Q.length := by omega
    have hql' : (0 : Int) < (Q.length : Int) := by omega
    have hq27 := HQL.out
    clear hsh hsv hib hq0
    go_wp2_with fail
    refine hbe.mono ?_
    rintro e w6 ⟨rfl, hb⟩
    simp only [Qt.cells]
    have T6 := Lib.hid ((T5.out.next hb).next (Below.allocN w6 (.cells #[.int .i64 b.price, .int .i64 b.qty, .int .i64 b.i0, .int .i64 b.s0, .int .i64 b.i1, .int .i64 b.s1] 38)))
    have HR6 := Lib.hid ((HRD.out.below hb).below (Below.allocN w6 (.cells #[.int .i64 b.price, .int .i64 b.qty, .int .i64 b.i0, .int .i64 b.s0, .int .i64 b.i1, .int .i64 b.s1] 38)))
    have HBX : Hid (Blk (w6.alloc (.cells #[.int .i64 b.price, .int .i64 b.qty, .int .i64 b.i0, .int .i64 b.s0, .int .i64 b.i1, .int .i64 b.s1] 38)) w6.heap.size 38 #[.int .i64 b.price, .int .i64 b.qty, .int .i64 b.i0, .int .i64 b.s0, .int .i64 b.i1, .int .i64 b.s1]) := Lib.hid (Blk.new _ _ _)
    clear hbe hb T5 HRD
    go_upto_region 6 with (fail)
    generalize w6.alloc (.cells #[.int .i64 b.price, .int .i64 b.qty, .int .i64 b.i0, .int .i64 b.s0, .int .i64 b.i1, .int .i64 b.s1] 38) = w7 at *
    generalize w6.heap.size = gb at *
    go_wp2_with fail
    refine (HS2.out _ HR6.out).mono ?_
    rintro e w8 ⟨rfl, hb⟩
    have T8 := Lib.hid (T6.out.next hb)
    have HR8 := Lib.hid (HR6.out.below hb)
    have HB8 := Lib.hid (HBX.out.below hb)
    clear hb T6 HR6 HBX HS2 HBE HSH
    go_wp2_with fail
    have HM0 : Hid (mz Q b 0 = 0 ∧ manyTo Q b 0 = 0) := Lib.hid ⟨rfl, rfl⟩
    have HMZ := Lib.hid fun (k : Nat) (q : Qt) (h : Q[k]? = some q) => mz_succ b h
    have HMA := Lib.hid fun (k : Nat) (q : Qt) (h : Q[k]? = some q) => manyTo_succ b h
    have HLE := Lib.hid (manyTo_le Q b)
    go_loopw [18, 19, 20, 21] (fun m c f j w' => ∃ k : Nat, m = .int .i64 (mz Q b k) ∧ c = .int .i64 (manyTo Q b k) ∧ f = .bool (manyTo Q b k == 0) ∧ j = .int .i64 k ∧ k ≤ Q.length ∧ LT w w' gp p gt S ∧ QT.Rd w' qa Q ∧ Blk w' gb 38 #[.int .i64 b.price, .int .i64 b.qty, .int .i64 b.i0, .int .i64 b.s0, .int .i64 b.i1, .int .i64 b.s1]) (fun _ _ _ j _ => Q.length - (intOf j).toNat)
    case atStart => exact ⟨0, by rw [HM0.out.1], by rw [HM0.out.2]; rfl, by rw [HM0.out.2]; rfl, rfl, Nat.zero_le _, T8.out, HR8.out, HB8.out⟩
    case round =>
      clear T8 HR8 HB8
      obtain ⟨k, rfl, rfl, rfl, rfl, hk, hT, hR, hB⟩ := hrel
      obtain ⟨wz, rfl⟩ : ∃ wo : World, wo = wr := ⟨_, rfl⟩
      have T0 := Lib.hid hT
      have HR := Lib.hid hR
      have HB := Lib.hid hB
      clear hT hR hB
      by_cases hkn : k < Q.length
      · have hkn' : (k : Int) < (Q.length : Int) := by omega
        obtain ⟨q, hq⟩ : ∃ q, Q[k]? = some q := ⟨_, List.getElem?_eq_getElem hkn⟩
        have hmz := HMZ.out k q hq
        have hma := HMA.out k q hq
        have hml := HLE.out k
        have hnb := HIB.out.none_ k q hq
        have hfi := HIB.out.first k q hq
        generalize mz Q b k = mo at *
        generalize manyTo Q b k = ma at *
        have HM1 := Lib.hid hmz
        have HM2 := Lib.hid hma
        have HNB := Lib.hid hnb
        have HFI := Lib.hid hfi
        clear hmz hma hnb hfi
        obtain ⟨qb, off, rfl, hbl, hcq⟩ := HR.out k q hq
        have HCQ : Hid (∀ wv, Below wz.heap.size wz wv → CellsAt wv qb (off + k * 6) q.cells) := Lib.hid fun wv hb => hcq.below hb hbl
        have q0 : wz.cell? ⟨qb, off + k * 6, none⟩ = some (.int .i64 q.price) := hcq 0 _ rfl
        have c0 : wz.cell? ⟨gb, 0, none⟩ = some (.int .i64 b.price) := HB.out.cell 0
        clear hcq hq hbl
        go_upto_region 15 with (fail)
        go_cut [109] (fun u wx => u = .bool false ∧ Below wz.heap.size wz wx)
        case first =>
          have hnb := HNB.out
          rcases HSD.out with rfl | rfl
          · have hd : decide (b.price < q.price) = false := hnb
            clear hnb
            go_wp2_with fail
            go_quiet (fail)
            go_wp2_with fail
            go_meet
            exact ⟨by rfl, Below.drewN_of wz _⟩
          · have hd : decide (q.price < b.price) = false := hnb
            clear hnb
            go_wp2_with fail
            go_quiet (fail)
            go_wp2_with fail
            go_meet
            exact ⟨by rfl, Below.drewN_of wz _⟩
        case rest =>
        obtain ⟨rfl, hbc⟩ := hcut
        clear q0 c0
        have T1 := Lib.hid (T0.out.next hbc)
        have HB1 := Lib.hid (HB.out.below hbc)
        have q0 : wc.cell? ⟨qb, off + k * 6, none⟩ = some (.int .i64 q.price) := HCQ.out _ hbc 0 _ rfl
        have c0 : wc.cell? ⟨gb, 0, none⟩ = some (.int .i64 b.price) := HB1.out.cell 0
        have HBC := Lib.hid hbc
        clear hbc T0 HB
        go_upto_region 17 with (fail)
        go_quiet (fail)
        clear q0 c0
        have hbd : Below wc.heap.size wc (wc.drewN nq) := Below.drewN_of wc nq
        have T2 := Lib.hid (T1.out.next hbd)
        have HB2 := Lib.hid (HB1.out.below hbd)
        have HBD := Lib.hid (HBC.out.trans (hbd.mono HBC.out.size))
        clear hbd T1 HB1 HBC
        generalize wc.drewN nq = wd at *
        by_cases hp : q.price = b.price
        · rw [if_pos hp] at HM1 HM2
          have hpb : (q.price == b.price) = true := by rw [beq_iff_eq]; exact hp
          have HP := Lib.hid hp
          clear hp
          have q0 : wd.cell? ⟨qb, off + k * 6, none⟩ = some (.int .i64 q.price) := HCQ.out _ HBD.out 0 _ rfl
          have q1 : wd.cell? ⟨qb, off + k * 6 + 1, none⟩ = some (.int .i64 q.qty) := HCQ.out _ HBD.out 1 _ rfl
          have q2 : wd.cell? ⟨qb, off + k * 6 + 2, none⟩ = some (.int .i64 q.i0) := HCQ.out _ HBD.out 2 _ rfl
          have q3 : wd.cell? ⟨qb, off + k * 6 + 3, none⟩ = some (.int .i64 q.s0) := HCQ.out _ HBD.out 3 _ rfl
          have q4 : wd.cell? ⟨qb, off + k * 6 + 4, none⟩ = some (.int .i64 q.i1) := HCQ.out _ HBD.out 4 _ rfl
          have q5 : wd.cell? ⟨qb, off + k * 6 + 5, none⟩ = some (.int .i64 q.s1) := HCQ.out _ HBD.out 5 _ rfl
          obtain ⟨c0, c1, c2, c3, c4, c5⟩ := QC.of (q := b) HB2.out
          go_upto_region 18 with (fail)
          generalize hfl : (ma == 0) = fl
          have HFL := Lib.hid hfl
          clear hfl
          go_cut [126] (fun u wx => u = .bool false ∧ Below wd.heap.size wd wx)
          case first =>
            cases fl with
            | true =>
              have hqb := HFI.out HP.out (by simpa using HFL.out)
              subst hqb
              clear hpb
              have hlegs := legs_self
              go_wp2_with fail
              go_quiet (fail)
              go_wp2_with fail
              go_meet
              exact ⟨by rfl, Below.drewN_of wd _⟩
            | false =>
              go_wp2_with fail
              go_quiet (fail)
              go_wp2_with fail
              go_meet
              exact ⟨by rfl, Below.drewN_of wd _⟩
          case rest =>
          obtain ⟨rfl, hbc⟩ := hcut
          clear c0 c1 c2 c3 c4 c5 q0 q1 q2 q3 q4 q5
          have T3 := Lib.hid (T2.out.next hbc)
          have HB3 := Lib.hid (HB2.out.below hbc)
          have HBE := Lib.hid (HBD.out.trans (hbc.mono HBD.out.size))
          have q1 : wc.cell? ⟨qb, off + k * 6 + 1, none⟩ = some (.int .i64 q.qty) := HCQ.out _ HBE.out 1 _ rfl
          have y1 : IntKind.i64.wrap ((ma : Int) + 1) = (ma : Int) + 1 := IntWalk.i64_in _ (by omega)
          have HMB : Hid ((manyTo Q b (k + 1) == 0) = false) := Lib.hid (by rw [HM2.out, beq_eq_false_iff_ne]; omega)
          clear hbc T2 HB2 HBD hpb HFL
          by_cases hmo : mo < q.qty
          · rw [if_pos hmo] at HM1
            go_wp2_with fail
            clear q1
            go_roundw
            case rel => exact ⟨k + 1, by rw [HM1.out], by rw [HM2.out]; rfl, by rw [HMB.out], by go_num, by omega, T3.out, HR.out.below HBE.out, HB3.out⟩
            case measure => simp [intOf]; omega
          · rw [if_neg hmo] at HM1
            go_wp2_with fail
            clear q1
            go_roundw
            case rel => exact ⟨k + 1, by rw [HM1.out], by rw [HM2.out]; rfl, by rw [HMB.out], by go_num, by omega, T3.out, HR.out.below HBE.out, HB3.out⟩
            case measure => simp [intOf]; omega
        · rw [if_neg hp] at HM1 HM2
          have hpb : (q.price == b.price) = false := by rw [beq_eq_false_iff_ne]; exact hp
          clear hp
          go_wp2_with fail
          go_roundw
          case rel => exact ⟨k + 1, by rw [HM1.out], by rw [HM2.out]; rfl, by rw [HM2.out]; rfl, by go_num, by omega, T2.out, HR.out.below HBD.out, HB2.out⟩
          case measure => simp [intOf]; omega
      · obtain rfl : k = Q.length := by omega
        generalize mz Q b Q.length = mo at *
        generalize manyTo Q b Q.length = ma at *
        have c0 : wz.cell? ⟨gb, 0, none⟩ = some (.int .i64 b.price) := HB.out.cell 0
        go_wp2_with fail
        refine (known14_any _).mono ?_
        rintro e w9 ⟨rfl, hb⟩
        have T9 := Lib.hid (T0.out.next hb)
        clear hb T0 c0
        go_wp2_with fail
        go_ret
        exact ⟨by trivial, T9.out.bel⟩
end Go.Proofs.Ytilficlanliinaa
