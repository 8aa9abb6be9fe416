/- The walk of cornhilllaw14.ImpliedRules. Printed by mk_irules.py. -/
import Derived.Test.YtilficlanliinaaTri
import Derived.Deep.DeepCutAuto
namespace Go.Proofs.Ytilficlanliinaa
open Go.RowKit

def three (A : Nat → Int) (k : IntKind) : Array Value := #[.int k (A 0), .int k (A 1), .int k (A 2)]
/-- where a quote is looked at: its three places, their prices -/
structure R3 (wz w1 : World) (ga gb : Nat) (A X : Nat → Int) : Prop where
  bel : Below wz.heap.size wz w1
  a : Blk w1 ga 32 (three A .i64)
  b : Blk w1 gb 33 (three X .i64)
  a0 : wz.heap.size ≤ ga
  b0 : wz.heap.size ≤ gb
  ne : ga ≠ gb
theorem R3.next {wz w1 w2 : World} {ga gb : Nat} {A X : Nat → Int} (h : R3 wz w1 ga gb A X) (hb : Below w1.heap.size w1 w2) : R3 wz w2 ga gb A X :=
  ⟨h.bel.trans (hb.mono h.bel.size), h.a.below hb, h.b.below hb, h.a0, h.b0, h.ne⟩
theorem R3.call {wz w1 w2 : World} {ga gb : Nat} {A X : Nat → Int} (h : R3 wz w1 ga gb A X) (hb : Below w1.drew.heap.size w1.drew w2) : R3 wz w2 ga gb A X := h.next ((Below.drewN_of w1 1).trans hb)
theorem R3.ca {wz w1 : World} {ga gb : Nat} {A X : Nat → Int} (h : R3 wz w1 ga gb A X) {i : Nat} (hi : i < 3) : w1.cell? ⟨ga, i, none⟩ = some (.int .i64 (A i)) := by
  rw [h.a.cell]
  have : i = 0 ∨ i = 1 ∨ i = 2 := by omega
  rcases this with rfl | rfl | rfl <;> rfl
theorem R3.cb {wz w1 : World} {ga gb : Nat} {A X : Nat → Int} (h : R3 wz w1 ga gb A X) {i : Nat} (hi : i < 3) : w1.cell? ⟨gb, i, none⟩ = some (.int .i64 (X i)) := by
  rw [h.b.cell]
  have : i = 0 ∨ i = 1 ∨ i = 2 := by omega
  rcases this with rfl | rfl | rfl <;> rfl
def upd (A : Nat → Int) (i : Nat) (x : Int) (j : Nat) : Int := if j = i then x else A j
theorem R3.set {wz w1 : World} {ga gb : Nat} {A X : Nat → Int} (h : R3 wz w1 ga gb A X) {i : Nat} (hi : i < 3) (u v : Int) :
    R3 wz ((w1.setCell ⟨ga, i, none⟩ (.int .i64 u)).setCell ⟨gb, i, none⟩ (.int .i64 v)) ga gb (upd A i u) (upd X i v) := by
  have h1 := h.a.set_ i (.int .i64 u)
  have h2 := (h.b.far (p := ⟨ga, i, none⟩) (Ne.symm h.ne) (.int .i64 u)).set_ i (.int .i64 v)
  have h3 := h1.far (p := ⟨gb, i, none⟩) h.ne (.int .i64 v)
  have e1 : ∀ (Y : Nat → Int) (x : Int), (three Y .i64).setIfInBounds i (.int .i64 x) = three (upd Y i x) .i64 := by
    intro Y x
    have : i = 0 ∨ i = 1 ∨ i = 2 := by omega
    rcases this with rfl | rfl | rfl <;> rfl
  rw [e1] at h2 h3
  refine ⟨?_, h3, h2, h.a0, h.b0, h.ne⟩
  exact h.bel.trans ((((Keeps.refl (fun k => k = ga ∨ k = gb) w1).setCell (p := ⟨ga, i, none⟩) (fun _ => .inl rfl) _).setCell (p := ⟨gb, i, none⟩) (fun _ => .inr rfl) _).below (fun k hk => by have := h.a0; have := h.b0; rcases hk with rfl | rfl <;> omega) h.bel.size)
/-- what has been tried -/
def Seen (p : Prod) (A X : Nat → Int) (f : Bool) (n m : Nat) : Prop :=
  ∀ n' m' o', n' < 3 → m' < 3 → o' < 3 → n' ≠ m' → o' ≠ n' → o' ≠ m' → (n' < n ∨ n' = n ∧ m' < m) → legsP p (A n') = (A m', A o', true) → X m' - X o' = X n' → f = true
theorem Seen.zero (p : Prod) (A X : Nat → Int) (f : Bool) : Seen p A X f 0 0 := fun _ _ _ _ _ _ _ _ _ h => by omega
theorem Seen.row {p : Prod} {A X : Nat → Int} {f : Bool} {n : Nat} (h : Seen p A X f n 3) : Seen p A X f (n + 1) 0 := fun n' m' o' h1 h2 h3 h4 h5 h6 h7 => h n' m' o' h1 h2 h3 h4 h5 h6 (by omega)
theorem Seen.yes (p : Prod) (A X : Nat → Int) (n m : Nat) : Seen p A X true n m := fun _ _ _ _ _ _ _ _ _ _ _ _ => rfl
theorem Seen.no {p : Prod} {A X : Nat → Int} {f : Bool} {n m : Nat} (h : Seen p A X f n m) (hn : ∀ o', o' < 3 → n ≠ m → o' ≠ n → o' ≠ m → legsP p (A n) = (A m, A o', true) → X m - X o' ≠ X n) : Seen p A X f n (m + 1) := by
  intro n' m' o' h1 h2 h3 h4 h5 h6 h7 h8 h9
  by_cases hc : n' = n ∧ m' = m
  · obtain ⟨rfl, rfl⟩ := hc
    exact absurd h9 (hn o' h3 h4 h5 h6 h8)
  · exact h n' m' o' h1 h2 h3 h4 h5 h6 (by omega) h8 h9
theorem Seen.hit {p : Prod} {A X : Nat → Int} {f : Bool} (h : Seen p A X f 3 0) (hh : Hit p (A 0) (A 1) (A 2) (X 0) (X 1) (X 2)) : f = true := by
  rcases hh with ⟨h1, h2⟩ | ⟨h1, h2⟩ | ⟨h1, h2⟩
  · exact h 1 0 2 (by omega) (by omega) (by omega) (by omega) (by omega) (by omega) (by omega) h1 h2
  · exact h 1 2 0 (by omega) (by omega) (by omega) (by omega) (by omega) (by omega) (by omega) h1 h2
  · exact h 0 1 2 (by omega) (by omega) (by omega) (by omega) (by omega) (by omega) (by omega) h1 h2
/-- what has been gathered -/
structure Got (S : List Tp) (q : Qt) (kk : Int) (A X : Nat → Int) (m : Nat) : Prop where
  a0 : A 0 = kk
  x0 : X 0 = q.price
  a1 : 0 < m → A 1 = q.i0 ∧ X 1 = prAt S q.i0 q.s0
  a2 : 1 < m → A 2 = q.i1 ∧ X 2 = prAt S q.i1 q.s1
def legI (q : Qt) (m : Nat) : Int := if m = 0 then q.i0 else q.i1
def legS (q : Qt) (m : Nat) : Int := if m = 0 then q.s0 else q.s1
theorem Got.next {S : List Tp} {q : Qt} {kk : Int} {A X : Nat → Int} {m : Nat} (h : Got S q kk A X m) (hm : m < 2) : Got S q kk (upd A (m + 1) (legI q m)) (upd X (m + 1) (prAt S (legI q m) (legS q m))) (m + 1) := by
  have hc : m = 0 ∨ m = 1 := by omega
  rcases hc with rfl | rfl
  · exact ⟨h.a0, h.x0, fun _ => ⟨rfl, rfl⟩, fun h => by omega⟩
  · exact ⟨h.a0, h.x0, fun _ => h.a1 (by omega), fun _ => ⟨rfl, rfl⟩⟩
theorem QR.leg {p : Prod} {S : List Tp} {k : Int} {q : Qt} (h : QR p S k q) {m : Nat} (hm : m < 2) : LegIn S q.qty (legI q m) (legS q m) := by
  have hc : m = 0 ∨ m = 1 := by omega
  rcases hc with rfl | rfl
  · exact h.l0
  · exact h.l1
theorem leg_cells {w : World} {b o : Nat} {q : Qt} (h : CellsAt w b o q.cells) {m : Nat} (hm : m < 2) : w.cell? ⟨b, o + 2 + m * 2, none⟩ = some (.int .i64 (legI q m)) ∧ w.cell? ⟨b, o + 2 + m * 2 + 1, none⟩ = some (.int .i64 (legS q m)) := by
  have hc : m = 0 ∨ m = 1 := by omega
  rcases hc with rfl | rfl
  · exact ⟨h 2 _ rfl, h 3 _ rfl⟩
  · exact ⟨h 4 _ rfl, h 5 _ rfl⟩
theorem top_side {w : World} {gt : Nat} {t : TypeId} {S : List Tp} (h : Blk w gt t (S.flatMap Tp.cells).toArray) {a : Nat} {x : Tp} (hx : S[a]? = some x) :
    w.cell? ⟨gt, a * 6, none⟩ = some (.bool x.h0) ∧ w.cell? ⟨gt, a * 6 + 1, none⟩ = some (.bool x.h1) ∧ w.cell? ⟨gt, a * 6 + 2, none⟩ = some (.int .i64 x.p0) ∧ w.cell? ⟨gt, a * 6 + 2 + 1, none⟩ = some (.int .i64 x.p1) ∧ w.cell? ⟨gt, a * 6 + 4, none⟩ = some (.int .i64 x.q0) ∧ w.cell? ⟨gt, a * 6 + 4 + 1, none⟩ = some (.int .i64 x.q1) :=
  ⟨tps_cell h a 0 x hx (by omega), tps_cell h a 1 x hx (by omega), tps_cell h a 2 x hx (by omega), tps_cell h a 3 x hx (by omega), tps_cell h a 4 x hx (by omega), tps_cell h a 5 x hx (by omega)⟩
theorem price_small {p : Prod} {k x : Int} (h : priceP p k x = 0) : -2000000 ≤ x ∧ x ≤ 2000000 := by
  unfold priceP at h
  split at h
  · omega
  · rename_i hc
    have hb := check_band (count_ne hc)
    split at h
    · omega
    · split at h
      · omega
      · split at h
        · omega
        · rename_i hx
          unfold lowP highP at hx
          split at hx <;> omega
theorem prAt_bd {S : List Tp} (h : ∀ x ∈ S, ∀ s : Int, -29000 ≤ x.price s ∧ x.price s ≤ 29000) (i s : Int) : -2000000 ≤ prAt S i s ∧ prAt S i s ≤ 2000000 := by
  unfold prAt
  split
  · rename_i x hx
    have := h x (List.mem_of_getElem? hx) s
    omega
  · omega
theorem Got.bd {S : List Tp} {q : Qt} {kk : Int} {A X : Nat → Int} (h : Got S q kk A X 2) (hS : ∀ x ∈ S, ∀ s : Int, -29000 ≤ x.price s ∧ x.price s ≤ 29000) (hq : -2000000 ≤ q.price ∧ q.price ≤ 2000000) {j : Nat} (hj : j < 3) : -2000000 ≤ X j ∧ X j ≤ 2000000 := by
  have hc : j = 0 ∨ j = 1 ∨ j = 2 := by omega
  rcases hc with rfl | rfl | rfl
  · rw [h.x0]; exact hq
  · rw [(h.a1 (by omega)).2]; exact prAt_bd hS _ _
  · rw [(h.a2 (by omega)).2]; exact prAt_bd hS _ _
theorem Got.hit {p : Prod} {S : List Tp} {q : Qt} {kk : Int} {A X : Nat → Int} (h : Got S q kk A X 2) (hr : QR p S kk q) : Hit p (A 0) (A 1) (A 2) (X 0) (X 1) (X 2) := by
  rw [h.a0, h.x0, (h.a1 (by omega)).1, (h.a1 (by omega)).2, (h.a2 (by omega)).1, (h.a2 (by omega)).2]
  exact hr.hit
set_option maxRecDepth 100000 in
set_option maxHeartbeats 16000000 in
theorem irules_any (px : Prod) (ta : Option Addr) (tc : Nat) (L : List Tp) (inst : Int) (w : World) (hX : PIn w px) (hT : TP.Rd w ta L) (hok : ∀ x ∈ L, x.ok) (hL : L.length ≤ 9223372036854775807) (hi1 : -9223372036854775808 ≤ inst) (hi2 : inst ≤ 9223372036854775807) :
    Calls Try.prog 3 #[px.agg, .slice ta L.length tc, .int .i64 inst] w fun e w' => e = .returned (.bool true) ∧ Below w.heap.size w w' := by
  have s1 : ∀ (w : World) (o : Obj), (w.alloc o).heap.size = w.heap.size + 1 := fun w o => by simp
  have hkp := keep_any px (w.alloc (.cells #[.string px.code, .slice px.ma px.months.length px.mc, .int .i64 px.tick, .int .i64 px.low, .int .i64 px.high, .int .i64 px.wide, .int .i64 px.rule, .int .i64 px.top, .int .i64 px.least, .int .i64 px.part, .slice px.sa px.settle.length px.sc] 25)) hX.px
  unfold Prod.agg Prod.cells at hkp ⊢
  have HB0 : Hid (Below w.heap.size w (w.alloc (.cells #[.string px.code, .slice px.ma px.months.length px.mc, .int .i64 px.tick, .int .i64 px.low, .int .i64 px.high, .int .i64 px.wide, .int .i64 px.rule, .int .i64 px.top, .int .i64 px.least, .int .i64 px.part, .slice px.sa px.settle.length px.sc] 25))) := Lib.hid (Below.allocN _ _)
  have HT := Lib.hid hT
  have HOK := Lib.hid hok
  clear hT hok
  go_enter Try.func3, Try.ntmps3
  go_wp2_with fail
  refine hkp.mono ?_
  rintro e w1 ⟨k, ma, mc, sa, sc, hko, rfl, hpv, hb1⟩
  have hck := keep_check k hko ma mc sa sc
  have hB1 := HB0.out.trans (hb1.mono HB0.out.size)
  clear hkp hb1 HB0 hX hko
  generalize k.prod ma mc sa sc = p at *
  go_upto_region 2 with (fail)
  have hbx : Blk (w1.alloc (.cells #[.string p.code, .slice p.ma p.months.length p.mc, .int .i64 p.tick, .int .i64 p.low, .int .i64 p.high, .int .i64 p.wide, .int .i64 p.rule, .int .i64 p.top, .int .i64 p.least, .int .i64 p.part, .slice p.sa p.settle.length p.sc] 25)) w1.heap.size 25 p.cells := Blk.new _ _ _
  have HBX := Lib.hid hbx
  have HB2 : Hid (Below w.heap.size w (w1.alloc (.cells #[.string p.code, .slice p.ma p.months.length p.mc, .int .i64 p.tick, .int .i64 p.low, .int .i64 p.high, .int .i64 p.wide, .int .i64 p.rule, .int .i64 p.top, .int .i64 p.least, .int .i64 p.part, .slice p.sa p.settle.length p.sc] 25))) := Lib.hid (hB1.trans ((Below.allocN _ _).mono hB1.size))
  have HPV := Lib.hid (hpv.below (Below.allocN w1 (.cells p.cells 25)))
  have HLE := Lib.hid hB1.size
  have HCK := Lib.hid hck
  clear hbx hpv hB1 hck
  unfold Prod.cells at HPV
  generalize (w1.alloc (.cells #[.string p.code, .slice p.ma p.months.length p.mc, .int .i64 p.tick, .int .i64 p.low, .int .i64 p.high, .int .i64 p.wide, .int .i64 p.rule, .int .i64 p.top, .int .i64 p.least, .int .i64 p.part, .slice p.sa p.settle.length p.sc] 25)) = w2 at *
  have hto := tops_any p ta tc L w2 HPV.out HCK.out (HT.out.below HB2.out) HOK.out hL
  have hpc := PC.of5 HBX.out
  generalize w1.heap.size = gp at *
  unfold Prod.agg Prod.cells at hto
  obtain ⟨b0, b1, b2, b3, b4, b5, b6, b7, b8, b9, b10⟩ := hpc
  have HN := Lib.hid (countN_room p.months.length (check_len HCK.out).2 (check_len HCK.out).1)
  have hcn := countN_bd p.months.length (check_len HCK.out).2
  have hnr := HN.out
  have hlen := check_len HCK.out
  obtain ⟨n, hn⟩ : ∃ n, countN p.months.length = n := ⟨_, rfl⟩
  rw [hn] at hto hcn hnr
  have HNN := Lib.hid hn
  clear hn
  go_wp2_with fail
  refine hto.mono ?_
  rintro e w3 ⟨gt, rfl, htp, hgt, hb⟩
  have hlt : LT w w3 gp p gt (topsP p L) := ⟨HB2.out.trans (hb.mono HB2.out.size), HBX.out.below hb, HPV.out.below hb, htp, HLE.out, Nat.le_trans HB2.out.size hgt⟩
  have T3 := Lib.hid hlt
  have HTO := Lib.hid (topsP_ok HCK.out L)
  have HTL : Hid ((topsP p L).length = n) := Lib.hid (by rw [topsP_len, HNN.out])
  have HTP := Lib.hid (fun (x : Tp) (hx : x ∈ topsP p L) (s : Int) => tops_price HCK.out hx s)
  clear hto hb htp hgt hlt HBX HB2 HPV HLE HT HOK hL b0 b1 b2 b3 b4 b5 b6 b7 b8 b9 b10
  generalize topsP p L = S at *
  have hw2 := withI_bd inst 0 ((n : Int) - 1) (by omega)
  have HWI := Lib.hid fun w => within_any inst 0 ((n : Int) - 1) w hi1 hi2 (by omega) (by omega) (by omega)
  have y2 : IntKind.i64.wrap ((n : Int) - 1) = (n : Int) - 1 := IntWalk.i64_in _ (by omega)
  generalize withI inst 0 ((n : Int) - 1) = kk at *
  go_wp2_with fail
  refine (HWI.out _).mono ?_
  rintro e w4 ⟨rfl, rfl⟩
  clear HWI y2
  have HQU := Lib.hid fun (sd : Int) wz (h : LT w wz gp p gt S) => quotes_any p kk sd (some ⟨gt, 0, none⟩) n S wz h.pv h.rd HTO.out (by rw [HTL.out]; omega) (Nat.le_trans (allP_len p S kk sd) (by omega))
  rw [HTL.out] at HQU
  unfold Prod.agg Prod.cells at HQU
  have hsz : n = S.length := HTL.out.symm
  have HSZ := Lib.hid hsz
  clear hsz
  go_wp2_with fail
  go_loopw [10] (fun j w' => ∃ sd : Int, j = .int .i64 sd ∧ 1 ≤ sd ∧ sd ≤ 3 ∧ LT w w' gp p gt S) (fun j _ => (3 - intOf j).toNat)
  case atStart => exact ⟨1, rfl, by omega, by omega, T3.out⟩
  case round =>
    clear T3
    obtain ⟨sd, rfl, hs1, hs3, hT⟩ := hrel
    obtain ⟨wy, rfl⟩ : ∃ wo : World, wo = wr := ⟨_, rfl⟩
    have T3 := Lib.hid hT
    clear hT
    have y1 : IntKind.i64.wrap (sd + 1) = sd + 1 := IntWalk.i64_in _ (by omega)
    by_cases hs2 : sd ≤ 2
    · have HSD : Hid (sd = 1 ∨ sd = 2) := Lib.hid (by omega)
      obtain ⟨b0, b1, b2, b3, b4, b5, b6, b7, b8, b9, b10⟩ := T3.out.pc
      go_wp2_with fail
      refine (HQU.out sd _ T3.out).mono ?_
      rintro e w5 ⟨v, rfl, hr, hb⟩
      have T4 := Lib.hid (T3.out.next hb)
      have hr0 := row_base hr T3.out.bel.size
      clear b0 b1 b2 b3 b4 b5 b6 b7 b8 b9 b10
      obtain ⟨qa, qc, hvf, hqn, hrd⟩ := hr0.rd
      subst hvf
      have HRD := Lib.hid hrd
      have HQL := Lib.hid (quotesP_len p S kk sd)
      have HQR := Lib.hid fun q (hq : q ∈ quotesP p S kk sd) => qr_quotes HSD.out hq
      have HPR := Lib.hid fun q (hq : q ∈ quotesP p S kk sd) => qr_price (p := p) (S := S) (k := kk) (q := q) (by rcases HSD.out with rfl | rfl; exact .inl hq; exact .inr hq)
      clear hr hr0 hb T3 hrd hqn HSD
      generalize quotesP p S kk sd = Q at *
      have hq27 := HQL.out
      go_wp2_with fail
      go_loopw [12] (fun j w' => ∃ i : Nat, j = .int .i64 i ∧ i ≤ Q.length ∧ LT w w' gp p gt S ∧ QT.Rd w' qa Q) (fun j _ => Q.length - (intOf j).toNat)
      case atStart => exact ⟨0, rfl, Nat.zero_le _, T4.out, HRD.out⟩
      case round =>
        clear T4 HRD
        obtain ⟨i, rfl, hi, hT, hR⟩ := hrel
        obtain ⟨wz, rfl⟩ : ∃ wo : World, wo = wr := ⟨_, rfl⟩
        have T4 := Lib.hid hT
        have HRD := Lib.hid hR
        clear hT hR
        by_cases hin : i < Q.length
        · have hin' : (i : Int) < (Q.length : Int) := by omega
          obtain ⟨q, hq⟩ : ∃ q, Q[i]? = some q := ⟨_, List.getElem?_eq_getElem hin⟩
          have hqr := HQR.out q (List.mem_of_getElem? hq)
          have HP0 := Lib.hid (HPR.out q (List.mem_of_getElem? hq))
          obtain ⟨qb, off, rfl, hbl, hcq⟩ := HRD.out i q hq
          have HCQ : Hid (∀ wv, Below wz.heap.size wz wv → CellsAt wv qb (off + i * 6) q.cells) := Lib.hid fun wv hb => hcq.below hb hbl
          have HR := Lib.hid hqr
          have HBL := Lib.hid hbl
          clear hq hqr hcq hbl
          go_upto_region 13 with (fail)
          have hr3 : R3 wz ((wz.alloc (.cells #[.int .i64 0, .int .i64 0, .int .i64 0] 32)).alloc (.cells #[.int .i64 0, .int .i64 0, .int .i64 0] 33)) wz.heap.size (wz.heap.size + 1) (fun _ => 0) (fun _ => 0) :=
            ⟨(Below.allocN _ _).trans ((Below.allocN _ _).mono (by simp)), (Blk.new wz 32 (three (fun _ => 0) .i64)).alloc _, by
              have h := Blk.new (wz.alloc (.cells #[.int .i64 0, .int .i64 0, .int .i64 0] 32)) 33 (three (fun _ => 0) .i64)
              rw [s1] at h
              exact h, Nat.le_refl _, Nat.le_succ _, by omega⟩
          have HR3 := Lib.hid hr3
          clear hr3
          generalize (wz.alloc (.cells #[.int .i64 0, .int .i64 0, .int .i64 0] 32)).alloc (.cells #[.int .i64 0, .int .i64 0, .int .i64 0] 33) = w6 at *
          generalize wz.heap.size + 1 = gb at HR3 ⊢
          have HBL2 := Lib.hid (Nat.lt_of_lt_of_le HBL.out HR3.out.a0)
          have HBL3 := Lib.hid (Nat.lt_of_lt_of_le HBL.out HR3.out.b0)
          generalize wz.heap.size = ga at HR3 HBL2 ⊢
          have q0 : w6.cell? ⟨qb, off + i * 6, none⟩ = some (.int .i64 q.price) := HCQ.out _ HR3.out.bel 0 _ rfl
          have a0 : w6.cell? ⟨ga, 0, none⟩ = some (.int .i64 0) := HR3.out.ca (i := 0) (by omega)
          have b0 : w6.cell? ⟨gb, 0, none⟩ = some (.int .i64 0) := HR3.out.cb (i := 0) (by omega)
          have f0 : ∀ o, w6.frozen? ⟨ga, o, none⟩ = false := fun o => HR3.out.a.frozen o
          have f1 : ∀ o, w6.frozen? ⟨gb, o, none⟩ = false := fun o => HR3.out.b.frozen o
          have n1 : ga ≠ gb := HR3.out.ne
          have n2 : qb ≠ ga := Nat.ne_of_lt HBL2.out
          have n3 : qb ≠ gb := Nat.ne_of_lt HBL3.out
          have n4 : gb ≠ ga := Ne.symm n1
          have n5 : ga ≠ qb := Ne.symm n2
          have n6 : gb ≠ qb := Ne.symm n3
          go_region
          clear q0 a0 b0 f0 f1 n1 n2 n3 n4 n5 n6
          go_upto_region 15 with (fail)
          have HR4 : Hid (R3 wz ((w6.setCell ⟨ga, 0, none⟩ (.int .i64 kk)).setCell ⟨gb, 0, none⟩ (.int .i64 q.price)).drew ga gb (upd (fun _ => 0) 0 kk) (upd (fun _ => 0) 0 q.price)) := Lib.hid ((HR3.out.set (i := 0) (by omega) kk q.price).next (Below.drewN_of _ 1))
          have HG4 : Hid (Got S q kk (upd (fun _ => 0) 0 kk) (upd (fun _ => 0) 0 q.price) 0) := Lib.hid ⟨rfl, rfl, fun h => by omega, fun h => by omega⟩
          have HGA : Hid (gt < ga) := Lib.hid (Nat.lt_of_lt_of_le T4.out.tp.lt HR3.out.a0)
          have HGB : Hid (gt < gb) := Lib.hid (Nat.lt_of_lt_of_le T4.out.tp.lt HR3.out.b0)
          clear HR3
          generalize ((w6.setCell ⟨ga, 0, none⟩ (.int .i64 kk)).setCell ⟨gb, 0, none⟩ (.int .i64 q.price)).drew = w7 at *
          go_loopw [15] (fun j w' => ∃ (m : Nat) (A X : Nat → Int), j = .int .i64 m ∧ m ≤ 2 ∧ R3 wz w' ga gb A X ∧ Got S q kk A X m) (fun j _ => 2 - (intOf j).toNat)
          case atStart => exact ⟨0, _, _, rfl, by omega, HR4.out, HG4.out⟩
          case round =>
            clear HR4 HG4
            obtain ⟨m, A, X, rfl, hm, hr, hg⟩ := hrel
            obtain ⟨w8, rfl⟩ : ∃ wo : World, wo = wr := ⟨_, rfl⟩
            have HR5 := Lib.hid hr
            have HGO := Lib.hid hg
            clear hr hg
            by_cases hm2 : m < 2
            · have hm2' : (m : Int) < 2 := by omega
              have hlc := leg_cells (HCQ.out _ HR5.out.bel) hm2
              obtain ⟨a, x, ha, hx, hs, hhas, hqty⟩ := HR.out.leg hm2
              have HLI := Lib.hid ha
              have hal : a < S.length := lt_of_get hx
              rw [ha] at hlc
              have HXS := Lib.hid hx
              obtain ⟨s, hls⟩ : ∃ s, legS q m = s := ⟨_, rfl⟩
              rw [hls] at hlc hs hhas hqty
              have HLS := Lib.hid hls
              clear ha hx hls
              obtain ⟨g0, g1⟩ := hlc
              go_upto_region 18 with (fail)
              clear g0 g1
              have hb9 : Below w8.heap.size w8 (w8.alloc (.cells #[.int .i64 a, .int .i64 s] 35)) := Below.allocN _ _
              have HR6 := Lib.hid (HR5.out.next hb9)
              have HLG : Hid (Blk (w8.alloc (.cells #[.int .i64 a, .int .i64 s] 35)) w8.heap.size 35 #[.int .i64 a, .int .i64 s]) := Lib.hid (Blk.new _ _ _)
              have HNE : Hid (w8.heap.size ≠ ga ∧ w8.heap.size ≠ gb) := Lib.hid ⟨Nat.ne_of_gt HR5.out.a.lt, Nat.ne_of_gt HR5.out.b.lt⟩
              clear hb9 HR5
              generalize w8.alloc (.cells #[.int .i64 a, .int .i64 s] 35) = w9 at *
              generalize w8.heap.size = gl at HLG HNE ⊢
              have HTC := Lib.hid (top_side (T4.out.tp.below HR6.out.bel) HXS.out)
              have q1 : w9.cell? ⟨qb, off + i * 6 + 1, none⟩ = some (.int .i64 q.qty) := HCQ.out _ HR6.out.bel 1 _ rfl
              have l0 : w9.cell? ⟨gl, 0, none⟩ = some (.int .i64 a) := HLG.out.cell 0
              have l1 : w9.cell? ⟨gl, 1, none⟩ = some (.int .i64 s) := HLG.out.cell 1
              have hsl := HSZ.out
              have d1 : decide ((a : Int) < 0) = false := by simp
              have d2 : decide ((n : Int) ≤ (a : Int)) = false := by simp; omega
              have d4 : decide (n ≤ a) = false := by simp; omega
              have han : a < n := by omega
              clear hsl
              rcases hs with rfl | rfl
              · as_aux_lemma =>
                  have hh : x.h0 = true := hhas
                  have t0 : w9.cell? ⟨gt, a * 6, none⟩ = some (.bool true) := by rw [← hh]; exact HTC.out.1
                  have t1 : w9.cell? ⟨gt, a * 6 + 4, none⟩ = some (.int .i64 x.q0) := HTC.out.2.2.2.2.1
                  have d3 : decide (x.q0 < q.qty) = false := by
                    have hq : q.qty ≤ x.q0 := hqty
                    simpa using hq
                  clear hh hhas hqty
                  go_wp2_with fail
                  go_quiet (fail)
                  clear t0 t1 d1 d2 d3 d4 q1
                  have HR7 := Lib.hid (HR6.out.next (Below.drewN_of w9 nq))
                  have HLG2 := Lib.hid (HLG.out.below (Below.drewN_of w9 nq))
                  have HTC2 : Hid ((w9.drewN nq).cell? ⟨gt, a * 6 + 2, none⟩ = some (.int .i64 x.p0)) := Lib.hid HTC.out.2.2.1
                  generalize w9.drewN nq = w10 at *
                  clear HR6 HLG HTC
                  go_upto_region 20 with (fail)
                  have l0 : w10.cell? ⟨gl, 0, none⟩ = some (.int .i64 a) := HLG2.out.cell 0
                  have l1 : w10.cell? ⟨gl, 1, none⟩ = some (.int .i64 1) := HLG2.out.cell 1
                  have t1 := HTC2.out
                  have a0 : w10.cell? ⟨ga, m + 1, none⟩ = some (.int .i64 (A (m + 1))) := HR7.out.ca (by omega)
                  have b0 : w10.cell? ⟨gb, m + 1, none⟩ = some (.int .i64 (X (m + 1))) := HR7.out.cb (by omega)
                  have f0 : ∀ o, w10.frozen? ⟨ga, o, none⟩ = false := fun o => HR7.out.a.frozen o
                  have f1 : ∀ o, w10.frozen? ⟨gb, o, none⟩ = false := fun o => HR7.out.b.frozen o
                  have n1 : ga ≠ gb := HR7.out.ne
                  have n2 : gt ≠ ga := Nat.ne_of_lt HGA.out
                  have n3 : gt ≠ gb := Nat.ne_of_lt HGB.out
                  have n4 : gb ≠ ga := Ne.symm n1
                  have n5 : ga ≠ gt := Ne.symm n2
                  have n6 : gb ≠ gt := Ne.symm n3
                  have n7 : gl ≠ ga := HNE.out.1
                  have n8 : gl ≠ gb := HNE.out.2
                  have n9 : ga ≠ gl := Ne.symm n7
                  have n10 : gb ≠ gl := Ne.symm n8
                  have y3 : IntKind.i64.wrap ((m : Int) + 1) = (m : Int) + 1 := IntWalk.i64_in _ (by omega)
                  have y4 : ((m : Int) + 1).toNat = m + 1 := by omega
                  go_region
                  clear l0 l1 t1 a0 b0 f0 f1 n1 n2 n3 n4 n5 n6 n7 n8 n9 n10 y3 y4
                  go_wp2_with fail
                  go_roundw
                  case rel => exact ⟨m + 1, _, _, by go_num, by omega, (HR7.out.set (i := m + 1) (by omega) a x.p0).next (Below.drewN_of _ 1), by
                    have h := HGO.out.next hm2
                    rw [HLI.out, HLS.out, prAt_eq HXS.out] at h
                    exact h⟩
                  case measure => simp [intOf]; omega
              · as_aux_lemma =>
                  have hh : x.h1 = true := hhas
                  have t0 : w9.cell? ⟨gt, a * 6 + 1, none⟩ = some (.bool true) := by rw [← hh]; exact HTC.out.2.1
                  have t1 : w9.cell? ⟨gt, a * 6 + 4 + 1, none⟩ = some (.int .i64 x.q1) := HTC.out.2.2.2.2.2
                  have d3 : decide (x.q1 < q.qty) = false := by
                    have hq : q.qty ≤ x.q1 := hqty
                    simpa using hq
                  clear hh hhas hqty
                  go_wp2_with fail
                  go_quiet (fail)
                  clear t0 t1 d1 d2 d3 d4 q1
                  have HR7 := Lib.hid (HR6.out.next (Below.drewN_of w9 nq))
                  have HLG2 := Lib.hid (HLG.out.below (Below.drewN_of w9 nq))
                  have HTC2 : Hid ((w9.drewN nq).cell? ⟨gt, a * 6 + 2 + 1, none⟩ = some (.int .i64 x.p1)) := Lib.hid HTC.out.2.2.2.1
                  generalize w9.drewN nq = w10 at *
                  clear HR6 HLG HTC
                  go_upto_region 20 with (fail)
                  have l0 : w10.cell? ⟨gl, 0, none⟩ = some (.int .i64 a) := HLG2.out.cell 0
                  have l1 : w10.cell? ⟨gl, 1, none⟩ = some (.int .i64 2) := HLG2.out.cell 1
                  have t1 := HTC2.out
                  have a0 : w10.cell? ⟨ga, m + 1, none⟩ = some (.int .i64 (A (m + 1))) := HR7.out.ca (by omega)
                  have b0 : w10.cell? ⟨gb, m + 1, none⟩ = some (.int .i64 (X (m + 1))) := HR7.out.cb (by omega)
                  have f0 : ∀ o, w10.frozen? ⟨ga, o, none⟩ = false := fun o => HR7.out.a.frozen o
                  have f1 : ∀ o, w10.frozen? ⟨gb, o, none⟩ = false := fun o => HR7.out.b.frozen o
                  have n1 : ga ≠ gb := HR7.out.ne
                  have n2 : gt ≠ ga := Nat.ne_of_lt HGA.out
                  have n3 : gt ≠ gb := Nat.ne_of_lt HGB.out
                  have n4 : gb ≠ ga := Ne.symm n1
                  have n5 : ga ≠ gt := Ne.symm n2
                  have n6 : gb ≠ gt := Ne.symm n3
                  have n7 : gl ≠ ga := HNE.out.1
                  have n8 : gl ≠ gb := HNE.out.2
                  have n9 : ga ≠ gl := Ne.symm n7
                  have n10 : gb ≠ gl := Ne.symm n8
                  have y3 : IntKind.i64.wrap ((m : Int) + 1) = (m : Int) + 1 := IntWalk.i64_in _ (by omega)
                  have y4 : ((m : Int) + 1).toNat = m + 1 := by omega
                  go_region
                  clear l0 l1 t1 a0 b0 f0 f1 n1 n2 n3 n4 n5 n6 n7 n8 n9 n10 y3 y4
                  go_wp2_with fail
                  go_roundw
                  case rel => exact ⟨m + 1, _, _, by go_num, by omega, (HR7.out.set (i := m + 1) (by omega) a x.p1).next (Below.drewN_of _ 1), by
                    have h := HGO.out.next hm2
                    rw [HLI.out, HLS.out, prAt_eq HXS.out] at h
                    exact h⟩
                  case measure => simp [intOf]; omega
            · have hm2' : ¬ (m : Int) < 2 := by omega
              have hg2 : Got S q kk A X 2 := by
                have h := HGO.out
                rw [show m = 2 by omega] at h
                exact h
              have hhit := hg2.hit HR.out
              have HHT := Lib.hid hhit
              have HXB := Lib.hid fun (j : Nat) (hj : j < 3) => hg2.bd HTP.out (price_small HP0.out) hj
              have HLE2 := Lib.hid fun (c : Nat) wz (h : PV wz p) => legs_any p (A c) wz h
              unfold Prod.agg Prod.cells at HLE2
              have HSZ0 : Hid (Seen p A X false 0 0) := Lib.hid (Seen.zero _ _ _ _)
              clear hhit hg2 HGO hm hm2
              go_wp2_with fail
              go_loopw [17, 18] (fun f j w' => ∃ (fb : Bool) (c : Nat), f = .bool fb ∧ j = .int .i64 c ∧ c ≤ 3 ∧ R3 wz w' ga gb A X ∧ Seen p A X fb c 0) (fun _ j _ => 3 - (intOf j).toNat)
              case atStart => exact ⟨false, 0, rfl, rfl, by omega, HR5.out, HSZ0.out⟩
              case round =>
                clear HR5 HSZ0
                obtain ⟨fb, c, rfl, rfl, hc, hr, hse⟩ := hrel
                obtain ⟨w9, rfl⟩ : ∃ wo : World, wo = wr := ⟨_, rfl⟩
                have HR6 := Lib.hid hr
                have HSE := Lib.hid hse
                clear hr hse
                by_cases hc3 : c < 3
                · have hc3' : (c : Int) < 3 := by omega
                  obtain ⟨l0, l1, lb, hlg⟩ : ∃ l0 l1 lb, legsP p (A c) = (l0, l1, lb) := ⟨_, _, _, rfl⟩
                  have hle := HLE2.out c
                  rw [hlg] at hle
                  have HLC := Lib.hid hle
                  have HLG := Lib.hid hlg
                  clear hlg hle
                  go_upto_region 25 with (fail)
                  have T5 := Lib.hid (T4.out.next HR6.out.bel)
                  have hS0 : (w9.cell? ⟨gp, 0, none⟩ = some (.string p.code) ∧ w9.cell? ⟨gp, 1, none⟩ = some (.slice p.ma p.months.length p.mc) ∧ w9.cell? ⟨gp, 2, none⟩ = some (.int .i64 p.tick) ∧ w9.cell? ⟨gp, 3, none⟩ = some (.int .i64 p.low) ∧ w9.cell? ⟨gp, 4, none⟩ = some (.int .i64 p.high) ∧ w9.cell? ⟨gp, 5, none⟩ = some (.int .i64 p.wide) ∧ w9.cell? ⟨gp, 6, none⟩ = some (.int .i64 p.rule) ∧ w9.cell? ⟨gp, 7, none⟩ = some (.int .i64 p.top) ∧ w9.cell? ⟨gp, 8, none⟩ = some (.int .i64 p.least) ∧ w9.cell? ⟨gp, 9, none⟩ = some (.int .i64 p.part) ∧ w9.cell? ⟨gp, 10, none⟩ = some (.slice p.sa p.settle.length p.sc)) ∧ w9.cell? ⟨ga, c, none⟩ = some (.int .i64 (A c)) := ⟨T5.out.pc, HR6.out.ca hc3⟩
                  refine wp_region_E (S := fun w' => (w'.cell? ⟨gp, 0, none⟩ = some (.string p.code) ∧ w'.cell? ⟨gp, 1, none⟩ = some (.slice p.ma p.months.length p.mc) ∧ w'.cell? ⟨gp, 2, none⟩ = some (.int .i64 p.tick) ∧ w'.cell? ⟨gp, 3, none⟩ = some (.int .i64 p.low) ∧ w'.cell? ⟨gp, 4, none⟩ = some (.int .i64 p.high) ∧ w'.cell? ⟨gp, 5, none⟩ = some (.int .i64 p.wide) ∧ w'.cell? ⟨gp, 6, none⟩ = some (.int .i64 p.rule) ∧ w'.cell? ⟨gp, 7, none⟩ = some (.int .i64 p.top) ∧ w'.cell? ⟨gp, 8, none⟩ = some (.int .i64 p.least) ∧ w'.cell? ⟨gp, 9, none⟩ = some (.int .i64 p.part) ∧ w'.cell? ⟨gp, 10, none⟩ = some (.slice p.sa p.settle.length p.sc)) ∧ w'.cell? ⟨ga, c, none⟩ = some (.int .i64 (A c))) (by kernel_rfl) hS0 (fun hHeld => ?_)
                  refine wpE_take (i := 0) (oi := ?oi10) (v := ?v10) ?hi10 (by kernel_rfl) (by kernel_rfl) (by kernel_rfl) (by kernel_rfl) ?hQ10 ?hy10 (by assumption) ?rest10
                  case hi10 => (simp only [List.getElem?_toArray]; rfl)
                  case hQ10 => exact fun _ _ _ h => h
                  case hy10 => exact Or.inl ⟨by rfl, by (intro w hSw; (try dsimp only at hSw); go_simp; try with_reducible rfl)⟩
                  try simp only [Act.put, List.setIfInBounds_toArray, List.set_cons_zero, List.set_cons_succ]
                  refine wpE_take (i := 1) (oi := ?oi11) (v := ?v11) ?hi11 (by kernel_rfl) (by kernel_rfl) (by kernel_rfl) (by kernel_rfl) ?hQ11 ?hy11 (by assumption) ?rest11
                  case hi11 => (simp only [List.getElem?_toArray]; rfl)
                  case hQ11 => exact fun _ _ _ h => h
                  case hy11 => exact Or.inl ⟨by rfl, by (intro w hSw; (try dsimp only at hSw); go_simp; try with_reducible rfl)⟩
                  try simp only [Act.put, List.setIfInBounds_toArray, List.set_cons_zero, List.set_cons_succ]
                  refine wpE_take (i := 2) (oi := ?oi12) (v := ?v12) ?hi12 (by kernel_rfl) (by kernel_rfl) (by kernel_rfl) (by kernel_rfl) ?hQ12 ?hy12 (by assumption) ?rest12
                  case hi12 => (simp only [List.getElem?_toArray]; rfl)
                  case hQ12 => exact fun _ _ _ h => h
                  case hy12 => exact Or.inl ⟨by rfl, by (intro w hSw; (try dsimp only at hSw); go_simp; try with_reducible rfl)⟩
                  try simp only [Act.put, List.setIfInBounds_toArray, List.set_cons_zero, List.set_cons_succ]
                  refine wpE_take (i := 3) (oi := ?oi13) (v := ?v13) ?hi13 (by kernel_rfl) (by kernel_rfl) (by kernel_rfl) (by kernel_rfl) ?hQ13 ?hy13 (by assumption) ?rest13
                  case hi13 => (simp only [List.getElem?_toArray]; rfl)
                  case hQ13 => exact fun _ _ _ h => h
                  case hy13 => exact Or.inl ⟨by rfl, by (intro w hSw; (try dsimp only at hSw); go_simp; try with_reducible rfl)⟩
                  try simp only [Act.put, List.setIfInBounds_toArray, List.set_cons_zero, List.set_cons_succ]
                  refine wpE_one (i := 4) (o := ?o24) ?ho24 (by kernel_rfl) (fun K hK => ?_)
                  case ho24 => (simp only [List.getElem?_toArray]; rfl)
                  go_simp
                  go_at_call 14
                  refine (HLC.out w9.drew (T5.out.next (Below.drewN_of w9 1)).pv).mono ?_
                  rintro e w10 ⟨rfl, hb⟩
                  have HR7 := Lib.hid (HR6.out.call hb)
                  have T6 := Lib.hid (T4.out.next HR7.out.bel)
                  refine hK.out _ _ ⟨T6.out.pc, HR7.out.ca hc3⟩ (fun hHeld => ?_)
                  clear hK K hb hS0 T5 HLC
                  refine wpE_of_held _ _ _ _ ?_
                  refine wpAnyH_take (i := 5) (oi := ?oi1) (v := ?v1) ?hi1 (by kernel_rfl) (by kernel_rfl) (by kernel_rfl) ?hQ1 ?hy1 (by assumption) ?rest1
                  case hi1 => (simp only [List.getElem?_toArray]; rfl)
                  case hQ1 => exact fun _ _ _ h => h
                  case hy1 => exact Or.inl ⟨by rfl, by (intro w hSw; (try dsimp only at hSw); go_simp; try with_reducible rfl)⟩
                  try simp only [Act.put, List.setIfInBounds_toArray, List.set_cons_zero, List.set_cons_succ]
                  refine wpAnyH_take (i := 6) (oi := ?oi2) (v := ?v2) ?hi2 (by kernel_rfl) (by kernel_rfl) (by kernel_rfl) ?hQ2 ?hy2 (by assumption) ?rest2
                  case hi2 => (simp only [List.getElem?_toArray]; rfl)
                  case hQ2 => exact fun _ _ _ h => h
                  case hy2 => exact Or.inl ⟨by rfl, by (intro w hSw; (try dsimp only at hSw); go_simp; try with_reducible rfl)⟩
                  try simp only [Act.put, List.setIfInBounds_toArray, List.set_cons_zero, List.set_cons_succ]
                  refine wpAnyH_take (i := 7) (oi := ?oi3) (v := ?v3) ?hi3 (by kernel_rfl) (by kernel_rfl) (by kernel_rfl) ?hQ3 ?hy3 (by assumption) ?rest3
                  case hi3 => (simp only [List.getElem?_toArray]; rfl)
                  case hQ3 => exact fun _ _ _ h => h
                  case hy3 => exact Or.inl ⟨by rfl, by (intro w hSw; (try dsimp only at hSw); go_simp; try with_reducible rfl)⟩
                  try simp only [Act.put, List.setIfInBounds_toArray, List.set_cons_zero, List.set_cons_succ]
                  refine wpAnyH_take (i := 8) (oi := ?oi4) (v := ?v4) ?hi4 (by kernel_rfl) (by kernel_rfl) (by kernel_rfl) ?hQ4 ?hy4 (by assumption) ?rest4
                  case hi4 => (simp only [List.getElem?_toArray]; rfl)
                  case hQ4 => exact fun _ _ _ h => h
                  case hy4 => exact Or.inl ⟨by rfl, by (intro w hSw; (try dsimp only at hSw); go_simp; try with_reducible rfl)⟩
                  try simp only [Act.put, List.setIfInBounds_toArray, List.set_cons_zero, List.set_cons_succ]
                  refine wpAnyH_take (i := 9) (oi := ?oi5) (v := ?v5) ?hi5 (by kernel_rfl) (by kernel_rfl) (by kernel_rfl) ?hQ5 ?hy5 (by assumption) ?rest5
                  case hi5 => (simp only [List.getElem?_toArray]; rfl)
                  case hQ5 => exact fun _ _ _ h => h
                  case hy5 => exact Or.inl ⟨by rfl, by (intro w hSw; (try dsimp only at hSw); go_simp; try with_reducible rfl)⟩
                  try simp only [Act.put, List.setIfInBounds_toArray, List.set_cons_zero, List.set_cons_succ]
                  refine wpAnyH_take (i := 10) (oi := ?oi6) (v := ?v6) ?hi6 (by kernel_rfl) (by kernel_rfl) (by kernel_rfl) ?hQ6 ?hy6 (by assumption) ?rest6
                  case hi6 => (simp only [List.getElem?_toArray]; rfl)
                  case hQ6 => exact fun _ _ _ h => h
                  case hy6 => exact Or.inl ⟨by rfl, by (intro w hSw; (try dsimp only at hSw); go_simp; try with_reducible rfl)⟩
                  try simp only [Act.put, List.setIfInBounds_toArray, List.set_cons_zero, List.set_cons_succ]
                  refine wpAnyH_take (i := 11) (oi := ?oi7) (v := ?v7) ?hi7 (by kernel_rfl) (by kernel_rfl) (by kernel_rfl) ?hQ7 ?hy7 (by assumption) ?rest7
                  case hi7 => (simp only [List.getElem?_toArray]; rfl)
                  case hQ7 => exact fun _ _ _ h => h
                  case hy7 => exact Or.inl ⟨by rfl, by (intro w hSw; (try dsimp only at hSw); go_simp; try with_reducible rfl)⟩
                  try simp only [Act.put, List.setIfInBounds_toArray, List.set_cons_zero, List.set_cons_succ]
                  refine wpAnyH_done (by kernel_rfl) ?_ _
                  clear hHeld HR6 T6
                  have HSE0 := Lib.hid HSE.out
                  go_wp2_with fail
                  go_loopw [17, 22] (fun f j w' => ∃ (fb : Bool) (m : Nat), f = .bool fb ∧ j = .int .i64 m ∧ m ≤ 3 ∧ R3 wz w' ga gb A X ∧ Seen p A X fb c m) (fun _ j _ => 3 - (intOf j).toNat)
                  case atStart => exact ⟨fb, 0, rfl, rfl, by omega, HR7.out, HSE0.out⟩
                  case round =>
                    clear HR7 HSE HSE0
                    obtain ⟨fb, m, rfl, rfl, hm, hr, hse⟩ := hrel
                    obtain ⟨w11, rfl⟩ : ∃ wo : World, wo = wr := ⟨_, rfl⟩
                    have HR8 := Lib.hid hr
                    have HSE := Lib.hid hse
                    clear hr hse
                    by_cases hm3 : m < 3
                    · as_aux_lemma =>
                        have hm3' : (m : Int) < 3 := by omega
                        obtain ⟨z, hz⟩ : ∃ z : Int, 3 - (c : Int) - (m : Int) = z := ⟨_, rfl⟩
                        have y1 : IntKind.i64.wrap (3 - (c : Int)) = 3 - (c : Int) := IntWalk.i64_in _ (by omega)
                        have y2 : IntKind.i64.wrap (3 - (c : Int) - (m : Int)) = z := by rw [← hz]; exact IntWalk.i64_in _ (by omega)
                        have HZ := Lib.hid hz
                        clear hz
                        have a1 : w11.cell? ⟨ga, m, none⟩ = some (.int .i64 (A m)) := HR8.out.ca hm3
                        have x1 : w11.cell? ⟨gb, m, none⟩ = some (.int .i64 (X m)) := HR8.out.cb hm3
                        have x3 : w11.cell? ⟨gb, c, none⟩ = some (.int .i64 (X c)) := HR8.out.cb hc3
                        go_upto_region 30 with (fail)
                        clear y1 y2
                        cases lb with
                        | false =>
                        go_quiet (fail)
                        go_wp2_with fail
                        go_roundw
                        case rel => exact ⟨fb, m + 1, rfl, by go_num, by omega, HR8.out.next (Below.drewN_of _ _), HSE.out.no fun o' h1 h2 h3 h4 h5 => by have h6 := HLG.out.symm.trans h5; injection h6 with _ h6; injection h6 with _ h6; cases h6⟩
                        case measure => simp [intOf]; omega
                        | true =>
                        by_cases hmc : m = c
                        · have e1 : ((m : Int) != (c : Int)) = false := by rw [hmc]; simp
                          have e1' : (m != c) = false := by rw [hmc]; simp
                          have HMC := Lib.hid hmc
                          clear hmc
                          go_quiet (fail)
                          go_wp2_with fail
                          go_roundw
                          case rel => exact ⟨fb, m + 1, rfl, by go_num, by omega, HR8.out.next (Below.drewN_of _ _), HSE.out.no fun o' h1 h2 h3 h4 h5 => absurd HMC.out.symm h2⟩
                          case measure => simp [intOf]; omega
                        · obtain ⟨o, ho⟩ : ∃ o : Nat, o = 3 - c - m := ⟨_, rfl⟩
                          have hzo : z = (o : Int) := by have := HZ.out; omega
                          subst hzo
                          have ho3 : o < 3 := by omega
                          have hoc : o ≠ c := by omega
                          have hom : o ≠ m := by omega
                          have HOO := Lib.hid fun (o' : Nat) (h1 : o' < 3) (h3 : o' ≠ c) (h4 : o' ≠ m) => (show o' = o by omega)
                          have e1 : ((m : Int) != (c : Int)) = true := by rw [bne_iff_ne]; omega
                          have e1' : (m != c) = true := by rw [bne_iff_ne]; exact hmc
                          have e3 : ((o : Int) != (c : Int)) = true := by rw [bne_iff_ne]; omega
                          have e3' : (o != c) = true := by rw [bne_iff_ne]; exact hoc
                          have e4 : ((o : Int) != (m : Int)) = true := by rw [bne_iff_ne]; omega
                          have e4' : (o != m) = true := by rw [bne_iff_ne]; exact hom
                          have a2 : w11.cell? ⟨ga, o, none⟩ = some (.int .i64 (A o)) := HR8.out.ca ho3
                          have x2 : w11.cell? ⟨gb, o, none⟩ = some (.int .i64 (X o)) := HR8.out.cb ho3
                          have hb1 := HXB.out m hm3
                          have hb2 := HXB.out o ho3
                          have y5 : IntKind.i64.wrap (X m - X o) = X m - X o := IntWalk.i64_in _ (by omega)
                          have ho3' : (o : Int) < 3 := by omega
                          clear ho hoc hom hmc HZ hb1 hb2
                          by_cases h1 : A m = l0
                          · have e2 : (A m == l0) = true := by rw [beq_iff_eq]; exact h1
                            by_cases h2 : A o = l1
                            · have e5 : (A o == l1) = true := by rw [beq_iff_eq]; exact h2
                              by_cases h3 : X m - X o = X c
                              · have e6 : (X m - X o == X c) = true := by rw [beq_iff_eq]; exact h3
                                clear h1 h2 h3
                                go_quiet (fail)
                                go_wp2_with fail
                                go_roundw
                                case rel => exact ⟨true, m + 1, rfl, by go_num, by omega, HR8.out.next (Below.drewN_of _ _), Seen.yes _ _ _ _ _⟩
                                case measure => simp [intOf]; omega
                              · have e6 : (X m - X o == X c) = false := by rw [beq_eq_false_iff_ne]; exact h3
                                have HNE2 := Lib.hid h3
                                clear h1 h2 h3
                                go_quiet (fail)
                                go_wp2_with fail
                                go_roundw
                                case rel => exact ⟨fb, m + 1, rfl, by go_num, by omega, HR8.out.next (Below.drewN_of _ _), HSE.out.no fun o' h1 h2 h3 h4 h5 => by rw [HOO.out o' h1 h3 h4]; exact HNE2.out⟩
                                case measure => simp [intOf]; omega
                            · have e5 : (A o == l1) = false := by rw [beq_eq_false_iff_ne]; exact h2
                              have HNE2 := Lib.hid h2
                              clear h1 h2
                              go_quiet (fail)
                              go_wp2_with fail
                              go_roundw
                              case rel => exact ⟨fb, m + 1, rfl, by go_num, by omega, HR8.out.next (Below.drewN_of _ _), HSE.out.no fun o' h1 h2 h3 h4 h5 => by
                                have h6 := HLG.out.symm.trans h5
                                rw [HOO.out o' h1 h3 h4] at h6
                                injection h6 with _ h6
                                injection h6 with h6 _
                                exact absurd h6.symm HNE2.out⟩
                              case measure => simp [intOf]; omega
                          · have e2 : (A m == l0) = false := by rw [beq_eq_false_iff_ne]; exact h1
                            have HNE2 := Lib.hid h1
                            clear h1
                            go_quiet (fail)
                            go_wp2_with fail
                            go_roundw
                            case rel => exact ⟨fb, m + 1, rfl, by go_num, by omega, HR8.out.next (Below.drewN_of _ _), HSE.out.no fun o' h1 h2 h3 h4 h5 => by
                              have h6 := HLG.out.symm.trans h5
                              injection h6 with h6 _
                              exact absurd h6.symm HNE2.out⟩
                            case measure => simp [intOf]; omega
                    · obtain rfl : m = 3 := by omega
                      go_wp2_with fail
                      go_roundw
                      case rel => exact ⟨fb, c + 1, rfl, by go_num, by omega, HR8.out, HSE.out.row⟩
                      case measure => simp [intOf]; omega
                · as_aux_lemma =>
                    obtain rfl : c = 3 := by omega
                    have hfb := HSE.out.hit HHT.out
                    subst hfb
                    have HPRI := Lib.hid fun wz (h : PV wz p) => price_any p kk q.price wz h
                    rw [HP0.out] at HPRI
                    unfold Prod.agg Prod.cells at HPRI
                    have T5 := Lib.hid (T4.out.next HR6.out.bel)
                    clear HLE2 HXB HHT HSE
                    go_upto_region 32 with (fail)
                    have hS0 : (w9.cell? ⟨gp, 0, none⟩ = some (.string p.code) ∧ w9.cell? ⟨gp, 1, none⟩ = some (.slice p.ma p.months.length p.mc) ∧ w9.cell? ⟨gp, 2, none⟩ = some (.int .i64 p.tick) ∧ w9.cell? ⟨gp, 3, none⟩ = some (.int .i64 p.low) ∧ w9.cell? ⟨gp, 4, none⟩ = some (.int .i64 p.high) ∧ w9.cell? ⟨gp, 5, none⟩ = some (.int .i64 p.wide) ∧ w9.cell? ⟨gp, 6, none⟩ = some (.int .i64 p.rule) ∧ w9.cell? ⟨gp, 7, none⟩ = some (.int .i64 p.top) ∧ w9.cell? ⟨gp, 8, none⟩ = some (.int .i64 p.least) ∧ w9.cell? ⟨gp, 9, none⟩ = some (.int .i64 p.part) ∧ w9.cell? ⟨gp, 10, none⟩ = some (.slice p.sa p.settle.length p.sc)) ∧ w9.cell? ⟨qb, off + i * 6, none⟩ = some (.int .i64 q.price) := ⟨T5.out.pc, HCQ.out _ HR6.out.bel 0 _ rfl⟩
                    refine wp_region_E (S := fun w' => (w'.cell? ⟨gp, 0, none⟩ = some (.string p.code) ∧ w'.cell? ⟨gp, 1, none⟩ = some (.slice p.ma p.months.length p.mc) ∧ w'.cell? ⟨gp, 2, none⟩ = some (.int .i64 p.tick) ∧ w'.cell? ⟨gp, 3, none⟩ = some (.int .i64 p.low) ∧ w'.cell? ⟨gp, 4, none⟩ = some (.int .i64 p.high) ∧ w'.cell? ⟨gp, 5, none⟩ = some (.int .i64 p.wide) ∧ w'.cell? ⟨gp, 6, none⟩ = some (.int .i64 p.rule) ∧ w'.cell? ⟨gp, 7, none⟩ = some (.int .i64 p.top) ∧ w'.cell? ⟨gp, 8, none⟩ = some (.int .i64 p.least) ∧ w'.cell? ⟨gp, 9, none⟩ = some (.int .i64 p.part) ∧ w'.cell? ⟨gp, 10, none⟩ = some (.slice p.sa p.settle.length p.sc)) ∧ w'.cell? ⟨qb, off + i * 6, none⟩ = some (.int .i64 q.price)) (by kernel_rfl) hS0 (fun hHeld => ?_)
                    refine wpE_take (i := 0) (oi := ?oi14) (v := ?v14) ?hi14 (by kernel_rfl) (by kernel_rfl) (by kernel_rfl) (by kernel_rfl) ?hQ14 ?hy14 (by assumption) ?rest14
                    case hi14 => (simp only [List.getElem?_toArray]; rfl)
                    case hQ14 => exact fun _ _ _ h => h
                    case hy14 => exact Or.inl ⟨by rfl, by (intro w hSw; (try dsimp only at hSw); go_simp; try with_reducible rfl)⟩
                    try simp only [Act.put, List.setIfInBounds_toArray, List.set_cons_zero, List.set_cons_succ]
                    refine wpE_take (i := 1) (oi := ?oi15) (v := ?v15) ?hi15 (by kernel_rfl) (by kernel_rfl) (by kernel_rfl) (by kernel_rfl) ?hQ15 ?hy15 (by assumption) ?rest15
                    case hi15 => (simp only [List.getElem?_toArray]; rfl)
                    case hQ15 => exact fun _ _ _ h => h
                    case hy15 => exact Or.inl ⟨by rfl, by (intro w hSw; (try dsimp only at hSw); go_simp; try with_reducible rfl)⟩
                    try simp only [Act.put, List.setIfInBounds_toArray, List.set_cons_zero, List.set_cons_succ]
                    refine wpE_take (i := 2) (oi := ?oi16) (v := ?v16) ?hi16 (by kernel_rfl) (by kernel_rfl) (by kernel_rfl) (by kernel_rfl) ?hQ16 ?hy16 (by assumption) ?rest16
                    case hi16 => (simp only [List.getElem?_toArray]; rfl)
                    case hQ16 => exact fun _ _ _ h => h
                    case hy16 => exact Or.inl ⟨by rfl, by (intro w hSw; (try dsimp only at hSw); go_simp; try with_reducible rfl)⟩
                    try simp only [Act.put, List.setIfInBounds_toArray, List.set_cons_zero, List.set_cons_succ]
                    refine wpE_take (i := 3) (oi := ?oi17) (v := ?v17) ?hi17 (by kernel_rfl) (by kernel_rfl) (by kernel_rfl) (by kernel_rfl) ?hQ17 ?hy17 (by assumption) ?rest17
                    case hi17 => (simp only [List.getElem?_toArray]; rfl)
                    case hQ17 => exact fun _ _ _ h => h
                    case hy17 => exact Or.inl ⟨by rfl, by (intro w hSw; (try dsimp only at hSw); go_simp; try with_reducible rfl)⟩
                    try simp only [Act.put, List.setIfInBounds_toArray, List.set_cons_zero, List.set_cons_succ]
                    refine wpE_take (i := 4) (oi := ?oi18) (v := ?v18) ?hi18 (by kernel_rfl) (by kernel_rfl) (by kernel_rfl) (by kernel_rfl) ?hQ18 ?hy18 (by assumption) ?rest18
                    case hi18 => (simp only [List.getElem?_toArray]; rfl)
                    case hQ18 => exact fun _ _ _ h => h
                    case hy18 => exact Or.inl ⟨by rfl, by (intro w hSw; (try dsimp only at hSw); go_simp; try with_reducible rfl)⟩
                    try simp only [Act.put, List.setIfInBounds_toArray, List.set_cons_zero, List.set_cons_succ]
                    refine wpE_take (i := 5) (oi := ?oi19) (v := ?v19) ?hi19 (by kernel_rfl) (by kernel_rfl) (by kernel_rfl) (by kernel_rfl) ?hQ19 ?hy19 (by assumption) ?rest19
                    case hi19 => (simp only [List.getElem?_toArray]; rfl)
                    case hQ19 => exact fun _ _ _ h => h
                    case hy19 => exact Or.inl ⟨by rfl, by (intro w hSw; (try dsimp only at hSw); go_simp; try with_reducible rfl)⟩
                    try simp only [Act.put, List.setIfInBounds_toArray, List.set_cons_zero, List.set_cons_succ]
                    refine wpE_take (i := 6) (oi := ?oi20) (v := ?v20) ?hi20 (by kernel_rfl) (by kernel_rfl) (by kernel_rfl) (by kernel_rfl) ?hQ20 ?hy20 (by assumption) ?rest20
                    case hi20 => (simp only [List.getElem?_toArray]; rfl)
                    case hQ20 => exact fun _ _ _ h => h
                    case hy20 => exact Or.inl ⟨by rfl, by (intro w hSw; (try dsimp only at hSw); go_simp; try with_reducible rfl)⟩
                    try simp only [Act.put, List.setIfInBounds_toArray, List.set_cons_zero, List.set_cons_succ]
                    refine wpE_take (i := 7) (oi := ?oi21) (v := ?v21) ?hi21 (by kernel_rfl) (by kernel_rfl) (by kernel_rfl) (by kernel_rfl) ?hQ21 ?hy21 (by assumption) ?rest21
                    case hi21 => (simp only [List.getElem?_toArray]; rfl)
                    case hQ21 => exact fun _ _ _ h => h
                    case hy21 => exact Or.inl ⟨by rfl, by (intro w hSw; (try dsimp only at hSw); go_simp; try with_reducible rfl)⟩
                    try simp only [Act.put, List.setIfInBounds_toArray, List.set_cons_zero, List.set_cons_succ]
                    refine wpE_take (i := 8) (oi := ?oi22) (v := ?v22) ?hi22 (by kernel_rfl) (by kernel_rfl) (by kernel_rfl) (by kernel_rfl) ?hQ22 ?hy22 (by assumption) ?rest22
                    case hi22 => (simp only [List.getElem?_toArray]; rfl)
                    case hQ22 => exact fun _ _ _ h => h
                    case hy22 => exact Or.inl ⟨by rfl, by (intro w hSw; (try dsimp only at hSw); go_simp; try with_reducible rfl)⟩
                    try simp only [Act.put, List.setIfInBounds_toArray, List.set_cons_zero, List.set_cons_succ]
                    refine wpE_take (i := 9) (oi := ?oi23) (v := ?v23) ?hi23 (by kernel_rfl) (by kernel_rfl) (by kernel_rfl) (by kernel_rfl) ?hQ23 ?hy23 (by assumption) ?rest23
                    case hi23 => (simp only [List.getElem?_toArray]; rfl)
                    case hQ23 => exact fun _ _ _ h => h
                    case hy23 => exact Or.inl ⟨by rfl, by (intro w hSw; (try dsimp only at hSw); go_simp; try with_reducible rfl)⟩
                    try simp only [Act.put, List.setIfInBounds_toArray, List.set_cons_zero, List.set_cons_succ]
                    refine wpE_one (i := 10) (o := ?o25) ?ho25 (by kernel_rfl) (fun K hK => ?_)
                    case ho25 => (simp only [List.getElem?_toArray]; rfl)
                    go_simp
                    go_at_call 15
                    refine (HPRI.out w9.drew (T5.out.next (Below.drewN_of w9 1)).pv).mono ?_
                    rintro e w10 ⟨rfl, hb⟩
                    have HR7 := Lib.hid (HR6.out.call hb)
                    have T6 := Lib.hid (T4.out.next HR7.out.bel)
                    refine hK.out _ _ ⟨T6.out.pc, HCQ.out _ HR7.out.bel 0 _ rfl⟩ (fun hHeld => ?_)
                    clear hK K hb hS0 T5 HPRI
                    refine wpE_of_held _ _ _ _ ?_
                    refine wpAnyH_take (i := 11) (oi := ?oi8) (v := ?v8) ?hi8 (by kernel_rfl) (by kernel_rfl) (by kernel_rfl) ?hQ8 ?hy8 (by assumption) ?rest8
                    case hi8 => (simp only [List.getElem?_toArray]; rfl)
                    case hQ8 => exact fun _ _ _ h => h
                    case hy8 => exact Or.inl ⟨by rfl, by (intro w hSw; (try dsimp only at hSw); go_simp; try with_reducible rfl)⟩
                    try simp only [Act.put, List.setIfInBounds_toArray, List.set_cons_zero, List.set_cons_succ]
                    refine wpAnyH_take (i := 12) (oi := ?oi9) (v := ?v9) ?hi9 (by kernel_rfl) (by kernel_rfl) (by kernel_rfl) ?hQ9 ?hy9 (by assumption) ?rest9
                    case hi9 => (simp only [List.getElem?_toArray]; rfl)
                    case hQ9 => exact fun _ _ _ h => h
                    case hy9 => exact Or.inl ⟨by rfl, by (intro w hSw; (try dsimp only at hSw); go_simp; try with_reducible rfl)⟩
                    try simp only [Act.put, List.setIfInBounds_toArray, List.set_cons_zero, List.set_cons_succ]
                    refine wpAnyH_done (by kernel_rfl) ?_ _
                    clear hHeld HR6
                    go_wp2_with fail
                    go_roundw
                    case rel => exact ⟨i + 1, by go_num, by omega, T6.out, HRD.out.below HR7.out.bel⟩
                    case measure => simp [intOf]; omega
        · go_wp2_with fail
          go_roundw
          case rel => exact ⟨sd + 1, rfl, by omega, by omega, T4.out⟩
          case measure => simp [intOf]; omega
    · go_wp2_with fail
      refine (known14_any _).mono ?_
      rintro e w9 ⟨rfl, hb⟩
      have T9 := Lib.hid (T3.out.next hb)
      clear hb T3
      go_wp2_with fail
      go_ret
      exact ⟨by trivial, T9.out.bel⟩
end Go.Proofs.Ytilficlanliinaa
