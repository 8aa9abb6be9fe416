/- Merged: Apply Srch View Foll. -/
import Derived.Test.YtmaijkoopjocdaaGF
import Derived.Test.YtmaijkoopjocdaaGG
/- The walk of feed.Apply. -/
namespace Go.Proofs.Ytmaijkoopjocdaa
open Go.RowKit Go.Lib

/-- feed.Apply of a message that may be -/
theorem apply_any {w : World} {B : Nat} {v : Value} {V : Vw} (h : VO PRL LVL w B v V) (hl : V.length ≤ 255) {K : Nat} (hK : LenV V K) (hK2 : K ≤ 800000) (hsrt : SrtV V) {m : Mg} (hf : Fine V.length m) :
  Calls Try.prog 52 #[.agg #[v], m.agg] w fun e w' => ∃ v', e = .returned (.tuple #[.agg #[v'], .int .i64 0]) ∧ VO PRL LVL w' w.heap.size v' (appV m V) ∧ Below w.heap.size w w' := by
 have hf0 : fineC V.length m = 0 := fineC_iff.2 (fine_iff.2 hf)
 obtain ⟨f1, f2, f3, f4, f5, f6⟩ := hf
 obtain ⟨q, ii, sd, p, t, c, im⟩ := m
 dsimp only at *
 obtain ⟨i, rfl⟩ : ∃ i : Nat, ii = i := ⟨ii.toNat, by omega⟩
 obtain ⟨s, hs, rfl⟩ : ∃ s : Nat, s < 2 ∧ sd = (s : Int) + 1 := by
  rcases f3 with rfl | rfl
  ·exact ⟨0, by decide, rfl⟩
  ·exact ⟨1, by decide, rfl⟩
 have hi : i < V.length := by omega
 obtain ⟨x, hx⟩ : ∃ x, V[i]? = some x := ⟨_, List.getElem?_eq_getElem hi⟩
 have hsx : Srt ((s : Int) + 1) (sdOf x s).lv := by
  have := hsrt x (List.mem_of_getElem? hx)
  rcases (show s = 0 ∨ s = 1 by omega) with rfl | rfl
  ·exact this.1
  ·exact this.2
 unfold Mg.agg
 cases im with
 | true => exact apply_imp h hl hK hK2 hi hs hf0
 | false =>
  cases hc : (sdOf x s).lv.findIdx? (fun y => y.price == p) with
  | some k =>
   by_cases ht : t = 0
   ·subst ht; exact apply_del h hl hK hK2 hi hs hf0 hx hsx hc
   ·exact apply_set h hl hK hK2 hi hs hf0 hx hsx hc ht
  | none =>
   by_cases ht : 0 < t
   ·cases hb : (sdOf x s).lv.findIdx? (fun y => betterP ((s : Int) + 1) p y.price) with
    | some k => exact apply_ins h hl hK hK2 hi hs hf0 hx hsx hc hb ht
    | none => exact apply_end h hl hK hK2 hi hs hf0 hx hsx hc hb ht
   ·exact apply_no h hl hK hK2 hi hs hf0 hx hsx hc ht
end Go.Proofs.Ytmaijkoopjocdaa

/- The walk of slices.BinarySearchFunc at messages. -/
namespace Go.Proofs.Ytmaijkoopjocdaa
open Go.RowKit Go.Lib

def cmpV (x q : Int) : Int := if x < q then -1 else if q < x then 1 else 0
set_option maxHeartbeats 2000000 in
theorem cmp_any (m : Mg) (q : Int) (w : World) :
  Calls Try.prog 23 #[m.agg, .int .i64 q] w fun e w' => e = .returned (.int .i64 (cmpV m.seq q)) ∧ Below w.heap.size w w' := by
 unfold Mg.agg
 have HV : Hid (cmpV m.seq q = if m.seq < q then -1 else if q < m.seq then 1 else 0) := Lib.hid rfl
 rw [HV.out]
 have HB := Lib.hid (Below.allocN w (.cells #[.int .i64 m.seq, .int .i64 m.inst, .int .i64 m.side, .int .i64 m.price, .int .i64 m.qty, .int .i64 m.count, .bool m.imp] 34))
 clear HV
 by_cases h1 : m.seq < q
 ·rw [if_pos h1]
  go_enter Try.func23, Try.ntmps23
  go_wp2_with fail
  go_ret
  exact ⟨by trivial, HB.out⟩
 ·rw [if_neg h1]
  by_cases h2 : q < m.seq
  ·rw [if_pos h2]
   go_enter Try.func23, Try.ntmps23
   go_wp2_with fail
   go_ret
   exact ⟨by trivial, HB.out⟩
  ·rw [if_neg h2]
   go_enter Try.func23, Try.ntmps23
   go_wp2_with fail
   go_ret
   exact ⟨by trivial, HB.out⟩
def posQ (q : Int) (H : List Mg) : Nat := (H.takeWhile (fun x => decide (x.seq < q))).length
theorem posQ_le (q : Int) (H : List Mg) : posQ q H ≤ H.length := by
 unfold posQ
 exact (List.takeWhile_prefix _).length_le
theorem posQ_eq {q : Int} : ∀ {H : List Mg} {a : Nat}, a ≤ H.length → (∀ (k : Nat) (x : Mg), k < a → H[k]? = some x → x.seq < q) → (∀ (k : Nat) (x : Mg), a ≤ k → H[k]? = some x → q ≤ x.seq) → posQ q H = a
 | [], a, ha, _, _ => by
  have : a = 0 := by simpa using ha
  subst this; rfl
 | y :: t, 0, _, _, h2 => by
  have := h2 0 y (Nat.le_refl 0) rfl
  unfold posQ
  rw [List.takeWhile_cons, if_neg (by simp; omega)]; rfl
 | y :: t, a + 1, ha, h1, h2 => by
  have h0 := h1 0 y (by omega) rfl
  have ih := posQ_eq (H := t) (a := a) (by simpa using ha) (fun k x hk hx => h1 (k + 1) x (by omega) hx) (fun k x hk hx => h2 (k + 1) x (by omega) hx)
  unfold posQ at *
  rw [List.takeWhile_cons, if_pos (by simpa using h0), List.length_cons, ih]
theorem insM_pos (m : Mg) (H : List Mg) : insM m H = H.take (posQ m.seq H) ++ [m] ++ H.drop (posQ m.seq H) := by
 unfold insM posQ
 have h1 : H.take (H.takeWhile (fun x => decide (x.seq < m.seq))).length = H.takeWhile (fun x => decide (x.seq < m.seq)) := by
  conv => lhs; rw [show H = H.takeWhile (fun x => decide (x.seq < m.seq)) ++ H.dropWhile (fun x => decide (x.seq < m.seq)) from List.takeWhile_append_dropWhile.symm]
  rw [List.takeWhile_append_dropWhile]
  exact List.prefix_iff_eq_take.1 (List.takeWhile_prefix _) |>.symm
 have h2 : H.drop (H.takeWhile (fun x => decide (x.seq < m.seq))).length = H.dropWhile (fun x => decide (x.seq < m.seq)) := by
  have e := List.takeWhile_append_dropWhile (p := fun x : Mg => decide (x.seq < m.seq)) (l := H)
  have e2 := List.take_append_drop (H.takeWhile (fun x => decide (x.seq < m.seq))).length H
  rw [h1] at e2
  exact List.append_cancel_left (e2.trans e.symm)
 rw [h1, h2]
 simp
theorem has_pos {q : Int} {H : List Mg} {a : Nat} (ha : Asc H) (h1 : ∀ (k : Nat) (x : Mg), k < a → H[k]? = some x → x.seq < q) (h2 : ∀ (k : Nat) (x : Mg), a ≤ k → H[k]? = some x → q ≤ x.seq) :
  hasQ q H = match H[a]? with | some x => decide (x.seq = q) | none => false := by
 cases hx : H[a]? with
 | none =>
  dsimp only
  unfold hasQ
  rw [List.any_eq_false]
  intro y hy
  obtain ⟨j, hj⟩ := List.mem_iff_getElem?.1 hy
  have hjl := lt_of_get hj
  have hal : H.length ≤ a := by
   rcases Nat.lt_or_ge a H.length with h | h
   ·rw [List.getElem?_eq_getElem h] at hx; cases hx
   ·exact h
  have := h1 j y (by omega) hj
  simp; omega
 | some x =>
  dsimp only
  by_cases he : x.seq = q
  ·rw [decide_eq_true he]
   unfold hasQ
   rw [List.any_eq_true]
   exact ⟨x, List.mem_of_getElem? hx, by simpa using he⟩
  ·rw [decide_eq_false he]
   unfold hasQ
   rw [List.any_eq_false]
   intro y hy
   obtain ⟨j, hj⟩ := List.mem_iff_getElem?.1 hy
   have hxq := h2 a x (Nat.le_refl _) hx
   rcases Nat.lt_trichotomy j a with h | h | h
   ·have := h1 j y h hj; simp; omega
   ·subst h; rw [hx] at hj; injection hj with hj; rw [← hj]; simpa using he
   ·have := List.pairwise_iff_getElem.1 ha a j (lt_of_get hx) (lt_of_get hj) h
    obtain ⟨_, e1⟩ := get_of hx
    obtain ⟨_, e2⟩ := get_of hj
    rw [e1, e2] at this
    simp; omega
set_option maxRecDepth 20000 in
set_option maxHeartbeats 8000000 in
theorem search_any {w : World} {v : Value} {H : List Mg} (h : MSG.Sl w v H) (ha : Asc H) (hl : H.length ≤ 900000) (q : Int) :
  Calls Try.prog 22 #[v, .int .i64 q, .func (Fn.func 23) #[] #[]] w fun e w' => e = .returned (.tuple #[.int .i64 (posQ q H), .bool (hasQ q H)]) ∧ Below w.heap.size w w' := by
 have HS := Lib.hid h
 have HA := Lib.hid ha
 obtain ⟨a0, c0, rfl, _, _⟩ := h
 clear ha
 go_enter Try.func22, Try.ntmps22
 go_wp2_with fail
 go_loopw [9, 10] (fun i j w' => ∃ a b : Nat, i = .int .i64 a ∧ j = .int .i64 b ∧ a ≤ b ∧ b ≤ H.length ∧ (∀ (k : Nat) (x : Mg), k < a → H[k]? = some x → x.seq < q) ∧ (∀ (k : Nat) (x : Mg), b ≤ k → H[k]? = some x → q ≤ x.seq) ∧ Below w.heap.size w w') (fun i j _ => (RowKit.intOf j).toNat - (RowKit.intOf i).toNat)
 case atStart => exact ⟨0, H.length, rfl, rfl, Nat.zero_le _, Nat.le_refl _, fun k x hk => absurd hk (by omega), fun k x hk hx => by have := lt_of_get hx; omega, Below.refl _ _⟩
 case round =>
  obtain ⟨a, b, rfl, rfl, hab, hbl, h1, h2, hb⟩ := hrel
  obtain ⟨wz, rfl⟩ : ∃ wo : World, wo = wr := ⟨_, rfl⟩
  have H1 := Lib.hid h1
  have H2 := Lib.hid h2
  have HB := Lib.hid hb
  have hsl := HS.out.below hb
  clear h1 h2 hb
  by_cases hlt : a < b
  ·have hlt' : (a : Int) < (b : Int) := by omega
   obtain ⟨m, hm⟩ : ∃ m, (a + b) / 2 = m := ⟨_, rfl⟩
   have hma : a ≤ m := by omega
   have hmb : m < b := by omega
   have y1 : IntKind.i64.wrap ((a : Int) + (b : Int)) = (a : Int) + (b : Int) := IntWalk.i64_in _ (by omega)
   have y2 : IntKind.u64.wrap ((a : Int) + (b : Int)) = (a : Int) + (b : Int) := u64_wrap_id _ (by omega) (by omega)
   have y2b : ((a : Int) + (b : Int)) % 18446744073709551616 = (a : Int) + (b : Int) := by omega
   have y3 : ((a : Int) + (b : Int)).fdiv 2 = (m : Int) := by rw [Int.fdiv_eq_ediv_of_nonneg _ (by decide)]; omega
   have y3b : ((a : Int) + (b : Int)) / 2 = (m : Int) := by omega
   have y4 : IntKind.i64.wrap (m : Int) = (m : Int) := IntWalk.i64_in _ (by omega)
   have y5 : IntKind.i64.wrap ((m : Int) + 1) = (m : Int) + 1 := IntWalk.i64_in _ (by omega)
   have hml : (m : Int) < (H.length : Int) := by omega
   obtain ⟨x, hx⟩ : ∃ x, H[m]? = some x := ⟨_, List.getElem?_eq_getElem (by omega)⟩
   obtain ⟨g, off, c', he, _, hcs⟩ := hsl.get hx
   injection he with he _ he3
   subst he
   subst he3
   have c0 : wz.cell? ⟨g, off + m * 7, none⟩ = some (.int .i64 x.seq) := hcs 0 _ rfl
   have c1 : wz.cell? ⟨g, off + m * 7 + 1, none⟩ = some (.int .i64 x.inst) := hcs 1 _ rfl
   have c2 : wz.cell? ⟨g, off + m * 7 + 2, none⟩ = some (.int .i64 x.side) := hcs 2 _ rfl
   have c3 : wz.cell? ⟨g, off + m * 7 + 3, none⟩ = some (.int .i64 x.price) := hcs 3 _ rfl
   have c4 : wz.cell? ⟨g, off + m * 7 + 4, none⟩ = some (.int .i64 x.qty) := hcs 4 _ rfl
   have c5 : wz.cell? ⟨g, off + m * 7 + 5, none⟩ = some (.int .i64 x.count) := hcs 5 _ rfl
   have c6 : wz.cell? ⟨g, off + m * 7 + 6, none⟩ = some (.bool x.imp) := hcs 6 _ rfl
   have hcm := cmp_any x q wz
   unfold Mg.agg at hcm
   have HCM := Lib.hid hcm
   have HX := Lib.hid hx
   have HM := Lib.hid hm
   clear hcs hx hcm hsl hm
   go_wp2_with fail
   refine HCM.out.mono ?_
   rintro e w1 ⟨rfl, hb1⟩
   have HB1 := Lib.hid (HB.out.trans (hb1.mono HB.out.size))
   clear hb1 HCM c0 c1 c2 c3 c4 c5 c6 y1 y2 y2b y3 y3b
   have hasc := List.pairwise_iff_getElem.1 HA.out
   by_cases hc : x.seq < q
   ·have hv : cmpV x.seq q = -1 := if_pos hc
    rw [hv]
    have HN : Hid (∀ (k : Nat) (y : Mg), k < m + 1 → H[k]? = some y → y.seq < q) := Lib.hid (by
     intro k y hk hy
     rcases Nat.lt_or_ge k m with h | h
     ·have h3 := hasc k m (lt_of_get hy) (lt_of_get HX.out) h
      obtain ⟨_, e1⟩ := get_of hy
      obtain ⟨_, e2⟩ := get_of HX.out
      rw [e1, e2] at h3; omega
     ·have : k = m := by omega
      subst this
      have h3 := HX.out; rw [hy] at h3; injection h3 with h3; rw [h3]; exact hc)
    clear hasc hc hv
    go_wp2_with fail
    go_roundw
    case rel => exact ⟨m + 1, b, by go_num, rfl, by omega, hbl, HN.out, H2.out, HB1.out⟩
    case measure => simp [RowKit.intOf]; omega
   ·have hv : ¬ cmpV x.seq q < 0 := by unfold cmpV; rw [if_neg hc]; split <;> omega
    have HN : Hid (∀ (k : Nat) (y : Mg), m ≤ k → H[k]? = some y → q ≤ y.seq) := Lib.hid (by
     intro k y hk hy
     rcases Nat.lt_or_ge m k with h | h
     ·have h3 := hasc m k (lt_of_get HX.out) (lt_of_get hy) h
      obtain ⟨_, e1⟩ := get_of hy
      obtain ⟨_, e2⟩ := get_of HX.out
      rw [e1, e2] at h3; omega
     ·have : k = m := by omega
      subst this
      have h3 := HX.out; rw [hy] at h3; injection h3 with h3; rw [h3]; omega)
    clear hasc hc
    go_wp2_with fail
    go_roundw
    case rel => exact ⟨a, m, rfl, rfl, by omega, by omega, H1.out, HN.out, HB1.out⟩
    case measure => simp [RowKit.intOf]; omega
  ·have hba : b = a := by omega
   subst hba
   have hpos := posQ_eq (by omega) H1.out H2.out
   have hhas := has_pos HA.out H1.out H2.out
   have HPOS := Lib.hid hpos
   have HHAS := Lib.hid hhas
   clear hpos hhas
   by_cases hal : b < H.length
   ·have hal' : (b : Int) < (H.length : Int) := by omega
    obtain ⟨x, hx⟩ : ∃ x, H[b]? = some x := ⟨_, List.getElem?_eq_getElem hal⟩
    obtain ⟨g, off, c', he, _, hcs⟩ := hsl.get hx
    injection he with he _ he3
    subst he
    subst he3
    have c0 : wz.cell? ⟨g, off + b * 7, none⟩ = some (.int .i64 x.seq) := hcs 0 _ rfl
    have c1 : wz.cell? ⟨g, off + b * 7 + 1, none⟩ = some (.int .i64 x.inst) := hcs 1 _ rfl
    have c2 : wz.cell? ⟨g, off + b * 7 + 2, none⟩ = some (.int .i64 x.side) := hcs 2 _ rfl
    have c3 : wz.cell? ⟨g, off + b * 7 + 3, none⟩ = some (.int .i64 x.price) := hcs 3 _ rfl
    have c4 : wz.cell? ⟨g, off + b * 7 + 4, none⟩ = some (.int .i64 x.qty) := hcs 4 _ rfl
    have c5 : wz.cell? ⟨g, off + b * 7 + 5, none⟩ = some (.int .i64 x.count) := hcs 5 _ rfl
    have c6 : wz.cell? ⟨g, off + b * 7 + 6, none⟩ = some (.bool x.imp) := hcs 6 _ rfl
    have hcm := cmp_any x q wz
    unfold Mg.agg at hcm
    have HCM := Lib.hid hcm
    have hq := H2.out b x (Nat.le_refl _) hx
    have hv : (cmpV x.seq q == 0) = decide (x.seq = q) := by
     unfold cmpV
     rw [if_neg (by omega)]
     by_cases he : x.seq = q
     ·rw [if_neg (by omega), decide_eq_true he]; rfl
     ·rw [if_pos (by omega), decide_eq_false he]; rfl
    have HV : Hid (hasQ q H = decide (x.seq = q)) := Lib.hid (by rw [HHAS.out, hx])
    clear hcs hx hcm hsl HHAS hq
    go_wp2_with fail
    refine HCM.out.mono ?_
    rintro e w1 ⟨rfl, hb1⟩
    have HB1 := Lib.hid (HB.out.trans (hb1.mono HB.out.size))
    clear hb1 HCM c0 c1 c2 c3 c4 c5 c6
    go_wp2_with fail
    go_ret2
    exact ⟨by rw [HPOS.out, HV.out]; try rfl, HB1.out⟩
   ·have hal' : ¬ (b : Int) < (H.length : Int) := by omega
    have HV : Hid (hasQ q H = false) := Lib.hid (by rw [HHAS.out, List.getElem?_eq_none (by omega)])
    clear hsl HHAS
    go_wp2_with fail
    go_ret2
    exact ⟨by rw [HPOS.out, HV.out]; try rfl, HB.out⟩
end Go.Proofs.Ytmaijkoopjocdaa

/- How a listener lies; the walk of viewer.Viewer's apply. -/
namespace Go.Proofs.Ytmaijkoopjocdaa
open Go.RowKit Go.Lib

structure VW (W w : World) (pv n : Nat) (hv : Value) (s : LSt) : Prop where
 box : ∃ (a : Option Addr) (c : Nat), Blk w pv 53 #[.int .i64 n, .slice a s.V.length c, .int .i64 s.seq, hv] ∧ VO PRL LVL w W.heap.size (.slice a s.V.length c) s.V
 held : MSG.Row w W.heap.size hv s.H
 base : W.heap.size ≤ pv
 bel : Below W.heap.size W w
/-- what a listener's calls may turn -/
def FV (pv : Nat) (hv : Value) (g : Nat) : Prop := g = pv ∨ hv.ownBlock = some g
section
variable {W w w' : World} {pv n : Nat} {hv : Value} {s : LSt}
theorem VW.keep {F : Nat → Prop} (h : VW W w pv n hv s) (hk : Keeps F w w') (hp : ¬ F pv) (hh : ∀ g, hv.ownBlock = some g → ¬ F g) (hy : ∀ g, Tyd w g PRL.t → ¬ F g) (hz : ∀ g, Tyd w g LVL.t → ¬ F g) (hF : ∀ g, F g → W.heap.size ≤ g) : VW W w' pv n hv s := by
 obtain ⟨⟨a, c, h1, h2⟩, h3, h4, h5⟩ := h
 exact ⟨⟨a, c, h1.keeps hk hp, h2.keep hk hy hz⟩, h3.keep' hk hh, h4, h5.trans (hk.below hF h5.size)⟩
theorem VW.below (h : VW W w pv n hv s) (hb : Below w.heap.size w w') : VW W w' pv n hv s :=
 h.keep (F := fun _ => False) (Below.keeps hb) (fun x => x) (fun _ _ x => x) (fun _ _ x => x) (fun _ _ x => x) (fun _ x => x.elim)
/-- a new held row, a new view, a new number -/
theorem VW.seq_ (h : VW W w pv n hv s) (q : Int) : VW W (w.setCell ⟨pv, 2, none⟩ (.int .i64 q)) pv n hv ⟨s.V, q, s.H⟩ := by
 obtain ⟨⟨a, c, h1, h2⟩, h3, h4, h5⟩ := h
 have hk := keep1 w pv 2 (.int .i64 q)
 have hb := h1.set_ 2 (.int .i64 q)
 simp only [List.setIfInBounds_toArray, List.set_cons_zero, List.set_cons_succ] at hb
 exact ⟨⟨a, c, hb, h2.keep hk (fun g hg e => hg.ne h1.tyd (by decide) e) (fun g hg e => hg.ne h1.tyd (by decide) e)⟩, h3.keep hk (fun g hg e => hg.ne h1.tyd (by decide) e), h4, h5.setCell (p := ⟨pv, 2, none⟩) h4 _⟩
theorem VW.view_ {V : Vw} {a : Option Addr} {c : Nat} (h : VW W w pv n hv s) (hv2 : VO PRL LVL w W.heap.size (.slice a V.length c) V) : VW W (w.setCell ⟨pv, 1, none⟩ (.slice a V.length c)) pv n hv ⟨V, s.seq, s.H⟩ := by
 obtain ⟨⟨a0, c0, h1, h2⟩, h3, h4, h5⟩ := h
 have hk := keep1 w pv 1 (.slice a V.length c)
 have hb := h1.set_ 1 (.slice a V.length c)
 simp only [List.setIfInBounds_toArray, List.set_cons_zero, List.set_cons_succ] at hb
 exact ⟨⟨a, c, hb, hv2.keep hk (fun g hg e => hg.ne h1.tyd (by decide) e) (fun g hg e => hg.ne h1.tyd (by decide) e)⟩, h3.keep hk (fun g hg e => hg.ne h1.tyd (by decide) e), h4, h5.setCell (p := ⟨pv, 1, none⟩) h4 _⟩
theorem VW.held_ {H : List Mg} {hv' : Value} (h : VW W w pv n hv s) (hr : MSG.Row w W.heap.size hv' H) : VW W (w.setCell ⟨pv, 3, none⟩ hv') pv n hv' ⟨s.V, s.seq, H⟩ := by
 obtain ⟨⟨a, c, h1, h2⟩, h3, h4, h5⟩ := h
 have hk := keep1 w pv 3 hv'
 have hb := h1.set_ 3 hv'
 simp only [List.setIfInBounds_toArray, List.set_cons_zero, List.set_cons_succ] at hb
 exact ⟨⟨a, c, hb, h2.keep hk (fun g hg e => hg.ne h1.tyd (by decide) e) (fun g hg e => hg.ne h1.tyd (by decide) e)⟩, hr.keep hk (fun g hg e => hg.ne h1.tyd (by decide) e), h4, h5.setCell (p := ⟨pv, 3, none⟩) h4 _⟩
theorem VW.ins_ {H : List Mg} {hv' : Value} (h : VW W w pv n hv s) (hk : Keeps (fun g => hv.ownBlock = some g) w w') (hr : MSG.Row w' W.heap.size hv' H) : VW W (w'.setCell ⟨pv, 3, none⟩ hv') pv n hv' ⟨s.V, s.seq, H⟩ := by
 obtain ⟨⟨a, c, h1, h2⟩, h3, h4, h5⟩ := h
 have ht : ∀ g, hv.ownBlock = some g → Tyd w g MSG.t := own_tyd h3
 have hb1 := h1.keeps hk (fun e => (ht pv e).ne h1.tyd (by decide) rfl)
 have hv1 := h2.keep hk (fun g hg e => hg.ne (ht g e) (by decide) rfl) (fun g hg e => hg.ne (ht g e) (by decide) rfl)
 have hk3 := keep1 w' pv 3 hv'
 have hb := hb1.set_ 3 hv'
 simp only [List.setIfInBounds_toArray, List.set_cons_zero, List.set_cons_succ] at hb
 exact ⟨⟨a, c, hb, hv1.keep hk3 (fun g hg e => hg.ne hb1.tyd (by decide) e) (fun g hg e => hg.ne hb1.tyd (by decide) e)⟩, hr.keep hk3 (fun g hg e => hg.ne hb1.tyd (by decide) e), h4, (h5.trans (hk.below (own_base h3) h5.size)).setCell (p := ⟨pv, 3, none⟩) h4 _⟩
set_option maxRecDepth 20000 in
set_option maxHeartbeats 8000000 in
theorem vapply_any (h : VW W w pv n hv s) (hl : s.V.length ≤ 255) {K : Nat} (hK : LenV s.V K) (hK2 : K ≤ 800000) (hsrt : SrtV s.V) {m : Mg} (hf : Fine s.V.length m) :
  Calls Try.prog 24 #[.pointer (some ⟨pv, 0, none⟩), m.agg] w fun e w' => e = .returned (.tuple #[]) ∧ VW W w' pv n hv ⟨appV m s.V, m.seq, s.H⟩ ∧ Keeps (fun g => g = pv) w w' := by
 have hba := Below.allocN w (.cells m.cells.toArray 34)
 have hgm : Blk (w.alloc (.cells m.cells.toArray 34)) w.heap.size 34 m.cells.toArray := Blk.new _ _ _
 have HBA := Lib.hid hba
 have H1 := Lib.hid (h.below hba)
 have HGM := Lib.hid hgm
 obtain ⟨⟨a, c, hb, hvo⟩, _, _, _⟩ := h.below hba
 have HAP := Lib.hid (apply_any (hvo.below (Below.drewN_of _ 1)) hl hK hK2 hsrt hf)
 have HVL : Hid ((appV m s.V).length = s.V.length) := Lib.hid (appV_len m s.V)
 have c1 := hb.cell 1
 have HB := Lib.hid hb
 have hbse := h.bel
 have HW := Lib.hid h.base
 have HBE := Lib.hid h.bel
 clear hba hgm hb hvo h hf hsrt hK hbse
 unfold Mg.cells at HBA H1 HGM HAP HB c1
 unfold Mg.agg at HAP ⊢
 go_enter Try.func24, Try.ntmps24
 go_upto_region 1 with (fail)
 obtain ⟨gm, hgm⟩ : ∃ gm, w.heap.size = gm := ⟨_, rfl⟩
 have HGE := Lib.hid (Nat.le_of_eq hgm)
 rw [hgm] at HGM ⊢
 obtain ⟨w1, hw1⟩ : ∃ w1, w.alloc (.cells #[.int .i64 m.seq, .int .i64 m.inst, .int .i64 m.side, .int .i64 m.price, .int .i64 m.qty, .int .i64 m.count, .bool m.imp] 34) = w1 := ⟨_, rfl⟩
 rw [hw1] at HBA H1 HGM HAP HB c1 ⊢
 clear hgm hw1
 go_cut [12] (fun _ wx => VW W wx pv n hv ⟨appV m s.V, s.seq, s.H⟩ ∧ Blk wx gm 34 #[.int .i64 m.seq, .int .i64 m.inst, .int .i64 m.side, .int .i64 m.price, .int .i64 m.qty, .int .i64 m.count, .bool m.imp] ∧ Keeps (fun g => g = pv) w wx)
 case first =>
  have m0 : w1.cell? ⟨gm, 0, none⟩ = some (.int .i64 m.seq) := HGM.out.cell 0
  have m1 : w1.cell? ⟨gm, 1, none⟩ = some (.int .i64 m.inst) := HGM.out.cell 1
  have m2 : w1.cell? ⟨gm, 2, none⟩ = some (.int .i64 m.side) := HGM.out.cell 2
  have m3 : w1.cell? ⟨gm, 3, none⟩ = some (.int .i64 m.price) := HGM.out.cell 3
  have m4 : w1.cell? ⟨gm, 4, none⟩ = some (.int .i64 m.qty) := HGM.out.cell 4
  have m5 : w1.cell? ⟨gm, 5, none⟩ = some (.int .i64 m.count) := HGM.out.cell 5
  have m6 : w1.cell? ⟨gm, 6, none⟩ = some (.bool m.imp) := HGM.out.cell 6
  have b1 : w1.cell? ⟨pv, 1, none⟩ = some (.slice a s.V.length c) := c1
  have HFIN : Hid (∀ (w2 : World) (a2 : Option Addr) (c2 : Nat), VO PRL LVL w2 w1.heap.size (.slice a2 (appV m s.V).length c2) (appV m s.V) → Below w1.heap.size w1 w2 → VW W (w2.setCell ⟨pv, 1, none⟩ (.slice a2 (appV m s.V).length c2)) pv n hv ⟨appV m s.V, s.seq, s.H⟩ ∧ Blk (w2.setCell ⟨pv, 1, none⟩ (.slice a2 (appV m s.V).length c2)) gm 34 #[.int .i64 m.seq, .int .i64 m.inst, .int .i64 m.side, .int .i64 m.price, .int .i64 m.qty, .int .i64 m.count, .bool m.imp] ∧ Keeps (fun g => g = pv) w (w2.setCell ⟨pv, 1, none⟩ (.slice a2 (appV m s.V).length c2)) ∧ w2.cell? ⟨pv, 1, none⟩ = some (.slice a s.V.length c) ∧ w2.frozen? ⟨pv, 1, none⟩ = false) := Lib.hid (by
   intro w2 a2 c2 hvo hb
   have hb2 := HB.out.below hb
   refine ⟨(H1.out.below hb).view_ (hvo.base H1.out.bel.size), (HGM.out.below hb).far (p := ⟨pv, 1, none⟩) ((HGM.out.below hb).tyd.ne hb2.tyd (by decide)) _, ((Below.keeps (HBA.out.trans (hb.mono HBA.out.size))).trans (keep1 w2 pv 1 _)), hb2.cell 1, hb2.frozen 1⟩)
  refine wp_region_E (S := fun _ => True) (by kernel_rfl) True.intro (fun hHeld => ?_)
  refine wpE_tk 0 (oi := ?o4) (v := ?v4) ?h4 (by kernel_rfl) ?q4 ?y4 (by assumption) ?_
  case h4 => (simp only [List.getElem?_toArray]; rfl)
  case q4 => exact fun _ _ _ h => h
  case y4 => exact Or.inl ⟨by rfl, by (intro w hSw; (try dsimp only at hSw); go_simp; try with_reducible rfl)⟩
  try simp only [Act.put, sA, sB, sC]
  refine wpE_tk 1 (oi := ?o5) (v := ?v5) ?h5 (by kernel_rfl) ?q5 ?y5 (by assumption) ?_
  case h5 => (simp only [List.getElem?_toArray]; rfl)
  case q5 => exact fun _ _ _ h => h
  case y5 => exact Or.inl ⟨by rfl, by (intro w hSw; (try dsimp only at hSw); go_simp; try with_reducible rfl)⟩
  try simp only [Act.put, sA, sB, sC]
  refine wpE_tk 2 (oi := ?o6) (v := ?v6) ?h6 (by kernel_rfl) ?q6 ?y6 (by assumption) ?_
  case h6 => (simp only [List.getElem?_toArray]; rfl)
  case q6 => exact fun _ _ _ h => h
  case y6 => exact Or.inl ⟨by rfl, by (intro w hSw; (try dsimp only at hSw); go_simp; try with_reducible rfl)⟩
  try simp only [Act.put, sA, sB, sC]
  refine wpE_tk 3 (oi := ?o7) (v := ?v7) ?h7 (by kernel_rfl) ?q7 ?y7 (by assumption) ?_
  case h7 => (simp only [List.getElem?_toArray]; rfl)
  case q7 => exact fun _ _ _ h => h
  case y7 => exact Or.inl ⟨by rfl, by (intro w hSw; (try dsimp only at hSw); go_simp; try with_reducible rfl)⟩
  try simp only [Act.put, sA, sB, sC]
  refine wpE_two (i := 4) (j := 5) (oi := ?oa1) (oj := ?ob1) ?ha1 ?hb1 (by kernel_rfl) (fun K hK => ?_) (fun K hK => ?_)
  case ha1 => (simp only [List.getElem?_toArray]; rfl)
  case hb1 => (simp only [List.getElem?_toArray]; rfl)
  ·go_simp
   refine hK.out _ _ True.intro (fun hHeld => ?_)
   clear hK K
   refine wpE_one (i := 5) (o := ?o16) ?ho16 (by kernel_rfl) (fun K hK => ?_)
   case ho16 => (simp only [List.getElem?_toArray]; rfl)
   go_simp
   refine hK.out _ _ True.intro (fun hHeld => ?_)
   clear hK K
   refine wpE_one (i := 6) (o := ?o17) ?ho17 (by kernel_rfl) (fun K hK => ?_)
   case ho17 => (simp only [List.getElem?_toArray]; rfl)
   go_simp
   refine HAP.out.mono ?_
   rintro e w2 ⟨v', rfl, hvo, hb⟩
   obtain ⟨a2, c2, rfl⟩ := hvo.form
   have hb2 : Below w1.heap.size w1 w2 := (Below.drewN_of w1 1).trans hb
   obtain ⟨hf1, hf2, hf3, k1, kz⟩ := HFIN.out w2 a2 c2 hvo hb2
   have F1 := Lib.hid hf1
   have F2 := Lib.hid hf2
   have F3 := Lib.hid hf3
   refine hK.out _ _ True.intro (fun hHeld => ?_)
   clear hK K hvo hb hb2 hf1 hf2 hf3 HAP
   refine wpE_tk 7 (oi := ?o8) (v := ?v8) ?h8 (by kernel_rfl) ?q8 ?y8 (by assumption) ?_
   case h8 => (simp only [List.getElem?_toArray]; rfl)
   case q8 => exact fun _ _ _ h => h
   case y8 => exact Or.inl ⟨by rfl, by (intro w hSw; (try dsimp only at hSw); go_simp; try with_reducible rfl)⟩
   try simp only [Act.put, sA, sB, sC]
   refine wpE_tk 8 (oi := ?o9) (v := ?v9) ?h9 (by kernel_rfl) ?q9 ?y9 (by assumption) ?_
   case h9 => (simp only [List.getElem?_toArray]; rfl)
   case q9 => exact fun _ _ _ h => h
   case y9 => exact Or.inl ⟨by rfl, by (intro w hSw; (try dsimp only at hSw); go_simp; try with_reducible rfl)⟩
   try simp only [Act.put, sA, sB, sC]
   refine wpE_tk 10 (oi := ?o10) (v := ?v10) ?h10 (by kernel_rfl) ?q10 ?y10 (by assumption) ?_
   case h10 => (simp only [List.getElem?_toArray]; rfl)
   case q10 => exact fun _ _ _ h => h
   case y10 => exact Or.inl ⟨by rfl, by (intro w hSw; (try dsimp only at hSw); go_simp; try with_reducible rfl)⟩
   try simp only [Act.put, sA, sB, sC]
   refine wpE_tk 11 (oi := ?o11) (v := ?v11) ?h11 (by kernel_rfl) ?q11 ?y11 (by assumption) ?_
   case h11 => (simp only [List.getElem?_toArray]; rfl)
   case q11 => exact fun _ _ _ h => h
   case y11 => exact Or.inl ⟨by rfl, by (intro w hSw; (try dsimp only at hSw); go_simp; try with_reducible rfl)⟩
   try simp only [Act.put, sA, sB, sC]
   refine wpE_two (i := 9) (j := 12) (oi := ?oa2) (oj := ?ob2) ?ha2 ?hb2 (by kernel_rfl) (fun K hK => ?_) (fun K hK => ?_)
   case ha2 => (simp only [List.getElem?_toArray]; rfl)
   case hb2 => (simp only [List.getElem?_toArray]; rfl)
   ·go_simp
    refine hK.out _ _ True.intro (fun hHeld => ?_)
    clear hK K
    refine wpE_last (i := 12) (o := ?o20) ?ho20 (by kernel_rfl) (by kernel_rfl) (by kernel_rfl) (fun K hK => ?_)
    case ho20 => (simp only [List.getElem?_toArray]; rfl)
    go_simp
    refine hK.out _ _ ?_
    clear hK K hHeld k1 kz
    go_wp2_with fail
    go_meet
    exact ⟨F1.out, F2.out, F3.out⟩
   ·go_simp
    refine hK.out _ _ True.intro (fun hHeld => ?_)
    clear hK K
    refine wpE_last (i := 9) (o := ?o21) ?ho21 (by kernel_rfl) (by kernel_rfl) (by kernel_rfl) (fun K hK => ?_)
    case ho21 => (simp only [List.getElem?_toArray]; rfl)
    go_simp
    refine hK.out _ _ ?_
    clear hK K hHeld k1 kz
    go_wp2_with fail
    go_meet
    exact ⟨F1.out, F2.out, F3.out⟩
  ·go_simp
   refine hK.out _ _ True.intro (fun hHeld => ?_)
   clear hK K
   refine wpE_one (i := 4) (o := ?o18) ?ho18 (by kernel_rfl) (fun K hK => ?_)
   case ho18 => (simp only [List.getElem?_toArray]; rfl)
   go_simp
   refine hK.out _ _ True.intro (fun hHeld => ?_)
   clear hK K
   refine wpE_one (i := 6) (o := ?o19) ?ho19 (by kernel_rfl) (fun K hK => ?_)
   case ho19 => (simp only [List.getElem?_toArray]; rfl)
   go_simp
   refine HAP.out.mono ?_
   rintro e w2 ⟨v', rfl, hvo, hb⟩
   obtain ⟨a2, c2, rfl⟩ := hvo.form
   have hb2 : Below w1.heap.size w1 w2 := (Below.drewN_of w1 1).trans hb
   obtain ⟨hf1, hf2, hf3, k1, kz⟩ := HFIN.out w2 a2 c2 hvo hb2
   have F1 := Lib.hid hf1
   have F2 := Lib.hid hf2
   have F3 := Lib.hid hf3
   refine hK.out _ _ True.intro (fun hHeld => ?_)
   clear hK K hvo hb hb2 hf1 hf2 hf3 HAP
   refine wpE_tk 7 (oi := ?o12) (v := ?v12) ?h12 (by kernel_rfl) ?q12 ?y12 (by assumption) ?_
   case h12 => (simp only [List.getElem?_toArray]; rfl)
   case q12 => exact fun _ _ _ h => h
   case y12 => exact Or.inl ⟨by rfl, by (intro w hSw; (try dsimp only at hSw); go_simp; try with_reducible rfl)⟩
   try simp only [Act.put, sA, sB, sC]
   refine wpE_tk 8 (oi := ?o13) (v := ?v13) ?h13 (by kernel_rfl) ?q13 ?y13 (by assumption) ?_
   case h13 => (simp only [List.getElem?_toArray]; rfl)
   case q13 => exact fun _ _ _ h => h
   case y13 => exact Or.inl ⟨by rfl, by (intro w hSw; (try dsimp only at hSw); go_simp; try with_reducible rfl)⟩
   try simp only [Act.put, sA, sB, sC]
   refine wpE_tk 10 (oi := ?o14) (v := ?v14) ?h14 (by kernel_rfl) ?q14 ?y14 (by assumption) ?_
   case h14 => (simp only [List.getElem?_toArray]; rfl)
   case q14 => exact fun _ _ _ h => h
   case y14 => exact Or.inl ⟨by rfl, by (intro w hSw; (try dsimp only at hSw); go_simp; try with_reducible rfl)⟩
   try simp only [Act.put, sA, sB, sC]
   refine wpE_tk 11 (oi := ?o15) (v := ?v15) ?h15 (by kernel_rfl) ?q15 ?y15 (by assumption) ?_
   case h15 => (simp only [List.getElem?_toArray]; rfl)
   case q15 => exact fun _ _ _ h => h
   case y15 => exact Or.inl ⟨by rfl, by (intro w hSw; (try dsimp only at hSw); go_simp; try with_reducible rfl)⟩
   try simp only [Act.put, sA, sB, sC]
   refine wpE_two (i := 9) (j := 12) (oi := ?oa3) (oj := ?ob3) ?ha3 ?hb3 (by kernel_rfl) (fun K hK => ?_) (fun K hK => ?_)
   case ha3 => (simp only [List.getElem?_toArray]; rfl)
   case hb3 => (simp only [List.getElem?_toArray]; rfl)
   ·go_simp
    refine hK.out _ _ True.intro (fun hHeld => ?_)
    clear hK K
    refine wpE_last (i := 12) (o := ?o22) ?ho22 (by kernel_rfl) (by kernel_rfl) (by kernel_rfl) (fun K hK => ?_)
    case ho22 => (simp only [List.getElem?_toArray]; rfl)
    go_simp
    refine hK.out _ _ ?_
    clear hK K hHeld k1 kz
    go_wp2_with fail
    go_meet
    exact ⟨F1.out, F2.out, F3.out⟩
   ·go_simp
    refine hK.out _ _ True.intro (fun hHeld => ?_)
    clear hK K
    refine wpE_last (i := 9) (o := ?o23) ?ho23 (by kernel_rfl) (by kernel_rfl) (by kernel_rfl) (fun K hK => ?_)
    case ho23 => (simp only [List.getElem?_toArray]; rfl)
    go_simp
    refine hK.out _ _ ?_
    clear hK K hHeld k1 kz
    go_wp2_with fail
    go_meet
    exact ⟨F1.out, F2.out, F3.out⟩
 case rest =>
 obtain ⟨hv1, hg1, hk1⟩ := hcut
 obtain ⟨wx, rfl⟩ : ∃ wo : World, wo = wc := ⟨_, rfl⟩
 obtain ⟨a3, c3, hbx, _⟩ := hv1.box
 have m0 : wx.cell? ⟨gm, 0, none⟩ = some (.int .i64 m.seq) := hg1.cell 0
 have k2 : wx.cell? ⟨pv, 2, none⟩ = some (.int .i64 s.seq) := hbx.cell 2
 have kz : wx.frozen? ⟨pv, 2, none⟩ = false := hbx.frozen 2
 have HF := Lib.hid (hv1.seq_ m.seq)
 have HK := Lib.hid (hk1.trans (keep1 wx pv 2 (.int .i64 m.seq)))
 clear hv1 hg1 hk1 hbx HAP H1 HB HGM HBA c1
 go_wp2_with fail
 go_end0
 exact ⟨by trivial, HF.out, HK.out⟩
end
end Go.Proofs.Ytmaijkoopjocdaa

/- The walk of viewer.Viewer's follow. -/
namespace Go.Proofs.Ytmaijkoopjocdaa
open Go.RowKit Go.Lib

section
variable {W w w' : World} {pv n : Nat} {hv : Value} {s : LSt}
theorem tail_sl {B g cap : Nat} {x : Mg} {t : List Mg} (h : MSG.Row w B (.slice (some ⟨g, 0, none⟩) (t.length + 1) cap) (x :: t)) :
  MSG.Sl w (.slice (if cap = 1 then some (⟨g, 0, none⟩ : Addr) else some ⟨g, 7, none⟩) t.length (cap - 1)) t := by
 obtain ⟨a, c, he, ho, hrd⟩ := h.sl
 injection he with e1 _ e3
 subst e1; subst e3
 have hc : t.length + 1 ≤ cap := ho.2.2
 refine ⟨if cap = 1 then some (⟨g, 0, none⟩ : Addr) else some ⟨g, 7, none⟩, cap - 1, rfl, ⟨fun h => (by split at h <;> cases h), fun ad h => ?_, by omega⟩, fun j e hj => ?_⟩
 ·split at h <;> (injection h with h; subst h; exact ⟨_, _, rfl⟩)
 ·have hjl := lt_of_get hj
  rw [if_neg (by omega)]
  obtain ⟨b, off, h1, h2, h3⟩ := hrd (j + 1) e hj
  have e1 : g = b ∧ 0 = off := by injection h1 with h1; injection h1 with x y; exact ⟨x, y⟩
  obtain ⟨rfl, rfl⟩ := e1
  refine ⟨g, 7, rfl, h2, ?_⟩
  rw [show 7 + j * MSG.m = 0 + (j + 1) * MSG.m by show 7 + j * 7 = 0 + (j + 1) * 7; omega]
  exact h3
structure FI (W w wr : World) (pv n : Nat) (hv : Value) (s : LSt) (k : Nat) (hv' : Value) (V : Vw) (q : Int) (H : List Mg) : Prop where
 vw : VW W wr pv n hv' ⟨V, q, H⟩
 kp : Keeps (fun g => g = pv) w wr
 own : ∀ g, hv'.ownBlock = some g → hv.ownBlock = some g ∨ w.heap.size ≤ g
 fp : followP H V q = followP s.H s.V s.seq
 len : H.length ≤ k
 vl : V.length = s.V.length
 srt : SrtV V
 sz : ∃ j, LenV V j ∧ j + H.length ≤ 700000
 mok : ∀ m ∈ H, MOk s.V.length m
 q0 : 0 ≤ q
 q1 : q ≤ 9223372036854775807
theorem FI.keepF {wr wx : World} {k : Nat} {hv' : Value} {V : Vw} {q : Int} {H : List Mg} (h : FI W w wr pv n hv s k hv' V q H) (hb : Below wr.heap.size wr wx) : FI W w wx pv n hv s k hv' V q H :=
 ⟨h.vw.below hb, h.kp.trans (Below.keeps hb), h.own, h.fp, h.len, h.vl, h.srt, h.sz, h.mok, h.q0, h.q1⟩
set_option maxRecDepth 20000 in
set_option maxHeartbeats 16000000 in
theorem follow_any (h : VW W w pv n hv s) (hl : s.V.length ≤ 255) (hsz : ∃ j, LenV s.V j ∧ j + s.H.length ≤ 700000) (hsrt : SrtV s.V) (hmok : ∀ m ∈ s.H, MOk s.V.length m) (hq0 : 0 ≤ s.seq) (hq1 : s.seq ≤ 9223372036854775807) :
  Calls Try.prog 25 #[.pointer (some ⟨pv, 0, none⟩)] w fun e w' => e = .returned (.tuple #[]) ∧ ∃ hv', VW W w' pv n hv' (followP s.H s.V s.seq) ∧ Keeps (fun g => g = pv) w w' ∧ ∀ g, hv'.ownBlock = some g → hv.ownBlock = some g ∨ w.heap.size ≤ g := by
 have F0 : Hid (FI W w w pv n hv s s.H.length hv s.V s.seq s.H) := Lib.hid ⟨h, Keeps.refl _ _, fun g hg => .inl hg, rfl, Nat.le_refl _, rfl, hsrt, hsz, hmok, hq0, hq1⟩
 clear h hsz hsrt hmok hq0 hq1
 go_enter Try.func25, Try.ntmps25
 go_wp2_with fail
 go_loopg [] s.H.length (fun k wr => ∃ (hv' : Value) (V : Vw) (q : Int) (H : List Mg), FI W w wr pv n hv s k hv' V q H)
 case atStart => exact ⟨_, _, _, _, F0.out⟩
 case round =>
  clear F0
  obtain ⟨hv1, V, q, H, hF⟩ := hrel
  obtain ⟨wz, rfl⟩ : ∃ wo : World, wo = wr := ⟨_, rfl⟩
  have F1 := Lib.hid hF
  obtain ⟨a, c, hbx, _⟩ := hF.vw.box
  obtain ⟨ah, ch, hvf⟩ := hF.vw.held.form
  subst hvf
  have BX := Lib.hid hbx
  have hq0 := hF.q0
  have hq1 := hF.q1
  have k2 : wz.cell? ⟨pv, 2, none⟩ = some (.int .i64 q) := hbx.cell 2
  cases H with
  | nil =>
   have k3 : wz.cell? ⟨pv, 3, none⟩ = some (.slice ah 0 ch) := hbx.cell 3
   clear hbx hF
   go_wp2_with fail
   go_quiet (fail)
   go_wp2_with fail
   go_end0
   refine ⟨by trivial, _, ?_, F1.out.kp.trans (Below.keeps (Below.drewN_of _ _)), F1.out.own⟩
   rw [← F1.out.fp]
   exact F1.out.vw.below (Below.drewN_of _ _)
  | cons m t =>
   have k3 : wz.cell? ⟨pv, 3, none⟩ = some (.slice ah (t.length + 1) ch) := hbx.cell 3
   obtain ⟨g, cap, he, _, hcs⟩ := hF.vw.held.at_ 0 m rfl
   injection he with he1 _ he3
   subst he1
   subst he3
   have hc7 : CellsAt wz g 0 [.int .i64 m.seq, .int .i64 m.inst, .int .i64 m.side, .int .i64 m.price, .int .i64 m.qty, .int .i64 m.count, .bool m.imp] := by
    have : CellsAt wz g (0 * MSG.m) m.cells := hcs
    rwa [Nat.zero_mul] at this
   have c0 : wz.cell? ⟨g, 0, none⟩ = some (.int .i64 m.seq) := hc7 0 _ rfl
   have c1 : wz.cell? ⟨g, 1, none⟩ = some (.int .i64 m.inst) := by simpa using hc7 1 _ rfl
   have c2 : wz.cell? ⟨g, 2, none⟩ = some (.int .i64 m.side) := by simpa using hc7 2 _ rfl
   have c3 : wz.cell? ⟨g, 3, none⟩ = some (.int .i64 m.price) := by simpa using hc7 3 _ rfl
   have c4 : wz.cell? ⟨g, 4, none⟩ = some (.int .i64 m.qty) := by simpa using hc7 4 _ rfl
   have c5 : wz.cell? ⟨g, 5, none⟩ = some (.int .i64 m.count) := by simpa using hc7 5 _ rfl
   have c6 : wz.cell? ⟨g, 6, none⟩ = some (.bool m.imp) := by simpa using hc7 6 _ rfl
   have hm := hF.mok m (by simp)
   have hs1 := hm.s1
   have hs2 := hm.o.seq.2
   have y1 : IntKind.i64.wrap (m.seq - 1) = m.seq - 1 := IntWalk.i64_in _ (by omega)
   have hpos : (0 : Int) < (t.length : Int) + 1 := by omega
   have hlh : t.length + 1 ≤ 700000 := by obtain ⟨j, _, hj2⟩ := hF.sz; rw [List.length_cons] at hj2; omega
   have HM := Lib.hid hm
   clear hbx hF hcs hc7 hm
   by_cases hle : m.seq - 1 ≤ q
   ·go_wp2_with fail
    go_quiet (fail)
    obtain ⟨gm, hgm⟩ : ∃ gm, wz.heap.size = gm := ⟨_, rfl⟩
    have hgz : (wz.drewN nq).heap.size = gm := hgm
    go_upto_region 2 with (fail)
    have hbw : Below wz.heap.size wz ((wz.drewN nq).alloc (.cells #[.int .i64 m.seq, .int .i64 m.inst, .int .i64 m.side, .int .i64 m.price, .int .i64 m.qty, .int .i64 m.count, .bool m.imp] 34)) := (Below.drewN_of wz nq).trans ((Below.allocN (wz.drewN nq) _).mono (Nat.le_refl _))
    have F2 := Lib.hid (F1.out.keepF hbw)
    have hgb : Blk ((wz.drewN nq).alloc (.cells #[.int .i64 m.seq, .int .i64 m.inst, .int .i64 m.side, .int .i64 m.price, .int .i64 m.qty, .int .i64 m.count, .bool m.imp] 34)) wz.heap.size 34 #[.int .i64 m.seq, .int .i64 m.inst, .int .i64 m.side, .int .i64 m.price, .int .i64 m.qty, .int .i64 m.count, .bool m.imp] := Blk.new (wz.drewN nq) _ _
    rw [hgm] at hgb
    have HGB := Lib.hid hgb
    clear hbw hgb hgm hgz c0 c1 c2 c3 c4 c5 c6 k2 k3
    generalize (wz.drewN nq).alloc (.cells #[.int .i64 m.seq, .int .i64 m.inst, .int .i64 m.side, .int .i64 m.price, .int .i64 m.qty, .int .i64 m.count, .bool m.imp] 34) = w5 at *
    obtain ⟨a5, c5, hb5, _⟩ := F2.out.vw.box
    have k2 : w5.cell? ⟨pv, 2, none⟩ = some (.int .i64 q) := hb5.cell 2
    have m0 : w5.cell? ⟨gm, 0, none⟩ = some (.int .i64 m.seq) := HGB.out.cell 0
    clear hb5
    by_cases heq : m.seq - 1 = q
    ·have heqb : (m.seq - 1 == q) = true := by simpa using heq
     have HFP : Hid (followP (m :: t) V q = followP t (appV m V) m.seq) := Lib.hid (by conv => { lhs; unfold followP }; rw [if_pos hle, if_pos heq])
     clear hle
     go_quiet (fail)
     have F3 := Lib.hid (F2.out.keepF (Below.drewN_of w5 nq))
     have HGB3 := Lib.hid (HGB.out.below (Below.drewN_of w5 nq))
     generalize w5.drewN nq = w6 at *
     clear k2 m0 heq
     obtain ⟨jj, hj1, hj2⟩ := F1.out.sz
     rw [List.length_cons] at hj2
     have hva := vapply_any F3.out.vw (by have := F1.out.vl; dsimp only; omega) hj1 (by omega) F1.out.srt (m := m) (by have h1 := F1.out.vl; have h2 := HM.out.f; rw [← h1] at h2; exact h2)
     unfold Mg.agg at hva
     have HVA := Lib.hid hva
     have m0 : w6.cell? ⟨gm, 0, none⟩ = some (.int .i64 m.seq) := HGB3.out.cell 0
     have m1 : w6.cell? ⟨gm, 1, none⟩ = some (.int .i64 m.inst) := HGB3.out.cell 1
     have m2 : w6.cell? ⟨gm, 2, none⟩ = some (.int .i64 m.side) := HGB3.out.cell 2
     have m3 : w6.cell? ⟨gm, 3, none⟩ = some (.int .i64 m.price) := HGB3.out.cell 3
     have m4 : w6.cell? ⟨gm, 4, none⟩ = some (.int .i64 m.qty) := HGB3.out.cell 4
     have m5 : w6.cell? ⟨gm, 5, none⟩ = some (.int .i64 m.count) := HGB3.out.cell 5
     have m6 : w6.cell? ⟨gm, 6, none⟩ = some (.bool m.imp) := HGB3.out.cell 6
     clear hva hj1 hj2
     go_wp2_with fail
     refine HVA.out.mono ?_
     rintro e w7 ⟨rfl, hv7, hk7⟩
     have V7 := Lib.hid hv7
     have K7 := Lib.hid (F3.out.kp.trans hk7)
     clear hv7 hk7 HVA m0 m1 m2 m3 m4 m5 m6
     have hbx := (V7.out).box
     obtain ⟨a9, c9, hb9, _⟩ := hbx
     have k3 : w7.cell? ⟨pv, 3, none⟩ = some (.slice (some ⟨g, 0, none⟩) (t.length + 1) ch) := hb9.cell 3
     have kz : ∀ u : World, Below w7.heap.size w7 u → u.cell? ⟨pv, 3, none⟩ = some (.slice (some ⟨g, 0, none⟩) (t.length + 1) ch) ∧ u.frozen? ⟨pv, 3, none⟩ = false := fun u hu => ⟨(hb9.below hu).cell 3, (hb9.below hu).frozen 3⟩
     have KZ := Lib.hid kz
     obtain ⟨off, hoff⟩ : ∃ off, (if ch = 1 then some (⟨g, 0, none⟩ : Addr) else some ⟨g, 7, none⟩) = some ⟨g, off, none⟩ := by by_cases h : ch = 1; exact ⟨0, if_pos h⟩; exact ⟨7, if_neg h⟩
     have htl := tail_sl (V7.out).held
     rw [hoff] at htl
     have HCL := Lib.hid (clone_msg htl (by omega))
     have z1 : 1 ≤ t.length + 1 := by omega
     have z2 : 1 ≤ ch := by have := htl.choose_spec.choose_spec.2.1.2.2; have h2 := (V7.out).held; obtain ⟨_, _, e, o, _⟩ := h2.sl; injection e with _ _ e3; rw [e3]; have := o.2.2; rw [List.length_cons] at this; omega
     have z3 : (1 : Int) ≤ (t.length : Int) + 1 := by omega
     have z4 : t.length + 1 - 1 = t.length := by omega
     clear hb9 htl kz
     go_wp2_with fail
     refine HCL.out.mono ?_
     rintro e w9 ⟨v9, rfl, hr9, hbb⟩
     obtain ⟨a8, c8, rfl⟩ := hr9.form
     have hvw9 := (V7.out).below hbb
     have HV9 := Lib.hid (hvw9.held_ (hr9.base (B' := W.heap.size) (V7.out).bel.size))
     have HK9 := Lib.hid ((K7.out).trans ((Below.keeps hbb).trans (keep1 w9 pv 3 (.slice a8 t.length c8))))
     have HO9 : Hid (∀ g, (Value.slice a8 t.length c8).ownBlock = some g → hv.ownBlock = some g ∨ w.heap.size ≤ g) := Lib.hid fun g hg => .inr (Nat.le_trans (K7.out).size (own_base hr9 g hg))
     have k9 := (KZ.out w9 hbb).1
     have f9 := (KZ.out w9 hbb).2
     clear hr9 hbb hvw9 HCL k3 hoff KZ z1 z2 z3 z4
     go_wp2_with fail
     go_roundg (gk - 1)
     case measure => have := F1.out.len; rw [List.length_cons] at this; omega
     case rel =>
      refine ⟨_, appV m V, m.seq, t, HV9.out, HK9.out, HO9.out, by rw [← F1.out.fp, HFP.out], by have := F1.out.len; rw [List.length_cons] at this; omega, by rw [appV_len]; exact F1.out.vl, appV_srt HM.out.f.sd F1.out.srt, by obtain ⟨j, h1, h2⟩ := F1.out.sz; rw [List.length_cons] at h2; exact ⟨j + 1, appV_lenV h1, by omega⟩, fun x hx => F1.out.mok x (List.mem_cons_of_mem _ hx), by have := HM.out.s1; omega, HM.out.o.seq.2⟩
    ·have heqb : (m.seq - 1 == q) = false := by rw [beq_eq_false_iff_ne]; exact heq
     have HFP : Hid (followP (m :: t) V q = followP t V q) := Lib.hid (by conv => { lhs; unfold followP }; rw [if_pos hle, if_neg heq])
     clear hle heq
     go_quiet (fail)
     have F3 := Lib.hid (F2.out.keepF (Below.drewN_of w5 nq))
     generalize w5.drewN nq = w6 at *
     clear k2 m0
     have hbx := (F3.out.vw).box
     obtain ⟨a9, c9, hb9, _⟩ := hbx
     have k3 : w6.cell? ⟨pv, 3, none⟩ = some (.slice (some ⟨g, 0, none⟩) (t.length + 1) ch) := hb9.cell 3
     have kz : ∀ u : World, Below w6.heap.size w6 u → u.cell? ⟨pv, 3, none⟩ = some (.slice (some ⟨g, 0, none⟩) (t.length + 1) ch) ∧ u.frozen? ⟨pv, 3, none⟩ = false := fun u hu => ⟨(hb9.below hu).cell 3, (hb9.below hu).frozen 3⟩
     have KZ := Lib.hid kz
     obtain ⟨off, hoff⟩ : ∃ off, (if ch = 1 then some (⟨g, 0, none⟩ : Addr) else some ⟨g, 7, none⟩) = some ⟨g, off, none⟩ := by by_cases h : ch = 1; exact ⟨0, if_pos h⟩; exact ⟨7, if_neg h⟩
     have htl := tail_sl (F3.out.vw).held
     rw [hoff] at htl
     have HCL := Lib.hid (clone_msg htl (by omega))
     have z1 : 1 ≤ t.length + 1 := by omega
     have z2 : 1 ≤ ch := by have := htl.choose_spec.choose_spec.2.1.2.2; have h2 := (F3.out.vw).held; obtain ⟨_, _, e, o, _⟩ := h2.sl; injection e with _ _ e3; rw [e3]; have := o.2.2; rw [List.length_cons] at this; omega
     have z3 : (1 : Int) ≤ (t.length : Int) + 1 := by omega
     have z4 : t.length + 1 - 1 = t.length := by omega
     clear hb9 htl kz
     go_wp2_with fail
     refine HCL.out.mono ?_
     rintro e w9 ⟨v9, rfl, hr9, hbb⟩
     obtain ⟨a8, c8, rfl⟩ := hr9.form
     have hvw9 := (F3.out.vw).below hbb
     have HV9 := Lib.hid (hvw9.held_ (hr9.base (B' := W.heap.size) (F3.out.vw).bel.size))
     have HK9 := Lib.hid ((F3.out.kp).trans ((Below.keeps hbb).trans (keep1 w9 pv 3 (.slice a8 t.length c8))))
     have HO9 : Hid (∀ g, (Value.slice a8 t.length c8).ownBlock = some g → hv.ownBlock = some g ∨ w.heap.size ≤ g) := Lib.hid fun g hg => .inr (Nat.le_trans (F3.out.kp).size (own_base hr9 g hg))
     have k9 := (KZ.out w9 hbb).1
     have f9 := (KZ.out w9 hbb).2
     clear hr9 hbb hvw9 HCL k3 hoff KZ z1 z2 z3 z4
     go_wp2_with fail
     go_roundg (gk - 1)
     case measure => have := F1.out.len; rw [List.length_cons] at this; omega
     case rel =>
      refine ⟨_, V, q, t, HV9.out, HK9.out, HO9.out, by rw [← F1.out.fp, HFP.out], by have := F1.out.len; rw [List.length_cons] at this; omega, F1.out.vl, F1.out.srt, by obtain ⟨j, h1, h2⟩ := F1.out.sz; rw [List.length_cons] at h2; exact ⟨j, h1, by omega⟩, fun x hx => F1.out.mok x (List.mem_cons_of_mem _ hx), F1.out.q0, F1.out.q1⟩
   ·have HFP : Hid (followP (m :: t) V q = ⟨V, q, m :: t⟩) := Lib.hid (by unfold followP; rw [if_neg hle])
    go_wp2_with fail
    go_quiet (fail)
    go_wp2_with fail
    go_end0
    refine ⟨by trivial, _, ?_, F1.out.kp.trans (Below.keeps (Below.drewN_of _ _)), F1.out.own⟩
    rw [← F1.out.fp, HFP.out]
    exact F1.out.vw.below (Below.drewN_of _ _)
end
end Go.Proofs.Ytmaijkoopjocdaa
