/- The walk of cornhilllaw14.tops. -/
import Derived.Test.YtilficlanliinaaShow14
import Derived.Test.YtilficlanliinaaRPrice
namespace Go.Proofs.Ytilficlanliinaa
open Go.RowKit

def tameTp (t : Int) (x : Tp) : Tp := ⟨x.h0, x.h1, t * x.p0.tmod 30, t * x.p1.tmod 30, 1 + withI x.q0 0 20, 1 + withI x.q1 0 20⟩
def half (t : Int) (x : Tp) : Tp := ⟨x.h0, x.h1, t * x.p0.tmod 30, x.p1, 1 + withI x.q0 0 20, x.q1⟩
/-- what tops makes, the first i of them -/
def topsTo (t : Int) (n : Nat) (L : List Tp) (i : Nat) : List Tp := (List.range n).map (fun m => if m < i then (match L[m]? with | some x => tameTp t x | none => zeroTp) else zeroTp)
def topsP (p : Prod) (L : List Tp) : List Tp := topsTo p.tick (countN p.months.length) L (countN p.months.length)
theorem topsTo_len (t : Int) (n : Nat) (L : List Tp) (i : Nat) : (topsTo t n L i).length = n := by simp [topsTo]
theorem topsTo_get {t : Int} {n : Nat} {L : List Tp} {i m : Nat} (h : m < n) : (topsTo t n L i)[m]? = some (if m < i then (match L[m]? with | some x => tameTp t x | none => zeroTp) else zeroTp) := by
  unfold topsTo
  rw [List.getElem?_map, List.getElem?_range h]
  rfl
theorem topsTo_succ {t : Int} {n : Nat} {L : List Tp} {i : Nat} {x : Tp} (hi : i < n) (hx : L[i]? = some x) : (topsTo t n L i).set i (tameTp t x) = topsTo t n L (i + 1) := by
  apply List.ext_getElem?
  intro m
  by_cases hm : m < n
  · by_cases hmi : m = i
    · subst hmi
      rw [List.getElem?_set_self (by rw [topsTo_len]; exact hm), topsTo_get hm, if_pos (by omega), hx]
    · rw [List.getElem?_set_ne (fun e => hmi e.symm), topsTo_get hm, topsTo_get hm]
      by_cases h : m < i
      · rw [if_pos h, if_pos (by omega)]
      · rw [if_neg h, if_neg (by omega)]
  · rw [List.getElem?_eq_none (by rw [List.length_set, topsTo_len]; omega), List.getElem?_eq_none (by rw [topsTo_len]; omega)]
theorem topsTo_zero (t : Int) (n : Nat) (L : List Tp) : topsTo t n L 0 = List.replicate n zeroTp := by
  apply List.ext_getElem?
  intro m
  by_cases hm : m < n
  · rw [topsTo_get hm, if_neg (by omega), List.getElem?_replicate, if_pos hm]
  · rw [List.getElem?_eq_none (by rw [topsTo_len]; omega), List.getElem?_eq_none (by simp; omega)]
theorem topsTo_end {t : Int} {n : Nat} {L : List Tp} {i : Nat} (h : L.length ≤ i) : topsTo t n L i = topsTo t n L n := by
  apply List.ext_getElem?
  intro m
  by_cases hm : m < n
  · rw [topsTo_get hm, topsTo_get hm, if_pos hm]
    by_cases h2 : m < i
    · rw [if_pos h2]
    · rw [if_neg h2, List.getElem?_eq_none (by omega)]
  · rw [List.getElem?_eq_none (by rw [topsTo_len]; omega), List.getElem?_eq_none (by rw [topsTo_len]; omega)]
theorem tps_set {w : World} {g : Nat} {t : TypeId} {S : List Tp} (h : Blk w g t (S.flatMap Tp.cells).toArray) (i k : Nat) (e y : Tp) (u : Value) (hi : S[i]? = some e) (hk : k < 6) (hy : y.cells = e.cells.set k u) :
    Blk (w.setCell ⟨g, i * 6 + k, none⟩ u) g t ((S.set i y).flatMap Tp.cells).toArray := by
  have hil := lt_of_get hi
  obtain ⟨_, hie⟩ := get_of hi
  have h1 := h.set_ (i * 6 + k) u
  rw [List.setIfInBounds_toArray, fm_set Tp.cells 6 (fun _ => rfl) u y S i k hil hk (by rw [hie]; exact hy)] at h1
  exact h1
theorem tps_cell {w : World} {g : Nat} {t : TypeId} {S : List Tp} (h : Blk w g t (S.flatMap Tp.cells).toArray) (i k : Nat) (e : Tp) (hi : S[i]? = some e) (hk : k < 6) : w.cell? ⟨g, i * 6 + k, none⟩ = e.cells[k]? := by
  have hil := lt_of_get hi
  obtain ⟨_, hie⟩ := get_of hi
  rw [h.cell, List.getElem?_toArray, fm_get Tp.cells 6 (fun _ => rfl) S i k hil hk, hie]
theorem made_tops (n : Nat) : madeCells (Value.agg zeroTp.cells.toArray).cells (n * 6) = ((List.replicate n zeroTp).flatMap Tp.cells).toArray := by
  apply Array.toList_inj.1
  apply List.ext_getElem?
  intro j
  by_cases hj : j < n * 6
  · have h := fm_get Tp.cells 6 (fun _ => rfl) (List.replicate n zeroTp) (j / 6) (j % 6) (by simp; omega) (by omega)
    rw [show j / 6 * 6 + j % 6 = j by omega, List.getElem_replicate] at h
    show _ = ((List.replicate n zeroTp).flatMap Tp.cells)[j]?
    rw [h]
    simp only [madeCells, Array.toList_map, Array.toList_range, List.getElem?_map, List.getElem?_range hj, Option.map_some]
    have hr : j % 6 < 6 := Nat.mod_lt _ (by omega)
    show some ((zeroTp.cells.toArray)[j % 6]!) = _
    generalize j % 6 = r at hr
    have h8 : r = 0 ∨ r = 1 ∨ r = 2 ∨ r = 3 ∨ r = 4 ∨ r = 5 := by omega
    rcases h8 with rfl | rfl | rfl | rfl | rfl | rfl <;> rfl
  · have h1 : (madeCells (Value.agg zeroTp.cells.toArray).cells (n * 6)).toList.length = n * 6 := by rw [Array.length_toList, size_madeCells]
    rw [List.getElem?_eq_none (by omega), List.getElem?_eq_none (by
      show ((List.replicate n zeroTp).flatMap Tp.cells).length ≤ j
      rw [fm_length Tp.cells 6 (fun _ => rfl)]; simp; omega)]
theorem top_info : (Try.prog.info? 42).map (fun i => (i.zero, i.size, i.bytes)) = some (some (.agg zeroTp.cells.toArray), 6, 40) := TP.info
/-- where tops stands -/
structure TS (w w1 : World) (p : Prod) (go : Nat) (S : List Tp) : Prop where
  bel : Below w.heap.size w w1
  box : Blk w1 w.heap.size 25 p.cells
  out : Blk w1 go 42 (S.flatMap Tp.cells).toArray
  base : w.heap.size < go
theorem TS.keeps {w w1 w2 : World} {p : Prod} {go : Nat} {S S' : List Tp} (h : TS w w1 p go S) (hk : Keeps (fun g => g = go) w1 w2) (ho : Blk w2 go 42 (S'.flatMap Tp.cells).toArray) : TS w w2 p go S' :=
  ⟨h.bel.trans (hk.below (fun g hg => by have hg' : g = go := hg; have := h.base; omega) h.bel.size), h.box.keeps hk (fun e => by have e' : w.heap.size = go := e; have := h.base; omega), ho, h.base⟩
theorem TS.next {w w1 w2 : World} {p : Prod} {go : Nat} {S : List Tp} (h : TS w w1 p go S) (hb : Below w1.heap.size w1 w2) : TS w w2 p go S :=
  ⟨h.bel.trans (hb.mono h.bel.size), h.box.below hb, h.out.below hb, h.base⟩
theorem TS.set1 {w w1 : World} {p : Prod} {go : Nat} {S : List Tp} (h : TS w w1 p go S) (i k : Nat) (e y : Tp) (u : Value) (hi : S[i]? = some e) (hk : k < 6) (hy : y.cells = e.cells.set k u) : TS w (w1.setCell ⟨go, i * 6 + k, none⟩ u) p go (S.set i y) :=
  h.keeps ((Keeps.refl (fun g => g = go) w1).setCell (p := ⟨go, i * 6 + k, none⟩) (fun _ => rfl) u) (tps_set h.out i k e y u hi hk hy)
theorem TS.put {w w1 : World} {p : Prod} {go : Nat} {S : List Tp} (h : TS w w1 p go S) (i : Nat) (e x : Tp) (hi : S[i]? = some e) : TS w ((((((w1.setCell ⟨go, i * 6, none⟩ (.bool x.h0)).setCell ⟨go, i * 6 + 1, none⟩ (.bool x.h1)).setCell ⟨go, i * 6 + 2, none⟩ (.int .i64 x.p0)).setCell ⟨go, i * 6 + 3, none⟩ (.int .i64 x.p1)).setCell ⟨go, i * 6 + 4, none⟩ (.int .i64 x.q0)).setCell ⟨go, i * 6 + 5, none⟩ (.int .i64 x.q1)) p go (S.set i x) := by
  have hl := lt_of_get hi
  have hg : ∀ (S : List Tp) (y : Tp), i < S.length → (S.set i y)[i]? = some y := fun S y h => List.getElem?_set_self h
  have h1 := h.set1 i 0 e { e with h0 := x.h0 } (.bool x.h0) hi (by omega) rfl
  have h2 := h1.set1 i 1 _ { e with h0 := x.h0, h1 := x.h1 } (.bool x.h1) (hg _ _ hl) (by omega) rfl
  rw [List.set_set] at h2
  have h3 := h2.set1 i 2 _ { e with h0 := x.h0, h1 := x.h1, p0 := x.p0 } (.int .i64 x.p0) (hg _ _ hl) (by omega) rfl
  rw [List.set_set] at h3
  have h4 := h3.set1 i 3 _ { e with h0 := x.h0, h1 := x.h1, p0 := x.p0, p1 := x.p1 } (.int .i64 x.p1) (hg _ _ hl) (by omega) rfl
  rw [List.set_set] at h4
  have h5 := h4.set1 i 4 _ { e with h0 := x.h0, h1 := x.h1, p0 := x.p0, p1 := x.p1, q0 := x.q0 } (.int .i64 x.q0) (hg _ _ hl) (by omega) rfl
  rw [List.set_set] at h5
  have h6 := h5.set1 i 5 _ x (.int .i64 x.q1) (hg _ _ hl) (by omega) rfl
  rw [List.set_set] at h6
  exact h6
/-- a side's own part of a top that is tamed -/
def stg (t : Int) (x : Tp) : Nat → Tp
  | 0 => x
  | 1 => half t x
  | _ => tameTp t x
def mid (t : Int) (x : Tp) : Nat → Tp
  | 0 => { x with p0 := t * x.p0.tmod 30 }
  | _ => { half t x with p1 := t * x.p1.tmod 30 }
theorem mid_cells (t : Int) (x : Tp) {k : Nat} (hk : k < 2) : (mid t x k).cells = (stg t x k).cells.set (2 + k) (.int .i64 (t * (x.price (k + 1)).tmod 30)) := by
  have : k = 0 ∨ k = 1 := by omega
  rcases this with rfl | rfl <;> rfl
theorem stg_cells (t : Int) (x : Tp) {k : Nat} (hk : k < 2) : (stg t x (k + 1)).cells = (mid t x k).cells.set (4 + k) (.int .i64 (1 + withI (x.qty (k + 1)) 0 20)) := by
  have : k = 0 ∨ k = 1 := by omega
  rcases this with rfl | rfl <;> rfl
theorem TpAt.price {w : World} {b o : Nat} {x : Tp} (h : TpAt w b o x) {k : Nat} (hk : k < 2) : w.cell? ⟨b, o + 2 + k, none⟩ = some (.int .i64 (x.price (k + 1))) := by
  have : k = 0 ∨ k = 1 := by omega
  rcases this with rfl | rfl
  · exact h.2.2.1
  · exact h.2.2.2.1
theorem TpAt.qty {w : World} {b o : Nat} {x : Tp} (h : TpAt w b o x) {k : Nat} (hk : k < 2) : w.cell? ⟨b, o + 4 + k, none⟩ = some (.int .i64 (x.qty (k + 1))) := by
  have : k = 0 ∨ k = 1 := by omega
  rcases this with rfl | rfl
  · exact h.2.2.2.2.1
  · exact h.2.2.2.2.2
theorem Tp.ok.qty {x : Tp} (h : x.ok) (k : Int) : i64ok (x.qty k) := by
  unfold Tp.qty; split
  · exact h.q0
  · exact h.q1
theorem rem_mul {t y : Int} (h1 : 1 ≤ t) (h2 : t ≤ 1000) : i64ok (t * y.tmod 30) := by
  have hb : -29 ≤ y.tmod 30 ∧ y.tmod 30 ≤ 29 := by
    have h3 := Int.tmod_lt_of_pos y (show (0 : Int) < 30 by omega)
    have h4 := Int.lt_tmod_of_pos y (show (0 : Int) < 30 by omega)
    omega
  have := mul_bd h1 hb.1 hb.2
  unfold i64ok
  omega
set_option maxRecDepth 100000 in
set_option maxHeartbeats 16000000 in
theorem tops_any (p : Prod) (ta : Option Addr) (c : Nat) (L : List Tp) (w : World) (hp : PV w p) (hz : checkP p = 0) (hT : TP.Rd w ta L) (hok : ∀ x ∈ L, x.ok) (hL : L.length ≤ 9223372036854775807) :
    Calls Try.prog 11 #[p.agg, .slice ta L.length c] w fun e w' => ∃ g, e = .returned (.slice (some ⟨g, 0, none⟩) (countN p.months.length) (countN p.months.length)) ∧ Blk w' g 42 ((topsP p L).flatMap Tp.cells).toArray ∧ w.heap.size ≤ g ∧ Below w.heap.size w w' := by
  have s1 : ∀ (w : World) (o : Obj), (w.alloc o).heap.size = w.heap.size + 1 := fun w o => by simp
  have hck := rcount_inst_any p (w.alloc (.cells #[.string p.code, .slice p.ma p.months.length p.mc, .int .i64 p.tick, .int .i64 p.low, .int .i64 p.high, .int .i64 p.wide, .int .i64 p.rule, .int .i64 p.top, .int .i64 p.least, .int .i64 p.part, .slice p.sa p.settle.length p.sc] 25)) (hp.below (Below.allocN _ _))
  rw [countP_some hz] at hck
  have htk := check_tick hz
  have hcn := countN_bd p.months.length (check_len hz).2
  have hx0 : Blk (w.alloc (.cells #[.string p.code, .slice p.ma p.months.length p.mc, .int .i64 p.tick, .int .i64 p.low, .int .i64 p.high, .int .i64 p.wide, .int .i64 p.rule, .int .i64 p.top, .int .i64 p.least, .int .i64 p.part, .slice p.sa p.settle.length p.sc] 25)) w.heap.size 25 p.cells := Blk.new _ _ _
  have HX0 := Lib.hid hx0
  have HB0 : Hid (Below w.heap.size w (w.alloc (.cells #[.string p.code, .slice p.ma p.months.length p.mc, .int .i64 p.tick, .int .i64 p.low, .int .i64 p.high, .int .i64 p.wide, .int .i64 p.rule, .int .i64 p.top, .int .i64 p.least, .int .i64 p.part, .slice p.sa p.settle.length p.sc] 25))) := Lib.hid (Below.allocN _ _)
  have HT := Lib.hid hT
  have HOK := Lib.hid hok
  unfold topsP
  unfold Prod.agg Prod.cells at hck ⊢
  generalize countN p.months.length = n at *
  obtain ⟨i0, hi, hz0, hz1, hz2⟩ := info_parts top_info
  clear hp hz hT hok hx0
  have hmk := fun w => run_makeSlice (P := Try.prog) w 26 42 i0 _ Try.underlying26 hi hz0 .i64 .i64 n n (by omega) (by omega) (by rw [hz1]; omega) (by rw [hz2]; omega) (by omega)
  rw [hz1, Int.toNat_natCast, made_tops] at hmk
  clear hi hz0 hz1 hz2
  go_enter Try.func11, Try.ntmps11
  go_wp2_with fail
  refine hck.mono ?_
  rintro e w1 ⟨rfl, hb1⟩
  have hX1 := HX0.out.below hb1
  have hB1 := HB0.out.trans (hb1.mono HB0.out.size)
  have hs : TS w (w1.alloc (.cells ((List.replicate n zeroTp).flatMap Tp.cells).toArray 42)) p w1.heap.size (topsTo p.tick n L 0) :=
    ⟨hB1.trans ((Below.allocN _ _).mono hB1.size), hX1.alloc _, by rw [topsTo_zero]; exact Blk.new _ _ _, hX1.lt⟩
  have HS := Lib.hid hs
  clear hs hX1 hB1 hb1 hck HX0 HB0
  go_upto_region 3 with (fail)
  obtain ⟨go, hgo⟩ : ∃ go, w1.heap.size = go := ⟨_, rfl⟩
  rw [hgo] at HS ⊢
  clear hgo hmk
  generalize w1.alloc (.cells ((List.replicate n zeroTp).flatMap Tp.cells).toArray 42) = w2 at *
  go_wp2_with fail
  go_loopw [7] (fun j w' => ∃ i : Nat, j = .int .i64 i ∧ i ≤ n ∧ i ≤ L.length ∧ TS w w' p go (topsTo p.tick n L i)) (fun j _ => n - (intOf j).toNat)
  case atStart => exact ⟨0, rfl, Nat.zero_le _, Nat.zero_le _, HS.out⟩
  case round =>
    clear HS
    obtain ⟨i, rfl, hin, hil, hS⟩ := hrel
    obtain ⟨wz, rfl⟩ : ∃ wo : World, wo = wr := ⟨_, rfl⟩
    have HS := Lib.hid hS
    clear hS
    by_cases hi : i < n ∧ i < L.length
    · obtain ⟨hi1, hi2⟩ := hi
      have hi1' : (i : Int) < (n : Int) := by omega
      have hi2' : (i : Int) < (L.length : Int) := by omega
      obtain ⟨x, hx⟩ : ∃ x, L[i]? = some x := ⟨_, List.getElem?_eq_getElem hi2⟩
      have hxo := HOK.out x (List.mem_of_getElem? hx)
      have HSUC := Lib.hid (topsTo_succ (t := p.tick) hi1 hx)
      have HSI := Lib.hid (topsTo_get (t := p.tick) (L := L) (i := i) hi1)
      have HSL := Lib.hid (topsTo_len p.tick n L i)
      generalize topsTo p.tick n L i = S at *
      obtain ⟨e0, he0⟩ : ∃ e, S[i]? = some e := ⟨_, HSI.out⟩
      obtain ⟨b, off, rfl, hbl, hcx⟩ := HT.out i x hx
      have hbg : b ≠ go := by have := HS.out.base; omega
      have HXA : Hid (∀ wy : World, Below w.heap.size w wy → TpAt wy b (off + i * 6) x) := Lib.hid fun wy hb => (hcx.below hb hbl).tp
      have HXO := Lib.hid hxo
      have HE0 := Lib.hid he0
      obtain ⟨c0, c1, c2, c3, c4, c5⟩ := HXA.out _ HS.out.bel
      have d0 := tps_cell HS.out.out i 0 e0 he0 (by omega)
      have d1 := tps_cell HS.out.out i 1 e0 he0 (by omega)
      have d2 := tps_cell HS.out.out i 2 e0 he0 (by omega)
      have d3 := tps_cell HS.out.out i 3 e0 he0 (by omega)
      have d4 := tps_cell HS.out.out i 4 e0 he0 (by omega)
      have d5 := tps_cell HS.out.out i 5 e0 he0 (by omega)
      simp only [Tp.cells, Nat.add_zero, List.getElem?_cons_zero, List.getElem?_cons_succ] at d0 d1 d2 d3 d4 d5
      have fz : ∀ o, wz.frozen? ⟨go, o, none⟩ = false := fun o => HS.out.out.frozen o
      clear hx hxo hcx hbl he0 HSI
      go_upto_region 7 with (fail)
      clear c0 c1 c2 c3 c4 c5 d0 d1 d2 d3 d4 d5 fz
      have HS2 := Lib.hid (HS.out.put i e0 x HE0.out)
      clear HS HE0
      have hl : i < S.length := by rw [HSL.out]; exact hi1
      have HL := Lib.hid hl
      clear hl
      generalize (((((wz.setCell ⟨go, i * 6, none⟩ (.bool x.h0)).setCell ⟨go, i * 6 + 1, none⟩ (.bool x.h1)).setCell ⟨go, i * 6 + 2, none⟩ (.int .i64 x.p0)).setCell ⟨go, i * 6 + 3, none⟩ (.int .i64 x.p1)).setCell ⟨go, i * 6 + 4, none⟩ (.int .i64 x.q0)).setCell ⟨go, i * 6 + 5, none⟩ (.int .i64 x.q1) = w3 at *
      go_wp2_with fail
      go_loopw [8] (fun j w' => ∃ k : Nat, j = .int .i64 k ∧ k ≤ 2 ∧ TS w w' p go (S.set i (stg p.tick x k))) (fun j _ => 2 - (intOf j).toNat)
      case atStart => exact ⟨0, rfl, by omega, HS2.out⟩
      case round =>
        clear HS2
        obtain ⟨k, rfl, hk, hS⟩ := hrel
        obtain ⟨wy, rfl⟩ : ∃ wo : World, wo = wr := ⟨_, rfl⟩
        have HS := Lib.hid hS
        clear hS
        by_cases hk2 : k < 2
        · have hk2' : (k : Int) < 2 := by omega
          have cp := (HXA.out _ HS.out.bel).price hk2
          obtain ⟨px, hpx⟩ : ∃ y, x.price ((k : Int) + 1) = y := ⟨_, rfl⟩
          obtain ⟨qx, hqx⟩ : ∃ y, x.qty ((k : Int) + 1) = y := ⟨_, rfl⟩
          have hqo : i64ok qx := by rw [← hqx]; exact HXO.out.qty _
          have HM1 := Lib.hid (mid_cells p.tick x hk2)
          have HM2 := Lib.hid (stg_cells p.tick x hk2)
          have HCQ := Lib.hid fun (wv : World) (hb : Below w.heap.size w wv) => (HXA.out _ hb).qty hk2
          rw [hpx] at cp HM1
          rw [hqx] at HM2 HCQ
          clear hpx hqx
          have c2 : wy.cell? ⟨w.heap.size, 2, none⟩ = some (.int .i64 p.tick) := HS.out.box.cell 2
          have hgs : (S.set i (stg p.tick x k))[i]? = some (stg p.tick x k) := List.getElem?_set_self HL.out
          have HGS := Lib.hid hgs
          obtain ⟨d, hd⟩ : ∃ d, wy.cell? ⟨go, i * 6 + 2 + k, none⟩ = some d := ⟨_, by
            rw [Nat.add_assoc, tps_cell HS.out.out i (2 + k) _ hgs (by omega)]
            exact List.getElem?_eq_getElem (show 2 + k < 6 by omega)⟩
          have hf : wy.frozen? ⟨go, i * 6 + 2 + k, none⟩ = false := HS.out.out.frozen _
          have y1 : IntKind.i64.wrap (p.tick * px.tmod 30) = p.tick * px.tmod 30 := IntWalk.i64_in _ (rem_mul htk.1 htk.2)
          have HW := Lib.hid fun w => within_any qx 0 20 w hqo.1 hqo.2 (by omega) (by omega) (by omega)
          have hwb := withI_bd qx 0 20 (by omega)
          generalize withI qx 0 20 = wq at *
          clear hgs hqo
          go_wp2_with fail
          refine wp_region_E (S := fun w' => w'.cell? ⟨w.heap.size, 2, none⟩ = some (.int .i64 p.tick) ∧ w'.cell? ⟨b, off + i * 6 + 2 + k, none⟩ = some (.int .i64 px)) (by kernel_rfl) ⟨c2, cp⟩ (fun hHeld => ?_)
          refine wpE_take (i := 0) (oi := ?oi1) (v := ?v1) ?hi1 (by kernel_rfl) (by kernel_rfl) (by kernel_rfl) (by kernel_rfl) ?hQ1 ?hy1 (by assumption) ?rest1
          case hi1 => (simp only [List.getElem?_toArray]; rfl)
          case hQ1 => exact fun _ _ _ h => h
          case hy1 => exact Or.inl ⟨by rfl, by (intro w hSw; (try dsimp only at hSw); go_simp; try with_reducible rfl)⟩
          try simp only [Act.put, List.setIfInBounds_toArray, List.set_cons_zero, List.set_cons_succ]
          refine wpE_take (i := 1) (oi := ?oi2) (v := ?v2) ?hi2 (by kernel_rfl) (by kernel_rfl) (by kernel_rfl) (by kernel_rfl) ?hQ2 ?hy2 (by assumption) ?rest2
          case hi2 => (simp only [List.getElem?_toArray]; rfl)
          case hQ2 => exact fun _ _ _ h => h
          case hy2 => exact Or.inl ⟨by rfl, by (intro w hSw; (try dsimp only at hSw); go_simp; try with_reducible rfl)⟩
          try simp only [Act.put, List.setIfInBounds_toArray, List.set_cons_zero, List.set_cons_succ]
          refine wpE_take (i := 2) (oi := ?oi3) (v := ?v3) ?hi3 (by kernel_rfl) (by kernel_rfl) (by kernel_rfl) (by kernel_rfl) ?hQ3 ?hy3 (by assumption) ?rest3
          case hi3 => (simp only [List.getElem?_toArray]; rfl)
          case hQ3 => exact fun _ _ _ h => h
          case hy3 => exact Or.inl ⟨by rfl, by (intro w hSw; (try dsimp only at hSw); go_simp; try with_reducible rfl)⟩
          try simp only [Act.put, List.setIfInBounds_toArray, List.set_cons_zero, List.set_cons_succ]
          refine wpE_take (i := 3) (oi := ?oi4) (v := ?v4) ?hi4 (by kernel_rfl) (by kernel_rfl) (by kernel_rfl) (by kernel_rfl) ?hQ4 ?hy4 (by assumption) ?rest4
          case hi4 => (simp only [List.getElem?_toArray]; rfl)
          case hQ4 => exact fun _ _ _ h => h
          case hy4 => exact Or.inl ⟨by rfl, by (intro w hSw; (try dsimp only at hSw); go_simp; try with_reducible rfl)⟩
          try simp only [Act.put, List.setIfInBounds_toArray, List.set_cons_zero, List.set_cons_succ]
          refine wpE_take (i := 4) (oi := ?oi5) (v := ?v5) ?hi5 (by kernel_rfl) (by kernel_rfl) (by kernel_rfl) (by kernel_rfl) ?hQ5 ?hy5 (by assumption) ?rest5
          case hi5 => (simp only [List.getElem?_toArray]; rfl)
          case hQ5 => exact fun _ _ _ h => h
          case hy5 => exact Or.inl ⟨by rfl, by (intro w hSw; (try dsimp only at hSw); go_simp; try with_reducible rfl)⟩
          try simp only [Act.put, List.setIfInBounds_toArray, List.set_cons_zero, List.set_cons_succ]
          refine wpE_take (i := 5) (oi := ?oi6) (v := ?v6) ?hi6 (by kernel_rfl) (by kernel_rfl) (by kernel_rfl) (by kernel_rfl) ?hQ6 ?hy6 (by assumption) ?rest6
          case hi6 => (simp only [List.getElem?_toArray]; rfl)
          case hQ6 => exact fun _ _ _ h => h
          case hy6 => exact Or.inl ⟨by rfl, by (intro w hSw; (try dsimp only at hSw); go_simp; try with_reducible rfl)⟩
          try simp only [Act.put, List.setIfInBounds_toArray, List.set_cons_zero, List.set_cons_succ]
          refine wpE_take (i := 6) (oi := ?oi7) (v := ?v7) ?hi7 (by kernel_rfl) (by kernel_rfl) (by kernel_rfl) (by kernel_rfl) ?hQ7 ?hy7 (by assumption) ?rest7
          case hi7 => (simp only [List.getElem?_toArray]; rfl)
          case hQ7 => exact fun _ _ _ h => h
          case hy7 => exact Or.inl ⟨by rfl, by (intro w hSw; (try dsimp only at hSw); go_simp; try with_reducible rfl)⟩
          try simp only [Act.put, List.setIfInBounds_toArray, List.set_cons_zero, List.set_cons_succ]
          refine wpE_take (i := 7) (oi := ?oi8) (v := ?v8) ?hi8 (by kernel_rfl) (by kernel_rfl) (by kernel_rfl) (by kernel_rfl) ?hQ8 ?hy8 (by assumption) ?rest8
          case hi8 => (simp only [List.getElem?_toArray]; rfl)
          case hQ8 => exact fun _ _ _ h => h
          case hy8 => exact Or.inl ⟨by rfl, by (intro w hSw; (try dsimp only at hSw); go_simp; try with_reducible rfl)⟩
          try simp only [Act.put, List.setIfInBounds_toArray, List.set_cons_zero, List.set_cons_succ]
          refine wpE_take (i := 8) (oi := ?oi9) (v := ?v9) ?hi9 (by kernel_rfl) (by kernel_rfl) (by kernel_rfl) (by kernel_rfl) ?hQ9 ?hy9 (by assumption) ?rest9
          case hi9 => (simp only [List.getElem?_toArray]; rfl)
          case hQ9 => exact fun _ _ _ h => h
          case hy9 => exact Or.inl ⟨by rfl, by (intro w hSw; (try dsimp only at hSw); go_simp; try with_reducible rfl)⟩
          try simp only [Act.put, List.setIfInBounds_toArray, List.set_cons_zero, List.set_cons_succ]
          refine wpE_take (i := 9) (oi := ?oi10) (v := ?v10) ?hi10 (by kernel_rfl) (by kernel_rfl) (by kernel_rfl) (by kernel_rfl) ?hQ10 ?hy10 (by assumption) ?rest10
          case hi10 => (simp only [List.getElem?_toArray]; rfl)
          case hQ10 => exact fun _ _ _ h => h
          case hy10 => exact Or.inl ⟨by rfl, by (intro w hSw; (try dsimp only at hSw); go_simp; try with_reducible rfl)⟩
          try simp only [Act.put, List.setIfInBounds_toArray, List.set_cons_zero, List.set_cons_succ]
          refine wpE_take (i := 10) (oi := ?oi11) (v := ?v11) ?hi11 (by kernel_rfl) (by kernel_rfl) (by kernel_rfl) (by kernel_rfl) ?hQ11 ?hy11 (by assumption) ?rest11
          case hi11 => (simp only [List.getElem?_toArray]; rfl)
          case hQ11 => exact fun _ _ _ h => h
          case hy11 => exact Or.inl ⟨by rfl, by (intro w hSw; (try dsimp only at hSw); go_simp; try with_reducible rfl)⟩
          try simp only [Act.put, List.setIfInBounds_toArray, List.set_cons_zero, List.set_cons_succ]
          refine wpE_take (i := 11) (oi := ?oi12) (v := ?v12) ?hi12 (by kernel_rfl) (by kernel_rfl) (by kernel_rfl) (by kernel_rfl) ?hQ12 ?hy12 (by assumption) ?rest12
          case hi12 => (simp only [List.getElem?_toArray]; rfl)
          case hQ12 => exact fun _ _ _ h => h
          case hy12 => exact Or.inl ⟨by rfl, by (intro w hSw; (try dsimp only at hSw); go_simp; try with_reducible rfl)⟩
          try simp only [Act.put, List.setIfInBounds_toArray, List.set_cons_zero, List.set_cons_succ]
          refine wpE_take (i := 12) (oi := ?oi13) (v := ?v13) ?hi13 (by kernel_rfl) (by kernel_rfl) (by kernel_rfl) (by kernel_rfl) ?hQ13 ?hy13 (by assumption) ?rest13
          case hi13 => (simp only [List.getElem?_toArray]; rfl)
          case hQ13 => exact fun _ _ _ h => h
          case hy13 => exact Or.inl ⟨by rfl, by (intro w hSw; (try dsimp only at hSw); go_simp; try with_reducible rfl)⟩
          try simp only [Act.put, List.setIfInBounds_toArray, List.set_cons_zero, List.set_cons_succ]
          refine wpE_take (i := 13) (oi := ?oi14) (v := ?v14) ?hi14 (by kernel_rfl) (by kernel_rfl) (by kernel_rfl) (by kernel_rfl) ?hQ14 ?hy14 (by assumption) ?rest14
          case hi14 => (simp only [List.getElem?_toArray]; rfl)
          case hQ14 => exact fun _ _ _ h => h
          case hy14 => exact Or.inl ⟨by rfl, by (intro w hSw; (try dsimp only at hSw); go_simp; try with_reducible rfl)⟩
          try simp only [Act.put, List.setIfInBounds_toArray, List.set_cons_zero, List.set_cons_succ]
          refine wpE_take (i := 14) (oi := ?oi15) (v := ?v15) ?hi15 (by kernel_rfl) (by kernel_rfl) (by kernel_rfl) (by kernel_rfl) ?hQ15 ?hy15 (by assumption) ?rest15
          case hi15 => (simp only [List.getElem?_toArray]; rfl)
          case hQ15 => exact fun _ _ _ h => h
          case hy15 => exact Or.inl ⟨by rfl, by (intro w hSw; (try dsimp only at hSw); go_simp; try with_reducible rfl)⟩
          try simp only [Act.put, List.setIfInBounds_toArray, List.set_cons_zero, List.set_cons_succ]
          refine wpE_take (i := 15) (oi := ?oi16) (v := ?v16) ?hi16 (by kernel_rfl) (by kernel_rfl) (by kernel_rfl) (by kernel_rfl) ?hQ16 ?hy16 (by assumption) ?rest16
          case hi16 => (simp only [List.getElem?_toArray]; rfl)
          case hQ16 => exact fun _ _ _ h => h
          case hy16 => exact Or.inl ⟨by rfl, by (intro w hSw; (try dsimp only at hSw); go_simp; try with_reducible rfl)⟩
          try simp only [Act.put, List.setIfInBounds_toArray, List.set_cons_zero, List.set_cons_succ]
          refine wpE_take (i := 16) (oi := ?oi17) (v := ?v17) ?hi17 (by kernel_rfl) (by kernel_rfl) (by kernel_rfl) (by kernel_rfl) ?hQ17 ?hy17 (by assumption) ?rest17
          case hi17 => (simp only [List.getElem?_toArray]; rfl)
          case hQ17 => exact fun _ _ _ h => h
          case hy17 => exact Or.inl ⟨by rfl, by (intro w hSw; (try dsimp only at hSw); go_simp; try with_reducible rfl)⟩
          try simp only [Act.put, List.setIfInBounds_toArray, List.set_cons_zero, List.set_cons_succ]
          refine wpE_last (i := 17) (o := ?o33) ?ho33 (by kernel_rfl) (by kernel_rfl) (by kernel_rfl) (fun K hK => ?_)
          case ho33 => (simp only [List.getElem?_toArray]; rfl)
          go_simp
          refine hK.out _ _ ?_
          clear hK K
          have hS2 := HS.out.set1 i (2 + k) _ (mid p.tick x k) (.int .i64 (p.tick * px.tmod 30)) HGS.out (by omega) HM1.out
          rw [List.set_set, ← Nat.add_assoc] at hS2
          have HS2 := Lib.hid (hS2.next (Below.drewN_of _ 1))
          clear hS2 HS HGS c2 cp hd hf y1 d
          have hwx : ∀ (wx wq : World), wx = wq → wq = wx := fun _ _ h => h.symm
          clear hwx
          obtain ⟨wx, hwx⟩ : ∃ wx, (wy.setCell ⟨go, i * 6 + 2 + k, none⟩ (.int .i64 (p.tick * px.tmod 30))).drew = wx := ⟨_, rfl⟩
          have HS3 : Hid (TS w wx p go (S.set i (mid p.tick x k))) := Lib.hid (by rw [← hwx]; exact HS2.out)
          rw [hwx]
          clear hwx HS2
          have cq := HCQ.out _ HS3.out.bel
          have hgs : (S.set i (mid p.tick x k))[i]? = some (mid p.tick x k) := List.getElem?_set_self HL.out
          have HGS := Lib.hid hgs
          obtain ⟨d, hd⟩ : ∃ d, wx.cell? ⟨go, i * 6 + 4 + k, none⟩ = some d := ⟨_, by
            rw [Nat.add_assoc, tps_cell HS3.out.out i (4 + k) _ hgs (by omega)]
            exact List.getElem?_eq_getElem (show 4 + k < 6 by omega)⟩
          have hf : wx.frozen? ⟨go, i * 6 + 4 + k, none⟩ = false := HS3.out.out.frozen _
          have y1 : IntKind.i64.wrap (1 + wq) = 1 + wq := IntWalk.i64_in _ (by omega)
          clear hgs
          go_wp2_with fail
          refine wp_region_E (S := fun w' => w'.cell? ⟨b, off + i * 6 + 4 + k, none⟩ = some (.int .i64 qx)) (by kernel_rfl) cq (fun hHeld => ?_)
          refine wpE_take (i := 0) (oi := ?oi18) (v := ?v18) ?hi18 (by kernel_rfl) (by kernel_rfl) (by kernel_rfl) (by kernel_rfl) ?hQ18 ?hy18 (by assumption) ?rest18
          case hi18 => (simp only [List.getElem?_toArray]; rfl)
          case hQ18 => exact fun _ _ _ h => h
          case hy18 => exact Or.inl ⟨by rfl, by (intro w hSw; (try dsimp only at hSw); go_simp; try with_reducible rfl)⟩
          try simp only [Act.put, List.setIfInBounds_toArray, List.set_cons_zero, List.set_cons_succ]
          refine wpE_take (i := 1) (oi := ?oi19) (v := ?v19) ?hi19 (by kernel_rfl) (by kernel_rfl) (by kernel_rfl) (by kernel_rfl) ?hQ19 ?hy19 (by assumption) ?rest19
          case hi19 => (simp only [List.getElem?_toArray]; rfl)
          case hQ19 => exact fun _ _ _ h => h
          case hy19 => exact Or.inl ⟨by rfl, by (intro w hSw; (try dsimp only at hSw); go_simp; try with_reducible rfl)⟩
          try simp only [Act.put, List.setIfInBounds_toArray, List.set_cons_zero, List.set_cons_succ]
          refine wpE_take (i := 2) (oi := ?oi20) (v := ?v20) ?hi20 (by kernel_rfl) (by kernel_rfl) (by kernel_rfl) (by kernel_rfl) ?hQ20 ?hy20 (by assumption) ?rest20
          case hi20 => (simp only [List.getElem?_toArray]; rfl)
          case hQ20 => exact fun _ _ _ h => h
          case hy20 => exact Or.inl ⟨by rfl, by (intro w hSw; (try dsimp only at hSw); go_simp; try with_reducible rfl)⟩
          try simp only [Act.put, List.setIfInBounds_toArray, List.set_cons_zero, List.set_cons_succ]
          refine wpE_take (i := 3) (oi := ?oi21) (v := ?v21) ?hi21 (by kernel_rfl) (by kernel_rfl) (by kernel_rfl) (by kernel_rfl) ?hQ21 ?hy21 (by assumption) ?rest21
          case hi21 => (simp only [List.getElem?_toArray]; rfl)
          case hQ21 => exact fun _ _ _ h => h
          case hy21 => exact Or.inl ⟨by rfl, by (intro w hSw; (try dsimp only at hSw); go_simp; try with_reducible rfl)⟩
          try simp only [Act.put, List.setIfInBounds_toArray, List.set_cons_zero, List.set_cons_succ]
          refine wpE_take (i := 4) (oi := ?oi22) (v := ?v22) ?hi22 (by kernel_rfl) (by kernel_rfl) (by kernel_rfl) (by kernel_rfl) ?hQ22 ?hy22 (by assumption) ?rest22
          case hi22 => (simp only [List.getElem?_toArray]; rfl)
          case hQ22 => exact fun _ _ _ h => h
          case hy22 => exact Or.inl ⟨by rfl, by (intro w hSw; (try dsimp only at hSw); go_simp; try with_reducible rfl)⟩
          try simp only [Act.put, List.setIfInBounds_toArray, List.set_cons_zero, List.set_cons_succ]
          refine wpE_take (i := 5) (oi := ?oi23) (v := ?v23) ?hi23 (by kernel_rfl) (by kernel_rfl) (by kernel_rfl) (by kernel_rfl) ?hQ23 ?hy23 (by assumption) ?rest23
          case hi23 => (simp only [List.getElem?_toArray]; rfl)
          case hQ23 => exact fun _ _ _ h => h
          case hy23 => exact Or.inl ⟨by rfl, by (intro w hSw; (try dsimp only at hSw); go_simp; try with_reducible rfl)⟩
          try simp only [Act.put, List.setIfInBounds_toArray, List.set_cons_zero, List.set_cons_succ]
          refine wpE_take (i := 6) (oi := ?oi24) (v := ?v24) ?hi24 (by kernel_rfl) (by kernel_rfl) (by kernel_rfl) (by kernel_rfl) ?hQ24 ?hy24 (by assumption) ?rest24
          case hi24 => (simp only [List.getElem?_toArray]; rfl)
          case hQ24 => exact fun _ _ _ h => h
          case hy24 => exact Or.inl ⟨by rfl, by (intro w hSw; (try dsimp only at hSw); go_simp; try with_reducible rfl)⟩
          try simp only [Act.put, List.setIfInBounds_toArray, List.set_cons_zero, List.set_cons_succ]
          refine wpE_take (i := 7) (oi := ?oi25) (v := ?v25) ?hi25 (by kernel_rfl) (by kernel_rfl) (by kernel_rfl) (by kernel_rfl) ?hQ25 ?hy25 (by assumption) ?rest25
          case hi25 => (simp only [List.getElem?_toArray]; rfl)
          case hQ25 => exact fun _ _ _ h => h
          case hy25 => exact Or.inl ⟨by rfl, by (intro w hSw; (try dsimp only at hSw); go_simp; try with_reducible rfl)⟩
          try simp only [Act.put, List.setIfInBounds_toArray, List.set_cons_zero, List.set_cons_succ]
          refine wpE_take (i := 8) (oi := ?oi26) (v := ?v26) ?hi26 (by kernel_rfl) (by kernel_rfl) (by kernel_rfl) (by kernel_rfl) ?hQ26 ?hy26 (by assumption) ?rest26
          case hi26 => (simp only [List.getElem?_toArray]; rfl)
          case hQ26 => exact fun _ _ _ h => h
          case hy26 => exact Or.inl ⟨by rfl, by (intro w hSw; (try dsimp only at hSw); go_simp; try with_reducible rfl)⟩
          try simp only [Act.put, List.setIfInBounds_toArray, List.set_cons_zero, List.set_cons_succ]
          refine wpE_take (i := 9) (oi := ?oi27) (v := ?v27) ?hi27 (by kernel_rfl) (by kernel_rfl) (by kernel_rfl) (by kernel_rfl) ?hQ27 ?hy27 (by assumption) ?rest27
          case hi27 => (simp only [List.getElem?_toArray]; rfl)
          case hQ27 => exact fun _ _ _ h => h
          case hy27 => exact Or.inl ⟨by rfl, by (intro w hSw; (try dsimp only at hSw); go_simp; try with_reducible rfl)⟩
          try simp only [Act.put, List.setIfInBounds_toArray, List.set_cons_zero, List.set_cons_succ]
          refine wpE_take (i := 12) (oi := ?oi28) (v := ?v28) ?hi28 (by kernel_rfl) (by kernel_rfl) (by kernel_rfl) (by kernel_rfl) ?hQ28 ?hy28 (by assumption) ?rest28
          case hi28 => (simp only [List.getElem?_toArray]; rfl)
          case hQ28 => exact fun _ _ _ h => h
          case hy28 => exact Or.inl ⟨by rfl, by (intro w hSw; (try dsimp only at hSw); go_simp; try with_reducible rfl)⟩
          try simp only [Act.put, List.setIfInBounds_toArray, List.set_cons_zero, List.set_cons_succ]
          refine wpE_take (i := 13) (oi := ?oi29) (v := ?v29) ?hi29 (by kernel_rfl) (by kernel_rfl) (by kernel_rfl) (by kernel_rfl) ?hQ29 ?hy29 (by assumption) ?rest29
          case hi29 => (simp only [List.getElem?_toArray]; rfl)
          case hQ29 => exact fun _ _ _ h => h
          case hy29 => exact Or.inl ⟨by rfl, by (intro w hSw; (try dsimp only at hSw); go_simp; try with_reducible rfl)⟩
          try simp only [Act.put, List.setIfInBounds_toArray, List.set_cons_zero, List.set_cons_succ]
          refine wpE_one (i := 10) (o := ?o32) ?ho32 (by kernel_rfl) (fun K hK => ?_)
          case ho32 => (simp only [List.getElem?_toArray]; rfl)
          go_simp
          go_at_call 12
          refine (HW.out _).mono ?_
          rintro e w5 ⟨rfl, rfl⟩
          refine hK.out _ _ cq (fun hHeld => ?_)
          clear hK K
          refine wpE_take (i := 11) (oi := ?oi30) (v := ?v30) ?hi30 (by kernel_rfl) (by kernel_rfl) (by kernel_rfl) (by kernel_rfl) ?hQ30 ?hy30 (by assumption) ?rest30
          case hi30 => (simp only [List.getElem?_toArray]; rfl)
          case hQ30 => exact fun _ _ _ h => h
          case hy30 => exact Or.inl ⟨by rfl, by (intro w hSw; (try dsimp only at hSw); go_simp; try with_reducible rfl)⟩
          try simp only [Act.put, List.setIfInBounds_toArray, List.set_cons_zero, List.set_cons_succ]
          refine wpE_take (i := 14) (oi := ?oi31) (v := ?v31) ?hi31 (by kernel_rfl) (by kernel_rfl) (by kernel_rfl) (by kernel_rfl) ?hQ31 ?hy31 (by assumption) ?rest31
          case hi31 => (simp only [List.getElem?_toArray]; rfl)
          case hQ31 => exact fun _ _ _ h => h
          case hy31 => exact Or.inl ⟨by rfl, by (intro w hSw; (try dsimp only at hSw); go_simp; try with_reducible rfl)⟩
          try simp only [Act.put, List.setIfInBounds_toArray, List.set_cons_zero, List.set_cons_succ]
          refine wpE_last (i := 15) (o := ?o34) ?ho34 (by kernel_rfl) (by kernel_rfl) (by kernel_rfl) (fun K hK => ?_)
          case ho34 => (simp only [List.getElem?_toArray]; rfl)
          go_simp
          refine hK.out _ _ ?_
          clear hK K
          have hS4 := HS3.out.set1 i (4 + k) _ (stg p.tick x (k + 1)) (.int .i64 (1 + wq)) HGS.out (by omega) HM2.out
          rw [List.set_set, ← Nat.add_assoc] at hS4
          have HS5 := Lib.hid (hS4.next (Below.drewN_of _ 1))
          clear hS4 HS3 HGS cq hd hf y1 d
          go_wp2_with fail
          go_roundw
          case rel => exact ⟨k + 1, by go_num, by omega, HS5.out⟩
          case measure => simp [intOf]; omega
        · obtain rfl : k = 2 := by omega
          have HS5 : Hid (TS w wy p go (topsTo p.tick n L (i + 1))) := Lib.hid (by rw [← HSUC.out]; exact HS.out)
          clear HS
          go_wp2_with fail
          go_roundw
          case rel => exact ⟨i + 1, by go_num, by omega, by omega, HS5.out⟩
          case measure => simp [intOf]; omega
    · have HR : Hid (Blk wz go 42 ((topsTo p.tick n L n).flatMap Tp.cells).toArray) := Lib.hid (by
        by_cases h : i = n
        · subst h; exact HS.out.out
        · rw [← topsTo_end (t := p.tick) (n := n) (show L.length ≤ i by omega)]; exact HS.out.out)
      have HBL := Lib.hid HS.out.bel
      have HBG := Lib.hid HS.out.base
      clear HS
      by_cases h1 : i < n
      · have h1' : (i : Int) < (n : Int) := by omega
        have h2 : ¬ (i : Int) < (L.length : Int) := by omega
        go_wp2_with fail
        go_ret
        exact ⟨go, rfl, HR.out, Nat.le_of_lt HBG.out, HBL.out⟩
      · have h1' : ¬ (i : Int) < (n : Int) := by omega
        go_wp2_with fail
        go_ret
        exact ⟨go, rfl, HR.out, Nat.le_of_lt HBG.out, HBL.out⟩
end Go.Proofs.Ytilficlanliinaa
