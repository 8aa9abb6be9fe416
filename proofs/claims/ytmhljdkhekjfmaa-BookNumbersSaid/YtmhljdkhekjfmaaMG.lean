/- Merged: OpenK Known9 SameO With Tops9 Rul9 Rul92. -/
import Derived.Test.YtmhljdkhekjfmaaMF
import Derived.Deep.Slices
import Derived.Deep.Fields
import Derived.ChangeSame
import Derived.OpenShut
import Derived.BigQuiet
import Derived.Test.YtmhljdkhekjfmaaMA
/- A parameter that is a row of chapter 9's asks, opened. -/
namespace Go.Proofs.Ytmhljdkhekjfmaa
open Go.ChangeShapes Go.WideShapes Go.RowKit

def i64ok (x : Int) : Prop := -9223372036854775808 ≤ x ∧ x ≤ 9223372036854775807
structure Ak where
  kind : Int
  side : Int
  id : Int
  price : Int
  qty : Int
deriving DecidableEq
def Ak.cells (x : Ak) : List Value := [.int .i64 x.kind, .int .i64 x.side, .int .i64 x.id, .int .i64 x.price, .int .i64 x.qty]
def Ak.ok (x : Ak) : Prop := i64ok x.kind ∧ i64ok x.side ∧ i64ok x.id ∧ i64ok x.price ∧ i64ok x.qty
def zeroAk : Ak := ⟨0, 0, 0, 0, 0⟩
theorem i64ok_zero9 : i64ok 0 := by unfold i64ok; omega
theorem Ak.ones (x : Ak) : ∀ u ∈ x.cells, u.oneCell' = true := by
  intro u hu
  simp only [Ak.cells, List.mem_cons, List.not_mem_nil, or_false] at hu
  rcases hu with rfl | rfl | rfl | rfl | rfl <;> rfl
def AK : Lay Ak := ⟨Ak.cells, 5, fun _ => rfl, Ak.ones, by omega, 28, 22, .agg zeroAk.cells.toArray, 40, Try.underlying22, by kernel_rfl, by rfl, by omega⟩
theorem ak_fields : ∃ fs : Array Field, Try.prog.underlying 28 = some (.struct fs) ∧ fs.map (fun f => (f.type, f.offset)) = #[(3, 0), (3, 1), (2, 2), (2, 3), (2, 4)] :=
  ⟨_, Try.underlying28, by kernel_rfl⟩
theorem five_of {α : Type} {l : List α} (h : l.length = 5) : ∃ a b c d e, l = [a, b, c, d, e] := by
  match l, h with
  | [a, b, c, d, e], _ => exact ⟨a, b, c, d, e, rfl⟩
theorem ak_open {H : Type} {enc : TypeId × Value → H} {w : World} {spare : Nat → Bool} {held : Bool} {n : Nat} {cs : List Value} {y : DataW H × List MemPlace} (h : DataW.trod enc Try.prog w 0 spare held n 28 cs = some y) : ∃ x : Ak, cs = x.cells ∧ x.ok := by
  obtain ⟨fs, hstr, htys⟩ := ak_fields
  obtain ⟨xs, m, _, _, hlen, hxl, hf⟩ := DataW.trod_struct hstr h
  have hC : Try.prog.cellsOf 28 = 5 := by kernel_rfl
  rw [hC] at hlen
  obtain ⟨c0, c1, c2, c3, c4, rfl⟩ := five_of hlen
  have hsz : fs.size = 5 := by
    have := congrArg Array.size htys
    simpa using this
  have hfld : ∀ (j : Nat) (t : TypeId) (o : Nat), (#[(3, 0), (3, 1), (2, 2), (2, 3), (2, 4)] : Array (TypeId × Nat))[j]? = some (t, o) → ∃ z, DataW.trod enc Try.prog w 0 spare held m t (([c0, c1, c2, c3, c4].drop o).take (Try.prog.cellsOf t)) = some z := by
    intro j t o hj
    rw [← htys, Array.getElem?_map, Option.map_eq_some_iff] at hj
    obtain ⟨f, hf1, hf2⟩ := hj
    injection hf2 with h1 h2
    have := hf j f hf1
    rw [h1, h2] at this
    have hjl : j < xs.length := by have := (Array.getElem?_eq_some_iff.1 hf1).1; omega
    rw [List.getElem?_eq_getElem hjl] at this
    exact ⟨_, this⟩
  have hb : Try.prog.cellsOf 3 = 1 := by kernel_rfl
  have hi : Try.prog.cellsOf 2 = 1 := by kernel_rfl
  obtain ⟨_, h0⟩ := hfld 0 _ _ rfl
  obtain ⟨_, h1⟩ := hfld 1 _ _ rfl
  obtain ⟨_, h2⟩ := hfld 2 _ _ rfl
  obtain ⟨_, h3⟩ := hfld 3 _ _ rfl
  obtain ⟨_, h4⟩ := hfld 4 _ _ rfl
  rw [hb] at h0 h1
  rw [hi] at h2 h3 h4
  obtain ⟨x0, e0, _, f0⟩ := DataW.trod_int Try.underlying3 h0
  obtain ⟨x1, e1, _, f1⟩ := DataW.trod_int Try.underlying3 h1
  obtain ⟨x2, e2, _, f2⟩ := DataW.trod_int Try.underlying2 h2
  obtain ⟨x3, e3, _, f3⟩ := DataW.trod_int Try.underlying2 h3
  obtain ⟨x4, e4, _, f4⟩ := DataW.trod_int Try.underlying2 h4
  have e0' : c0 = .int .i64 x0 := by simpa using e0
  have e1' : c1 = .int .i64 x1 := by simpa using e1
  have e2' : c2 = .int .i64 x2 := by simpa using e2
  have e3' : c3 = .int .i64 x3 := by simpa using e3
  have e4' : c4 = .int .i64 x4 := by simpa using e4
  clear e0 e1 e2 e3 e4 h0 h1 h2 h3 h4
  subst e0' e1' e2' e3' e4'
  exact ⟨⟨x0, x1, x2, x3, x4⟩, rfl, bounds_i64 f0, bounds_i64 f1, bounds_i64 f2, bounds_i64 f3, bounds_i64 f4⟩
set_option maxRecDepth 100000 in
theorem open_asks9 {H : Type} {enc : TypeId × Value → H} {w : World} {spare : Nat → Bool} {held : Bool} {v : Value} {d : DataW H} {p : List MemPlace} (h : DataW.Trod enc Try.prog w 0 spare held 22 v d p) {b0 : Nat} (hv : Value.okWide Try.prog w .any b0 22 v) :
    ∃ (a : Option Addr) (L : List Ak) (c : Nat), v = .slice a L.length c ∧ AK.Rd w a L ∧ (∀ x ∈ L, x.ok) ∧ L.length ≤ 9223372036854775807 ∧ L.length ≤ c := by
  obtain ⟨a0, n0, c0, rfl⟩ := okWide_slice Try.underlying22 hv
  obtain ⟨fuel, hf⟩ := h
  rcases Go.Deep.open_slice Try.underlying22 hf with ⟨h0, _⟩ | ⟨a, len, cap, m, n, D, Pl, hcs, _, hl, hm, hmm, _, hi⟩
  · have h0' : a0 = none ∧ n0 = 0 ∧ c0 = 0 := by
      simp [Value.cells] at h0; exact h0
    obtain ⟨rfl, rfl, rfl⟩ := h0'
    exact ⟨none, [], 0, rfl, Lay.Rd.nil, fun x hx => by simp at hx, by simp, by simp⟩
  · have h0' : a0 = some a ∧ n0 = len ∧ c0 = cap := by
      simp [Value.cells] at hcs; exact hcs
    obtain ⟨rfl, rfl, rfl⟩ := h0'
    have hnm : n0 ≤ m := by rw [hmm]; split <;> omega
    obtain ⟨b, off, sp⟩ := a
    have hC : Try.prog.cellsOf 28 = 5 := by kernel_rfl
    rw [hC] at hi
    have hex : ∀ k : Nat, ∃ x : Ak, x.ok ∧ (k < n0 → sp = none ∧ b < w.heap.size ∧ CellsAt w b (off + k * 5) x.cells) := by
      intro k
      by_cases hk : k < n0
      · obtain ⟨cs', hc, ht⟩ := hi k (by omega)
        obtain ⟨x, rfl, hx⟩ := ak_open ht
        obtain ⟨_, _, hat⟩ := World.cells?_some hc
        have hsp : sp = none := by
          obtain ⟨cs0, hc0, ht0⟩ := hi 0 (by omega)
          obtain ⟨x0, rfl, _⟩ := ak_open ht0
          obtain ⟨_, _, hat0⟩ := World.cells?_some hc0
          have h1 := hat0 0 (by omega)
          exact World.cell?_spot (a := ⟨b, off, sp⟩) (h1.trans rfl)
        subst hsp
        refine ⟨x, hx, fun _ => ⟨rfl, ?_, fun j u hu => ?_⟩⟩
        · have h1 := hat 0 (by omega)
          rw [add_at] at h1
          rcases Nat.lt_or_ge b w.heap.size with h | h
          · exact h
          · unfold World.cell? at h1
            rw [show ((⟨b, off + k * 5, none⟩ : Addr).add 0).block = b from rfl, Array.getElem?_eq_none h] at h1
            cases h1
        · have hj : j < 5 := lt_of_get hu
          have h1 := hat j hj
          rw [add_at, add_at] at h1
          exact h1.trans hu
      · exact ⟨zeroAk, ⟨i64ok_zero9, i64ok_zero9, i64ok_zero9, i64ok_zero9, i64ok_zero9⟩, fun h => absurd h hk⟩
    have hml : maxLen ≤ 9223372036854775807 := by decide
    refine ⟨some ⟨b, off, sp⟩, (List.range n0).map (fun k => (hex k).choose), c0, by simp, ?_, ?_, by simp; omega, by simp; omega⟩
    · intro j e hj
      have hjl : j < n0 := by have := lt_of_get hj; simpa using this
      rw [List.getElem?_map, List.getElem?_range hjl] at hj
      simp at hj
      obtain ⟨_, h2⟩ := (hex j).choose_spec
      obtain ⟨rfl, h4, h5⟩ := h2 hjl
      rw [hj] at h5
      exact ⟨b, off, rfl, h4, h5⟩
    · intro x hx
      rw [List.mem_map] at hx
      obtain ⟨k, _, rfl⟩ := hx
      exact ((hex k).choose_spec).1
end Go.Proofs.Ytmhljdkhekjfmaa

/- The walk of cornhilllaw9.known. -/
namespace Go.Proofs.Ytmhljdkhekjfmaa
open Go.RowKit

def kn1 : List Od := [⟨1, 1, 5, 10, true⟩]
def kn2 : List Od := [⟨2, 1, 6, 10, true⟩, ⟨1, 1, 5, 10, false⟩]
def kn3 : List Od := [⟨2, 1, 6, 10, true⟩, ⟨3, 1, 6, 10, false⟩, ⟨1, 1, 5, 10, false⟩]
set_option maxRecDepth 100000 in
set_option maxHeartbeats 16000000 in
theorem known_any9 (w : World) :
    Calls Try.prog 16 #[] w fun e w' => e = .returned (.bool true) ∧ Below w.heap.size w w' := by
  have H1 : Hid (refAdd [] 1 1 5 10 = (kn1, 0)) := Lib.hid (by decide)
  have H2 : Hid (refAdd kn1 2 1 6 10 = (kn2, 0)) := Lib.hid (by decide)
  have H3 : Hid (refAdd kn2 3 1 6 10 = (kn3, 0)) := Lib.hid (by decide)
  have H4 : Hid (bestO kn3 1 = (⟨6, 20, 2⟩, true)) := Lib.hid (by decide)
  go_enter Try.func16, Try.ntmps16
  go_wp2_with fail
  refine (ob_new w w (Below.refl _ _)).mono ?_
  rintro e w1 ⟨pb, rfl, h, _⟩
  have O1 := Lib.hid h
  clear h
  go_wp2_with fail
  refine (ob_add O1.out 1 1 5 10).mono ?_
  rintro e w2 ⟨rfl, h, _⟩
  rw [H1.out] at h ⊢
  have O2 : Hid (OB w w2 pb kn1) := Lib.hid h
  clear h O1
  go_wp2_with fail
  refine (ob_add O2.out 2 1 6 10).mono ?_
  rintro e w3 ⟨rfl, h, _⟩
  rw [H2.out] at h ⊢
  have O3 : Hid (OB w w3 pb kn2) := Lib.hid h
  clear h O2
  go_wp2_with fail
  refine (ob_add O3.out 3 1 6 10).mono ?_
  rintro e w4 ⟨rfl, h, _⟩
  rw [H3.out] at h ⊢
  have O4 : Hid (OB w w4 pb kn3) := Lib.hid h
  clear h O3
  go_wp2_with fail
  refine (ob_orders O4.out).mono ?_
  rintro e w5 ⟨v, rfl, hr, hb⟩
  have O5 := Lib.hid (O4.out.below hb)
  have R5 := Lib.hid hr
  clear hr hb O4
  go_wp2_with fail
  have hbe := ob_best O5.out 1
  rw [H4.out, show ((⟨6, 20, 2⟩, true) : Lv × Bool).1.cells.toArray = #[.int .i64 6, .int .i64 20, .int .i64 2] from rfl] at hbe
  refine hbe.mono ?_
  rintro e w6 ⟨rfl, hb⟩
  clear hbe
  have O6 := Lib.hid (O5.out.below hb)
  have hr := R5.out.below hb
  obtain ⟨g, cap, rfl, hg, h0⟩ := hr.at_ 0 _ rfl
  obtain ⟨g', cap', e1, _, h1⟩ := hr.at_ 1 _ rfl
  obtain ⟨g'', cap'', e2, _, h2⟩ := hr.at_ 2 _ rfl
  have eg1 : g = g' := by injection e1 with e1; injection e1 with e1; injection e1
  have eg2 : g = g'' := by injection e2 with e2; injection e2 with e2; injection e2
  subst eg1 eg2
  clear e1 e2
  have hbw := Below.allocN w6 (.cells #[.int .i64 6, .int .i64 20, .int .i64 2] 30)
  have a0 : (w6.alloc (.cells #[.int .i64 6, .int .i64 20, .int .i64 2] 30)).cell? ⟨g, 0, none⟩ = some (.int .i64 2) := h0.below hbw hg 0 _ rfl
  have a1 : (w6.alloc (.cells #[.int .i64 6, .int .i64 20, .int .i64 2] 30)).cell? ⟨g, 4, none⟩ = some (.bool true) := h0.below hbw hg 4 _ rfl
  have a2 : (w6.alloc (.cells #[.int .i64 6, .int .i64 20, .int .i64 2] 30)).cell? ⟨g, 9, none⟩ = some (.bool false) := h1.below hbw hg 4 _ rfl
  have a3 : (w6.alloc (.cells #[.int .i64 6, .int .i64 20, .int .i64 2] 30)).cell? ⟨g, 14, none⟩ = some (.bool false) := h2.below hbw hg 4 _ rfl
  have O7 := Lib.hid (O6.out.below hbw)
  clear hr hb h0 h1 h2 hbw hg
  unfold kn3
  go_wp2_with fail
  go_ret
  exact ⟨by trivial, O7.out.bel⟩
end Go.Proofs.Ytmhljdkhekjfmaa

/- The walk of cornhillbook.Same of two equal rows of orders. -/
namespace Go.Proofs.Ytmhljdkhekjfmaa
open Go.RowKit

set_option maxRecDepth 100000 in
set_option maxHeartbeats 4000000 in
theorem same9 (Q : List Od) (aa : Option Addr) (ac : Nat) (ba : Option Addr) (bc : Nat) (w : World) (hA : OD.Rd w aa Q) (hB : OD.Rd w ba Q) (hl : Q.length ≤ 1000000) :
    Calls Try.prog 17 #[.slice aa Q.length ac, .slice ba Q.length bc] w fun e w' => e = .returned (.bool true) ∧ Below w.heap.size w w' := by
  have HA := Lib.hid hA
  have HB := Lib.hid hB
  have HW := Lib.hid (Below.refl w.heap.size w)
  clear hA hB
  go_enter Try.func17, Try.ntmps17
  go_wp2_with fail
  go_loopw [5] (fun j w' => ∃ i : Nat, j = .int .i64 i ∧ i ≤ Q.length ∧ Below w.heap.size w w') (fun j _ => Q.length - (intOf j).toNat)
  case atStart => exact ⟨0, rfl, Nat.zero_le _, HW.out⟩
  case round =>
    obtain ⟨i, rfl, hi, hb⟩ := hrel
    obtain ⟨wy, rfl⟩ : ∃ wo : World, wo = wr := ⟨_, rfl⟩
    have HBL := Lib.hid hb
    clear hb
    by_cases hin : i < Q.length
    · have hin' : (i : Int) < (Q.length : Int) := by omega
      obtain ⟨q, hq⟩ : ∃ q, Q[i]? = some q := ⟨_, List.getElem?_eq_getElem hin⟩
      obtain ⟨ga, oa, rfl, hga, hca⟩ := HA.out.below HBL.out i q hq
      obtain ⟨gb, ob, rfl, hgb, hcb⟩ := HB.out.below HBL.out i q hq
      have a0 : wy.cell? ⟨ga, oa + i * 5, none⟩ = some (.int .i64 q.id) := hca 0 _ rfl
      have a1 : wy.cell? ⟨ga, oa + i * 5 + 1, none⟩ = some (.int .i64 q.side) := hca 1 _ rfl
      have a2 : wy.cell? ⟨ga, oa + i * 5 + 2, none⟩ = some (.int .i64 q.price) := hca 2 _ rfl
      have a3 : wy.cell? ⟨ga, oa + i * 5 + 3, none⟩ = some (.int .i64 q.qty) := hca 3 _ rfl
      have a4 : wy.cell? ⟨ga, oa + i * 5 + 4, none⟩ = some (.bool q.top) := hca 4 _ rfl
      have b0 : wy.cell? ⟨gb, ob + i * 5, none⟩ = some (.int .i64 q.id) := hcb 0 _ rfl
      have b1 : wy.cell? ⟨gb, ob + i * 5 + 1, none⟩ = some (.int .i64 q.side) := hcb 1 _ rfl
      have b2 : wy.cell? ⟨gb, ob + i * 5 + 2, none⟩ = some (.int .i64 q.price) := hcb 2 _ rfl
      have b3 : wy.cell? ⟨gb, ob + i * 5 + 3, none⟩ = some (.int .i64 q.qty) := hcb 3 _ rfl
      have b4 : wy.cell? ⟨gb, ob + i * 5 + 4, none⟩ = some (.bool q.top) := hcb 4 _ rfl
      clear hga hgb hca hcb hq HA HB
      go_upto_region 6 with (fail)
      go_quiet (fail)
      clear a0 a1 a2 a3 a4 b0 b1 b2 b3 b4
      go_wp2_with fail
      go_roundw
      case rel => exact ⟨i + 1, by go_num, by omega, HBL.out.trans ((Below.drewN_of _ _).mono HBL.out.size)⟩
      case measure => simp [intOf]; omega
    · go_wp2_with fail
      go_ret
      exact ⟨by trivial, HBL.out⟩
end Go.Proofs.Ytmhljdkhekjfmaa

/- The walk of cornhillbook.Within: a number brought into lo .. hi. -/
namespace Go.Proofs.Ytmhljdkhekjfmaa
open Go.RowKit

def withI (n lo hi : Int) : Int := lo + n % (hi - lo + 1)
theorem withI_bd (n lo hi : Int) (h : lo ≤ hi) : lo ≤ withI n lo hi ∧ withI n lo hi ≤ hi := by
  unfold withI
  have h1 := Int.emod_nonneg n (show hi - lo + 1 ≠ 0 by omega)
  have h2 := Int.emod_lt_of_pos n (show 0 < hi - lo + 1 by omega)
  omega
set_option maxHeartbeats 400000 in
theorem within_any (n lo hi : Int) (w : World) (hn0 : -9223372036854775808 ≤ n) (hn1 : n ≤ 9223372036854775807) (h : lo ≤ hi) (h0 : -1000000000 ≤ lo) (h1 : hi ≤ 1000000000) :
    Calls Try.prog 11 #[.int .i64 n, .int .i64 lo, .int .i64 hi] w fun e w' => e = .returned (.int .i64 (withI n lo hi)) ∧ w = w' := by
  obtain ⟨m, hm⟩ : ∃ m : Int, hi - lo + 1 = m := ⟨_, rfl⟩
  have hm0 : 1 ≤ m := by omega
  have hm1 : m ≤ 2000000001 := by omega
  have hW : withI n lo hi = lo + n % m := by unfold withI; rw [hm]
  obtain ⟨t, ht⟩ : ∃ t : Int, n.tmod m = t := ⟨_, rfl⟩
  have hmz : (m == 0) = false := by rw [beq_eq_false_iff_ne]; omega
  have hmm : (m == -1) = false := by rw [beq_eq_false_iff_ne]; omega
  have htb : -m < t ∧ t < m := by
    subst ht
    have a := Int.tmod_lt_of_pos n (show 0 < m by omega)
    have b := Int.lt_tmod_of_pos n (show 0 < m by omega)
    omega
  have hW2 : withI n lo hi = if t < 0 then lo + (t + hi - lo + 1) else lo + t := by
    rw [hW, ← ht, Int.emod_eq_tmod]
    by_cases hn : 0 ≤ n
    · rw [if_pos (Or.inl hn)]
      have : 0 ≤ n.tmod m := Int.tmod_nonneg _ hn
      rw [if_neg (by omega)]; omega
    · by_cases hd : m ∣ n
      · rw [if_pos (Or.inr hd)]
        have : n.tmod m = 0 := Int.tmod_eq_zero_of_dvd hd
        rw [if_neg (by omega)]; omega
      · rw [if_neg (by rintro (h | h); exact hn h; exact hd h)]
        have h2 : n.tmod m ≤ 0 := by
          have h4 := Int.tmod_nonneg m (show 0 ≤ -n by omega)
          rw [Int.neg_tmod] at h4
          omega
        have h3 : n.tmod m ≠ 0 := fun h => hd (Int.dvd_of_tmod_eq_zero h)
        rw [if_pos (by omega)]
        have : ((m.natAbs : Nat) : Int) = m := by omega
        omega
  have HW := Lib.hid hW2
  clear hW hW2
  go_enter Try.func11, Try.ntmps11
  go_wp2
  all_goals
    go_ret
    refine ⟨?_, rfl⟩
    rw [HW.out]
    first | (rw [if_pos ‹t < 0›]; rfl) | (rw [if_neg (by omega)]; rfl)
end Go.Proofs.Ytmhljdkhekjfmaa

/- Plain: who is a side's top. -/
namespace Go.Proofs.Ytmhljdkhekjfmaa
open Go.RowKit

theorem top_best {a : BA} (h : Inv a) {side : Int} (hs : side = 1 ∨ side = 2) (price : Int) : refTop (ordL a) side price = (!(bestO (ordL a) side).2 || betterP side price (bestO (ordL a) side).1.price) := by
  rw [← top_sim h hs]
  unfold topB bestO
  rw [lad_sim h, if_pos (isB_of hs)]
  cases a.R side <;> rfl
theorem OB.top {W w : World} {pb : Nat} {L : List Od} (h : OB W w pb L) {side : Int} (hs : side = 1 ∨ side = 2) (price : Int) : refTop L side price = (!(bestO L side).2 || betterP side price (bestO L side).1.price) := by
  obtain ⟨d, h1, _, _⟩ := h
  rw [← h1.ord]
  exact top_best h1.inv hs price
/-- a good Add -/
theorem add_good {L : List Od} {id side price qty : Int} (hs : side = 1 ∨ side = 2) (hq : 1 ≤ qty ∧ qty ≤ 1000000) (hid : ∀ o ∈ L, o.id ≠ id) (hl : L.length < 250) :
    refAdd L id side price qty = ((if refTop L side price = true then L.map (untop side) else L).take (refPos L side price) ++ [⟨id, side, price, qty, refTop L side price⟩] ++ (if refTop L side price = true then L.map (untop side) else L).drop (refPos L side price), 0) := by
  have hf : (L.find? (fun o => o.id == id)).isSome = false := by
    rw [Bool.eq_false_iff, ne_eq, List.find?_isSome]
    rintro ⟨o, ho, he⟩
    exact hid o ho (by simpa using he)
  unfold refAdd
  rw [if_neg (by rw [isB_of hs]; simp), if_neg (by omega), if_neg (by rw [hf]; simp), if_neg (by omega)]
theorem mem_add {L : List Od} {id side price qty : Int} {o : Od} {k : Nat} {b : Bool} (ho : o ∈ (if b = true then L.map (untop side) else L).take k ++ [⟨id, side, price, qty, b⟩] ++ (if b = true then L.map (untop side) else L).drop k) : o = ⟨id, side, price, qty, b⟩ ∨ ∃ o' ∈ L, o = if b = true then untop side o' else o' := by
  have h1 : o = ⟨id, side, price, qty, b⟩ ∨ o ∈ (if b = true then L.map (untop side) else L) := by
    rcases List.mem_append.1 ho with h | h
    · rcases List.mem_append.1 h with h | h
      · exact .inr (List.mem_of_mem_take h)
      · exact .inl (List.mem_singleton.1 h)
    · exact .inr (List.mem_of_mem_drop h)
  rcases h1 with h | h
  · exact .inl h
  · refine .inr ?_
    cases b with
    | true =>
      rw [if_pos rfl] at h
      obtain ⟨o', h2, h3⟩ := List.mem_map.1 h
      exact ⟨o', h2, by rw [if_pos rfl]; exact h3.symm⟩
    | false =>
      rw [if_neg (by simp)] at h
      exact ⟨o, h, by rw [if_neg (by simp)]⟩
theorem len_add {L : List Od} {x : Od} {side : Int} {k : Nat} {b : Bool} : ((if b = true then L.map (untop side) else L).take k ++ [x] ++ (if b = true then L.map (untop side) else L).drop k).length = L.length + 1 := by
  have hl : (if b = true then L.map (untop side) else L).length = L.length := by
    split
    · exact List.length_map _
    · rfl
  rw [List.length_append, List.length_append, List.length_take, List.length_drop, hl]
  simp only [List.length_cons, List.length_nil]
  omega
/-- what a fill leaves -/
theorem mem_fill {L : List Od} {id qty : Int} {o : Od} (ho : o ∈ (refFill L id qty).1) : ∃ o' ∈ L, o = o' ∨ o = { o' with qty := o'.qty - qty } := by
  unfold refFill at ho
  split at ho
  · exact ⟨o, ho, .inl rfl⟩
  · split at ho
    · exact ⟨o, ho, .inl rfl⟩
    · split at ho
      · exact ⟨o, (List.mem_filter.1 ho).1, .inl rfl⟩
      · obtain ⟨o', h1, h2⟩ := List.mem_map.1 ho
        refine ⟨o', h1, ?_⟩
        split at h2
        · exact .inr h2.symm
        · exact .inl h2.symm
theorem len_fill (L : List Od) (id qty : Int) : (refFill L id qty).1.length ≤ L.length := by
  unfold refFill
  split
  · exact Nat.le_refl _
  · split
    · exact Nat.le_refl _
    · split
      · exact List.length_filter_le ..
      · simp
/-- the top of a side is one, and he alone -/
structure TopsAre (L : List Od) (t : Int → Int) (i : Nat) : Prop where
  top : ∀ o ∈ L, o.top = decide (t o.side = o.id)
  ids : ∀ o ∈ L, 1 ≤ o.id ∧ o.id ≤ i
  len : L.length ≤ i
  old : ∀ s, t s ≤ i
def tset (t : Int → Int) (side v : Int) : Int → Int := fun s => if s = side then v else t s
theorem TopsAre.nil : TopsAre [] (fun _ => 0) 0 := ⟨fun o ho => by simp at ho, fun o ho => by simp at ho, Nat.le_refl _, fun _ => Int.le_refl _⟩
theorem TopsAre.add {L : List Od} {t : Int → Int} {i : Nat} (h : TopsAre L t i) (hi : i < 60) {side : Int} (hs : side = 1 ∨ side = 2) (price : Int) :
    (refAdd L ((i : Int) + 1) side price 5).2 = 0 ∧ TopsAre (refAdd L ((i : Int) + 1) side price 5).1 (if refTop L side price = true then tset t side ((i : Int) + 1) else t) (i + 1) := by
  have hg := add_good (L := L) (id := (i : Int) + 1) (price := price) (qty := 5) hs (by omega) (fun o ho => by have := h.ids o ho; omega) (by have := h.len; omega)
  rw [hg]
  refine ⟨rfl, ?_, ?_, ?_, ?_⟩
  · intro o ho
    rcases mem_add ho with rfl | ⟨o', ho', rfl⟩
    · dsimp only
      cases refTop L side price with
      | true => simp [tset]
      | false =>
        have h1 := h.old side
        have : ¬ t side = (i : Int) + 1 := by omega
        simp [this]
    · have h1 := h.top o' ho'
      have h2 := h.ids o' ho'
      cases refTop L side price with
      | true =>
        simp only [if_true]
        rw [(untop_keeps side o').1, (untop_keeps side o').2.2.1]
        unfold tset untop
        by_cases hc : o'.side = side
        · rw [if_pos hc, if_pos hc]
          have : ¬ (i : Int) + 1 = o'.id := by omega
          simp [this]
        · rw [if_neg hc, if_neg hc]; exact h1
      | false => exact h1
  · intro o ho
    rcases mem_add ho with rfl | ⟨o', ho', rfl⟩
    · dsimp only; omega
    · have h2 := h.ids o' ho'
      split
      · rw [(untop_keeps side o').2.2.1]; omega
      · omega
  · rw [len_add]
    have := h.len
    omega
  · intro s
    have h1 := h.old s
    split
    · unfold tset
      split <;> omega
    · omega
theorem TopsAre.fill {L : List Od} {t : Int → Int} {i : Nat} (h : TopsAre L t i) (id qty : Int) : TopsAre (refFill L id qty).1 t (i + 1) := by
  refine ⟨fun o ho => ?_, fun o ho => ?_, ?_, fun s => ?_⟩
  · obtain ⟨o', h1, h2 | h2⟩ := mem_fill ho
    · rw [h2]; exact h.top o' h1
    · rw [h2]; exact h.top o' h1
  · obtain ⟨o', h1, h2 | h2⟩ := mem_fill ho
    · rw [h2]
      have := h.ids o' h1
      omega
    · rw [h2]
      have := h.ids o' h1
      dsimp only
      omega
  · have h1 := len_fill L id qty
    have h2 := h.len
    omega
  · have := h.old s
    omega
end Go.Proofs.Ytmhljdkhekjfmaa

/- Plain: a book's levels; first come first; who is top is best. -/
namespace Go.Proofs.Ytmhljdkhekjfmaa
open Go.RowKit

def sumQ (l : List Od) : Int := (l.map Od.qty).sum
/-- a side's levels, each with its orders -/
structure Lvls (L : List Od) (s : Int) (G : List (Int × List Od)) : Prop where
  lad : ladO L s = G.map (fun g => ⟨g.1, sumQ g.2, g.2.length⟩)
  at_ : ∀ g ∈ G, atO L s g.1 = g.2
  ne : ∀ g ∈ G, g.2 ≠ []
  sp : ∀ g ∈ G, ∀ o ∈ g.2, o.side = s ∧ o.price = g.1
  all : sideO L s = G.flatMap (fun g => g.2)
  srt : G.Pairwise (fun x y => betterP s x.1 y.1 = true)
theorem sum_ordQ (A : List (List Ent)) (s : Int) (r : Rg) : sumQ (ordQ A s r) = qtys (A.getD r.q []) := by
  unfold sumQ ordQ qtys
  rw [List.map_map]
  rfl
theorem Inv.lvls {a : BA} (h : Inv a) {s : Int} (hs : s = 1 ∨ s = 2) : Lvls (ordL a) s ((a.R s).map (fun r => (r.price, ordQ a.A s r))) := by
  refine ⟨?_, ?_, ?_, ?_, ?_, ?_⟩
  · rw [lad_sim h, if_pos (isB_of hs), List.map_map]
    refine List.map_congr_left fun r _ => ?_
    show toldL a.A r = ⟨r.price, sumQ (ordQ a.A s r), ((ordQ a.A s r).length : Int)⟩
    rw [sum_ordQ]
    unfold toldL totA cntA ordQ
    rw [if_neg (by omega), if_neg (by omega), List.length_map]
    rfl
  · intro g hg
    obtain ⟨r, hr, rfl⟩ := List.mem_map.1 hg
    dsimp only
    have e0 : atO (ordL a) s r.price = (ordR a.A s (a.R s)).filter (fun o => decide (o.side = s ∧ o.price = r.price)) := by
      rw [← sideO_eq a hs]
      unfold atO sideO
      rw [List.filter_filter]
      refine List.filter_congr fun o _ => ?_
      by_cases h1 : o.side = s <;> simp [h1]
    rw [e0]
    obtain ⟨n, hn, hrn⟩ := List.getElem_of_mem hr
    have hrn' : (a.R s)[n]? = some r := by rw [List.getElem?_eq_getElem hn, hrn]
    have hsp := rung_split hrn'
    have hsrt := h.srt s hs
    rw [hsp, List.pairwise_append, List.pairwise_cons] at hsrt
    rw [hsp, ordR_split, List.filter_append, List.filter_append, ordR_filter _ _ _ _ (fun x hx h1 => by
      have := hsrt.2.2 x hx r (List.mem_cons_self ..)
      rw [h1, better_irr] at this; cases this), ordR_filter _ _ _ _ (fun x hx h1 => by
      have := hsrt.2.1.1 x hx
      rw [h1, better_irr] at this; cases this), List.nil_append, List.append_nil, List.filter_eq_self]
    intro o ho
    unfold ordQ at ho
    obtain ⟨e, _, rfl⟩ := List.mem_map.1 ho
    exact decide_eq_true ⟨rfl, rfl⟩
  · intro g hg
    obtain ⟨r, hr, rfl⟩ := List.mem_map.1 hg
    have := h.live _ (rung_q hs hr) (by simp)
    unfold ordQ
    simpa using this
  · intro g hg o ho
    obtain ⟨r, hr, rfl⟩ := List.mem_map.1 hg
    dsimp only at ho
    unfold ordQ at ho
    obtain ⟨e, _, rfl⟩ := List.mem_map.1 ho
    exact ⟨rfl, rfl⟩
  · rw [sideO_eq a hs, List.flatMap_map]
    rfl
  · rw [List.pairwise_map]
    exact h.srt s hs
theorem OB.lvls {W w : World} {pb : Nat} {L : List Od} (h : OB W w pb L) {s : Int} (hs : s = 1 ∨ s = 2) : ∃ G, Lvls L s G := by
  obtain ⟨d, h1, _, _⟩ := h
  exact ⟨_, by rw [← h1.ord]; exact h1.inv.lvls hs⟩
theorem OB.parts {W w : World} {pb : Nat} {L : List Od} (h : OB W w pb L) : L = sideO L 1 ++ sideO L 2 := by
  obtain ⟨d, h1, _, _⟩ := h
  rw [← h1.ord, sideO_eq _ (.inl rfl), sideO_eq _ (.inr rfl)]
  rfl
theorem OB.topu {W w : World} {pb : Nat} {L : List Od} (h : OB W w pb L) {x y : Od} (hx : x ∈ L) (hy : y ∈ L) (hs : x.side = y.side) (tx : x.top = true) (ty : y.top = true) : x = y := by
  obtain ⟨d, h1, _, _⟩ := h
  have h2 := h1.inv
  rw [← h1.ord] at hx hy
  have e1 := h2.tops x hx
  have e2 := h2.tops y hy
  rw [tx] at e1
  rw [ty] at e2
  rw [← hs] at e2
  simp only [Bool.true_eq, Bool.and_eq_true, beq_iff_eq] at e1 e2
  exact h2.one hx hy (e1.2.symm.trans e2.2)
/-! ### the order of a book -/
def lePO (x y : Od) : Prop := x.side < y.side ∨ (x.side = y.side ∧ betterP x.side y.price x.price = false)
theorem Lvls.sorted {L : List Od} {s : Int} {G : List (Int × List Od)} (h : Lvls L s G) : (sideO L s).Pairwise lePO := by
  rw [h.all, List.pairwise_flatMap]
  refine ⟨fun g hg => ?_, ?_⟩
  · rw [List.pairwise_iff_getElem]
    intro i j hi hj _
    obtain ⟨a1, a2⟩ := h.sp g hg _ (List.getElem_mem hi)
    obtain ⟨b1, b2⟩ := h.sp g hg _ (List.getElem_mem hj)
    exact .inr ⟨a1.trans b1.symm, by rw [a2, b2]; exact better_irr _ _⟩
  · rw [List.pairwise_iff_getElem]
    intro i j hi hj hij x hx y hy
    obtain ⟨a1, a2⟩ := h.sp _ (List.getElem_mem hi) x hx
    obtain ⟨b1, b2⟩ := h.sp _ (List.getElem_mem hj) y hy
    refine .inr ⟨a1.trans b1.symm, ?_⟩
    rw [a1, a2, b2]
    exact better_asym (List.pairwise_iff_getElem.1 h.srt i j hi hj hij)
theorem OB.sorted {W w : World} {pb : Nat} {L : List Od} (h : OB W w pb L) : L.Pairwise lePO := by
  obtain ⟨G1, g1⟩ := h.lvls (.inl rfl)
  obtain ⟨G2, g2⟩ := h.lvls (.inr rfl)
  rw [h.parts, List.pairwise_append]
  refine ⟨g1.sorted, g2.sorted, fun x hx y hy => .inl ?_⟩
  have h1 := (List.mem_filter.1 hx).2
  have h2 := (List.mem_filter.1 hy).2
  have h1 : x.side = 1 := by simpa using h1
  have h2 : y.side = 2 := by simpa using h2
  omega
theorem ahead_mono {side price : Int} {x y : Od} (h : lePO x y) (hx : aheadO side price x = false) : aheadO side price y = false := by
  unfold aheadO at *
  simp only [Bool.or_eq_false_iff, decide_eq_false_iff_not, Bool.and_eq_false_iff, Bool.not_eq_false'] at hx ⊢
  obtain ⟨h1, h2⟩ := hx
  rcases h with h3 | ⟨h3, h4⟩
  · exact ⟨by omega, .inl (by omega)⟩
  · refine ⟨by omega, ?_⟩
    by_cases hc : y.side = side
    · refine .inr ?_
      rcases h2 with h2 | h2
      · omega
      · rw [h3, hc] at h4
        by_cases he : y.price = x.price
        · rw [he]; exact h2
        · exact better_trans h2 (better_total h4 he)
    · exact .inl hc
theorem pos_after {L : List Od} (h : L.Pairwise lePO) (side price : Int) : (∀ o ∈ L.take (refPos L side price), aheadO side price o = true) ∧ ∀ o ∈ L.drop (refPos L side price), aheadO side price o = false := by
  have hpd : ∀ P D : List Od, P ++ D = L → L.take P.length = P ∧ L.drop P.length = D := by
    rintro P D rfl
    exact ⟨List.take_left, List.drop_left⟩
  obtain ⟨e1, e2⟩ := hpd _ _ (List.takeWhile_append_dropWhile (p := aheadO side price) (l := L))
  unfold refPos
  rw [e1, e2]
  refine ⟨fun o ho => ?_, fun o ho => ?_⟩
  · have := List.all_takeWhile (p := aheadO side price) (l := L)
    rw [List.all_eq_true] at this
    exact this o ho
  · cases hd : L.dropWhile (aheadO side price) with
    | nil => rw [hd] at ho; simp at ho
    | cons y D =>
      have hy : aheadO side price y = false := by
        have h2 := List.head?_dropWhile_not (p := aheadO side price) (l := L)
        rw [hd] at h2
        simpa using h2
      rw [hd] at ho
      have hs : (y :: D).Pairwise lePO := by
        rw [← hd]
        exact h.sublist (List.dropWhile_sublist _)
      rcases List.mem_cons.1 ho with rfl | h3
      · exact hy
      · exact ahead_mono ((List.pairwise_cons.1 hs).1 o h3) hy
/-! ### first come first; the top is best -/
def fifoP (x y : Od) : Prop := x.side = y.side → x.price = y.price → x.id < y.id
structure RInv (L : List Od) (i : Nat) : Prop where
  ids : ∀ o ∈ L, 0 ≤ o.id ∧ o.id < i
  len : L.length ≤ i
  fifo : L.Pairwise fifoP
  best : ∀ o ∈ L, o.top = true → ∀ o' ∈ L, o'.side = o.side → betterP o.side o'.price o.price = false
theorem RInv.nil : RInv [] 0 := ⟨fun o ho => by simp at ho, Nat.le_refl _, List.Pairwise.nil, fun o ho => by simp at ho⟩
theorem RInv.add {L : List Od} {i : Nat} (h : RInv L i) (hi : i < 60) (hsrt : L.Pairwise lePO) {side : Int} (hs : side = 1 ∨ side = 2) (price : Int) {qty : Int} (hq : 1 ≤ qty ∧ qty ≤ 1000000) : RInv (refAdd L i side price qty).1 (i + 1) := by
  have hg := add_good (L := L) (id := (i : Int)) (price := price) (qty := qty) hs hq (fun o ho => by have := h.ids o ho; omega) (by have := h.len; omega)
  rw [hg]
  obtain ⟨p1, p2⟩ := pos_after hsrt side price
  refine ⟨?_, ?_, ?_, ?_⟩
  · intro o ho
    rcases mem_add ho with rfl | ⟨o', ho', rfl⟩
    · dsimp only; omega
    · have h2 := h.ids o' ho'
      split
      · rw [(untop_keeps side o').2.2.1]; omega
      · omega
  · rw [len_add]
    have := h.len
    omega
  · dsimp only
    have hL1 : ∃ f : Od → Od, (if refTop L side price = true then L.map (untop side) else L) = L.map f ∧ ∀ o, (f o).side = o.side ∧ (f o).price = o.price ∧ (f o).id = o.id := by
      split
      · exact ⟨untop side, rfl, fun o => ⟨(untop_keeps side o).1, (untop_keeps side o).2.1, (untop_keeps side o).2.2.1⟩⟩
      · exact ⟨fun o => o, by simp, fun o => ⟨rfl, rfl, rfl⟩⟩
    obtain ⟨f, hf, hk⟩ := hL1
    rw [hf, ← List.map_take, ← List.map_drop]
    have hfp : L.take (refPos L side price) ++ L.drop (refPos L side price) = L := List.take_append_drop _ _
    have hp := h.fifo
    rw [← hfp, List.pairwise_append] at hp
    have hff : ∀ x y, fifoP x y → fifoP (f x) (f y) := fun x y hxy => by
      unfold fifoP
      rw [(hk x).1, (hk x).2.1, (hk x).2.2, (hk y).1, (hk y).2.1, (hk y).2.2]
      exact hxy
    rw [List.append_assoc, List.pairwise_append, List.pairwise_append, List.pairwise_map, List.pairwise_map]
    refine ⟨hp.1.imp (fun h => hff _ _ h), ⟨List.pairwise_singleton _ _, hp.2.1.imp (fun h => hff _ _ h), ?_⟩, ?_⟩
    · intro x hx y hy
      rw [List.mem_singleton] at hx
      subst hx
      obtain ⟨y0, hy0, rfl⟩ := List.mem_map.1 hy
      intro e1 e2
      rw [(hk y0).1] at e1
      rw [(hk y0).2.1] at e2
      dsimp only at e1 e2
      have := p2 y0 hy0
      unfold aheadO at this
      rw [← e1, ← e2, better_irr] at this
      simp at this
    · intro x hx y hy
      obtain ⟨x0, hx0, rfl⟩ := List.mem_map.1 hx
      rcases List.mem_append.1 hy with h1 | h1
      · rw [List.mem_singleton] at h1
        subst h1
        intro _ _
        rw [(hk x0).2.2]
        exact (h.ids x0 (List.mem_of_mem_take hx0)).2
      · obtain ⟨y0, hy0, rfl⟩ := List.mem_map.1 h1
        exact hff _ _ (hp.2.2 x0 hx0 y0 hy0)
  · intro o ho ht o' ho' hss
    cases hrt : refTop L side price with
    | true =>
      rw [hrt] at ho ho'
      have hall : ∀ z ∈ L, z.side = side → betterP side price z.price = true := by
        intro z hz hzs
        unfold refTop at hrt
        have := List.all_eq_true.1 hrt z hz
        simpa [hzs] using this
      rcases mem_add ho with rfl | ⟨o1, ho1, rfl⟩
      · dsimp only at hss ⊢
        rcases mem_add ho' with rfl | ⟨o2, ho2, rfl⟩
        · exact better_irr _ _
        · rw [if_pos rfl] at hss ⊢
          rw [(untop_keeps side o2).1] at hss
          rw [(untop_keeps side o2).2.1]
          exact better_asym (hall o2 ho2 hss)
      · rw [if_pos rfl] at ht hss ⊢
        have hns : ¬ o1.side = side := by
          intro h1
          unfold untop at ht
          rw [if_pos h1] at ht
          cases ht
        have hto : o1.top = true := by
          unfold untop at ht
          rw [if_neg hns] at ht
          exact ht
        rw [(untop_keeps side o1).1] at hss ⊢
        rw [(untop_keeps side o1).2.1]
        rcases mem_add ho' with rfl | ⟨o2, ho2, rfl⟩
        · exact absurd hss.symm hns
        · rw [if_pos rfl] at hss ⊢
          rw [(untop_keeps side o2).1] at hss
          rw [(untop_keeps side o2).2.1]
          exact h.best o1 ho1 hto o2 ho2 hss
    | false =>
      rw [hrt] at ho ho'
      rcases mem_add ho with rfl | ⟨o1, ho1, he1⟩
      · cases ht
      · rw [if_neg (by simp)] at he1
        subst he1
        rcases mem_add ho' with rfl | ⟨o2, ho2, he2⟩
        · dsimp only at hss ⊢
          cases hb : betterP o.side price o.price with
          | false => rfl
          | true =>
            exfalso
            have : refTop L side price = true := by
              unfold refTop
              rw [List.all_eq_true]
              intro z hz
              by_cases hzs : z.side = side
              · have h1 := h.best o ho1 ht z hz (hzs.trans hss)
                have h2 : betterP side price z.price = true := by
                  rw [← hss] at hb h1
                  by_cases he : z.price = o.price
                  · rw [he]; exact hb
                  · exact better_trans hb (better_total h1 he)
                simp [h2]
              · simp [hzs]
            rw [hrt] at this; cases this
        · rw [if_neg (by simp)] at he2
          subst he2
          exact h.best o ho1 ht o' ho2 hss
theorem RInv.fill {L : List Od} {i : Nat} (h : RInv L i) (id qty : Int) : RInv (refFill L id qty).1 i := by
  have hb : ∀ (o : Od), o ∈ (refFill L id qty).1 → ∃ o' ∈ L, o.side = o'.side ∧ o.price = o'.price ∧ o.id = o'.id ∧ o.top = o'.top := by
    intro o ho
    obtain ⟨o', h1, h2 | h2⟩ := mem_fill ho
    · exact ⟨o', h1, by rw [h2]; exact ⟨rfl, rfl, rfl, rfl⟩⟩
    · exact ⟨o', h1, by rw [h2]; exact ⟨rfl, rfl, rfl, rfl⟩⟩
  refine ⟨fun o ho => ?_, Nat.le_trans (len_fill L id qty) h.len, ?_, fun o ho ht o' ho' hss => ?_⟩
  · obtain ⟨o', h1, _, _, h2, _⟩ := hb o ho
    rw [h2]; exact h.ids o' h1
  · unfold refFill
    split
    · exact h.fifo
    · split
      · exact h.fifo
      · split
        · exact h.fifo.sublist (List.filter_sublist ..)
        · rw [List.pairwise_map]
          refine h.fifo.imp fun {x y} hxy => ?_
          unfold fifoP at *
          split <;> split <;> exact hxy
  · obtain ⟨x, x1, x2, x3, _, x5⟩ := hb o ho
    obtain ⟨y, y1, y2, y3, _, _⟩ := hb o' ho'
    rw [x2, x3, y3]
    exact h.best x x1 (x5 ▸ ht) y y1 (by rw [← y2, ← x2]; exact hss)
theorem RInv.more {L : List Od} {i j : Nat} (h : RInv L i) (hj : i ≤ j) : RInv L j := ⟨fun o ho => by have := h.ids o ho; omega, Nat.le_trans h.len hj, h.fifo, h.best⟩
/-! ### what the law looks at -/
theorem Lvls.mem {L : List Od} {s : Int} {G : List (Int × List Od)} (h : Lvls L s G) {g : Int × List Od} (hg : g ∈ G) {o : Od} (ho : o ∈ g.2) : o ∈ L := by
  have : o ∈ sideO L s := by rw [h.all]; exact List.mem_flatMap.2 ⟨g, hg, ho⟩
  exact (List.mem_filter.1 this).1
theorem Lvls.fifo {L : List Od} {s : Int} {G : List (Int × List Od)} {i : Nat} (h : Lvls L s G) (hr : RInv L i) {g : Int × List Od} (hg : g ∈ G) : g.2.Pairwise (fun x y => x.id < y.id) := by
  have h1 : (sideO L s).Pairwise fifoP := hr.fifo.sublist (List.filter_sublist ..)
  rw [h.all, List.pairwise_flatMap] at h1
  have h2 := h1.1 g hg
  rw [List.pairwise_iff_getElem] at h2 ⊢
  intro a b ha hb hab
  obtain ⟨a1, a2⟩ := h.sp g hg _ (List.getElem_mem ha)
  obtain ⟨b1, b2⟩ := h.sp g hg _ (List.getElem_mem hb)
  exact h2 a b ha hb hab (a1.trans b1.symm) (a2.trans b2.symm)
theorem Lvls.notop {L : List Od} {s : Int} {G : List (Int × List Od)} {i : Nat} (h : Lvls L s G) (hr : RInv L i) {j : Nat} (hj : 0 < j) {g : Int × List Od} (hg : G[j]? = some g) {o : Od} (ho : o ∈ g.2) : o.top = false := by
  cases ht : o.top with
  | false => rfl
  | true =>
    exfalso
    have hjl := lt_of_get hg
    have hgm : g ∈ G := List.mem_of_getElem? hg
    have h0 : G[0]? = some (G[0]'(by omega)) := List.getElem?_eq_getElem (by omega)
    have h0m := List.mem_of_getElem? h0
    obtain ⟨o', ho'⟩ := List.exists_mem_of_ne_nil _ (h.ne _ h0m)
    obtain ⟨a1, a2⟩ := h.sp g hgm o ho
    obtain ⟨b1, b2⟩ := h.sp _ h0m o' ho'
    have h1 := hr.best o (h.mem hgm ho) ht o' (h.mem h0m ho') (b1.trans a1.symm)
    have h2 := List.pairwise_iff_getElem.1 h.srt 0 j (by omega) hjl hj
    have h3 : G[j] = g := by rw [List.getElem?_eq_getElem hjl] at hg; injection hg
    rw [h3] at h2
    rw [a1, a2, b2, h2] at h1
    cases h1
theorem top_one {L : List Od} (hn : (L.map Od.id).Nodup) (hu : ∀ x ∈ L, ∀ y ∈ L, x.top = true → y.top = true → x = y) : L.countP (fun o => o.top) ≤ 1 := by
  induction L with
  | nil => simp
  | cons x L ih =>
    rw [List.map_cons, List.nodup_cons] at hn
    have h1 := ih hn.2 fun a ha b hb => hu a (List.mem_cons_of_mem _ ha) b (List.mem_cons_of_mem _ hb)
    rw [List.countP_cons]
    by_cases hx : x.top = true
    · have h0 : L.countP (fun o => o.top) = 0 := by
        rw [List.countP_eq_zero]
        intro y hy hty
        have := hu x (List.mem_cons_self ..) y (List.mem_cons_of_mem _ hy) hx hty
        exact hn.1 (List.mem_map.2 ⟨y, hy, by rw [this]⟩)
      rw [h0, if_pos hx]
      exact Nat.le_refl _
    · rw [if_neg hx]
      omega
theorem OB.tops1 {W w : World} {pb : Nat} {L : List Od} (h : OB W w pb L) (s : Int) : (sideO L s).countP (fun o => o.top) ≤ 1 := by
  refine top_one (h.ids.sublist ((List.filter_sublist ..).map _)) fun x hx y hy tx ty => ?_
  have h1 := List.mem_filter.1 hx
  have h2 := List.mem_filter.1 hy
  have e1 : x.side = s := by simpa using h1.2
  have e2 : y.side = s := by simpa using h2.2
  exact h.topu h1.1 h2.1 (e1.trans e2.symm) tx ty
end Go.Proofs.Ytmhljdkhekjfmaa

/- Plain: what BookRules counts on its way. -/
namespace Go.Proofs.Ytmhljdkhekjfmaa
open Go.RowKit

theorem take_next {α : Type} {l : List α} {k : Nat} {x : α} (h : l[k]? = some x) : l.take (k + 1) = l.take k ++ [x] := by
  rw [List.take_add_one, h]; rfl
/-- a side's levels as the law counts them -/
structure LvF (L : List Od) (s : Int) (M : List Lv) (G : List (Int × List Od)) (NF TF : Nat → Nat) : Prop where
  len : M.length = G.length
  small : M.length ≤ 250
  n0 : NF 0 = 0
  t0 : TF 0 = 0
  row : ∀ (j : Nat) (p : Int) (A : List Od), G[j]? = some (p, A) → M[j]? = some ⟨p, sumQ A, A.length⟩ ∧ NF (j + 1) = NF j + A.length ∧ TF (j + 1) = TF j + A.countP (fun o => o.top)
  nmax : ∀ j, NF j ≤ 250
  tmax : ∀ j, TF j ≤ 1
  nend : NF M.length = (sideO L s).length
theorem flat_len {G : List (Int × List Od)} (h : ∀ g ∈ G, g.2 ≠ []) : G.length ≤ (G.flatMap (fun g => g.2)).length := by
  induction G with
  | nil => simp
  | cons g G ih =>
    have h1 := ih fun x hx => h x (List.mem_cons_of_mem _ hx)
    have h2 := List.length_pos_iff.2 (h g (List.mem_cons_self ..))
    rw [List.flatMap_cons, List.length_append, List.length_cons]
    omega
theorem OB.lvf {W w : World} {pb : Nat} {L : List Od} (h : OB W w pb L) {s : Int} {G : List (Int × List Od)} (hG : Lvls L s G) : ∃ NF TF, LvF L s (ladO L s) G NF TF := by
  have hl := h.len
  have hs : (sideO L s).length ≤ L.length := List.length_filter_le _ _
  have hp : ∀ j, (G.take j).flatMap (fun g => g.2) <+: sideO L s := by
    intro j
    rw [hG.all]
    refine ⟨(G.drop j).flatMap (fun g => g.2), ?_⟩
    rw [← List.flatMap_append, List.take_append_drop]
  refine ⟨fun j => ((G.take j).flatMap (fun g => g.2)).length, fun j => ((G.take j).flatMap (fun g => g.2)).countP (fun o => o.top), ?_, ?_, rfl, rfl, ?_, ?_, ?_, ?_⟩
  · rw [hG.lad, List.length_map]
  · rw [hG.lad, List.length_map]
    have := flat_len hG.ne
    rw [← hG.all] at this
    omega
  · intro j p A hj
    refine ⟨?_, ?_, ?_⟩
    · rw [hG.lad, List.getElem?_map, hj]; rfl
    · try dsimp only
      rw [take_next hj, List.flatMap_append, List.length_append]
      simp
    · try dsimp only
      rw [take_next hj, List.flatMap_append, List.countP_append]
      simp
  · intro j
    have := (hp j).length_le
    try dsimp only
    omega
  · intro j
    have h1 := (hp j).sublist.countP_le (p := fun o => o.top)
    have h2 := h.tops1 s
    try dsimp only
    omega
  · try dsimp only
    rw [hG.lad, List.length_map, List.take_length, hG.all]
/-- a level's orders as the law counts them -/
structure AtF (A : List Od) (SF : Nat → Int) (CF : Nat → Nat) : Prop where
  s0 : SF 0 = 0
  c0 : CF 0 = 0
  row : ∀ (k : Nat) (o : Od), A[k]? = some o → SF (k + 1) = SF k + o.qty ∧ CF (k + 1) = CF k + (if o.top = true then 1 else 0)
  sb : ∀ k, 0 ≤ SF k ∧ SF k ≤ 250000000
  cb : ∀ k, CF k ≤ 250
  send : SF A.length = sumQ A
  cend : CF A.length = A.countP (fun o => o.top)
theorem sumQ_bd {A : List Od} (h : ∀ o ∈ A, 1 ≤ o.qty ∧ o.qty ≤ 1000000) : 0 ≤ sumQ A ∧ sumQ A ≤ 1000000 * A.length := by
  induction A with
  | nil => exact ⟨Int.le_refl _, Int.le_refl _⟩
  | cons x A ih =>
    have h1 := ih fun o ho => h o (List.mem_cons_of_mem _ ho)
    have h2 := h x (List.mem_cons_self ..)
    unfold sumQ at *
    rw [List.map_cons, List.sum_cons, List.length_cons]
    omega
theorem atf {A : List Od} (h : ∀ o ∈ A, 1 ≤ o.qty ∧ o.qty ≤ 1000000) (hl : A.length ≤ 250) : ∃ SF CF, AtF A SF CF := by
  have ht : ∀ k, (A.take k).length ≤ 250 := fun k => by rw [List.length_take]; omega
  refine ⟨fun k => sumQ (A.take k), fun k => (A.take k).countP (fun o => o.top), rfl, rfl, ?_, ?_, ?_, ?_, ?_⟩
  · intro k o ho
    refine ⟨?_, ?_⟩
    · try dsimp only
      rw [take_next ho]
      unfold sumQ
      rw [List.map_append, List.sum_append]
      simp
    · try dsimp only
      rw [take_next ho, List.countP_append, List.countP_cons]
      simp
  · intro k
    have := sumQ_bd (A := A.take k) fun o ho => h o (List.mem_of_mem_take ho)
    have := ht k
    try dsimp only
    omega
  · intro k
    exact Nat.le_trans (List.countP_le_length) (ht k)
  · try dsimp only
    rw [List.take_length]
  · try dsimp only
    rw [List.take_length]
theorem Lvls.qtys {W w : World} {pb : Nat} {L : List Od} (h : OB W w pb L) {s : Int} {G : List (Int × List Od)} (hG : Lvls L s G) {g : Int × List Od} (hg : g ∈ G) : (∀ o ∈ g.2, 1 ≤ o.qty ∧ o.qty ≤ 1000000) ∧ g.2.length ≤ 250 := by
  refine ⟨fun o ho => h.qty (hG.mem hg ho), ?_⟩
  have h1 : g.2.length ≤ (G.flatMap (fun g => g.2)).length := by
    obtain ⟨A, B, rfl⟩ := List.append_of_mem hg
    rw [List.flatMap_append, List.flatMap_cons, List.length_append, List.length_append]
    omega
  rw [← hG.all] at h1
  have h2 : (sideO L s).length ≤ L.length := List.length_filter_le _ _
  have := h.len
  omega
theorem OB.ns {W w : World} {pb : Nat} {L : List Od} (h : OB W w pb L) : ∃ NS : Nat → Nat, NS 1 = 0 ∧ (∀ j : Nat, (j : Int) = 1 ∨ (j : Int) = 2 → NS (j + 1) = NS j + (sideO L j).length) ∧ NS 3 = L.length ∧ ∀ j, NS j ≤ 250 := by
  have hp := congrArg List.length h.parts
  rw [List.length_append] at hp
  have hl := h.len
  refine ⟨fun s => if s = 1 then 0 else if s = 2 then (sideO L 1).length else L.length, rfl, ?_, rfl, ?_⟩
  · rintro j (hj | hj)
    · obtain rfl : j = 1 := by omega
      exact (Nat.zero_add _).symm
    · obtain rfl : j = 2 := by omega
      exact hp
  · intro j
    try dsimp only
    split
    · omega
    · split <;> omega
/-- the level ahead is better -/
theorem Lvls.worse {L : List Od} {s : Int} {G : List (Int × List Od)} (h : Lvls L s G) {j : Nat} {p p' : Int} {A A' : List Od} (h1 : G[j]? = some (p, A)) (h2 : G[j + 1]? = some (p', A')) : (s = 1 → p' < p) ∧ (s = 2 → p < p') := by
  have b1 := lt_of_get h1
  have b2 := lt_of_get h2
  have h3 := List.pairwise_iff_getElem.1 h.srt j (j + 1) b1 b2 (by omega)
  rw [List.getElem?_eq_getElem b1] at h1
  rw [List.getElem?_eq_getElem b2] at h2
  injection h1 with h1
  injection h2 with h2
  rw [h1, h2] at h3
  unfold betterP at h3
  refine ⟨fun hs => ?_, fun hs => ?_⟩
  · rw [if_pos hs] at h3; simpa using h3
  · rw [if_neg (by omega)] at h3; simpa using h3
theorem Lvls.rises {L : List Od} {s : Int} {G : List (Int × List Od)} {i : Nat} (h : Lvls L s G) (hr : RInv L i) {g : Int × List Od} (hg : g ∈ G) {k : Nat} {x y : Od} (h1 : g.2[k]? = some x) (h2 : g.2[k + 1]? = some y) : x.id < y.id := by
  have b1 := lt_of_get h1
  have b2 := lt_of_get h2
  have h3 := List.pairwise_iff_getElem.1 (h.fifo hr hg) k (k + 1) b1 b2 (by omega)
  rw [List.getElem?_eq_getElem b1] at h1
  rw [List.getElem?_eq_getElem b2] at h2
  injection h1 with h1
  injection h2 with h2
  rw [h1, h2] at h3
  exact h3
end Go.Proofs.Ytmhljdkhekjfmaa
