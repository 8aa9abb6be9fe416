/- Merged: OpenK Known9 SameO With Tops9. -/
import Derived.Test.YtmhljdkhekjfmaaMF
import Derived.Deep.Slices
import Derived.Deep.Fields
import Derived.ChangeSame
import Derived.OpenShut
import Derived.BigQuiet
import Derived.Test.YtmhljdkhekjfmaaMA
/- A parameter that is a row of chapter 9's asks, opened. -/
namespace Go.Proofs.Ytmhljdkhekjfmaa
open Go.ChangeShapes Go.WideShapes Go.RowKit

def i64ok (x : Int) : Prop := -9223372036854775808 ≤ x ∧ x ≤ 9223372036854775807
structure Ak where
  kind : Int
  side : Int
  id : Int
  price : Int
  qty : Int
deriving DecidableEq
def Ak.cells (x : Ak) : List Value := [.int .i64 x.kind, .int .i64 x.side, .int .i64 x.id, .int .i64 x.price, .int .i64 x.qty]
def Ak.ok (x : Ak) : Prop := i64ok x.kind ∧ i64ok x.side ∧ i64ok x.id ∧ i64ok x.price ∧ i64ok x.qty
def zeroAk : Ak := ⟨0, 0, 0, 0, 0⟩
theorem i64ok_zero9 : i64ok 0 := by unfold i64ok; omega
theorem Ak.ones (x : Ak) : ∀ u ∈ x.cells, u.oneCell' = true := by
  intro u hu
  simp only [Ak.cells, List.mem_cons, List.not_mem_nil, or_false] at hu
  rcases hu with rfl | rfl | rfl | rfl | rfl <;> rfl
def AK : Lay Ak := ⟨Ak.cells, 5, fun _ => rfl, Ak.ones, by omega, 28, 22, .agg zeroAk.cells.toArray, 40, Try.underlying22, by kernel_rfl, by rfl, by omega⟩
theorem ak_fields : ∃ fs : Array Field, Try.prog.underlying 28 = some (.struct fs) ∧ fs.map (fun f => (f.type, f.offset)) = #[(3, 0), (3, 1), (2, 2), (2, 3), (2, 4)] :=
  ⟨_, Try.underlying28, by kernel_rfl⟩
theorem five_of {α : Type} {l : List α} (h : l.length = 5) : ∃ a b c d e, l = [a, b, c, d, e] := by
  match l, h with
  | [a, b, c, d, e], _ => exact ⟨a, b, c, d, e, rfl⟩
theorem ak_open {H : Type} {enc : TypeId × Value → H} {w : World} {spare : Nat → Bool} {held : Bool} {n : Nat} {cs : List Value} {y : DataW H × List MemPlace} (h : DataW.trod enc Try.prog w 0 spare held n 28 cs = some y) : ∃ x : Ak, cs = x.cells ∧ x.ok := by
  obtain ⟨fs, hstr, htys⟩ := ak_fields
  obtain ⟨xs, m, _, _, hlen, hxl, hf⟩ := DataW.trod_struct hstr h
  have hC : Try.prog.cellsOf 28 = 5 := by kernel_rfl
  rw [hC] at hlen
  obtain ⟨c0, c1, c2, c3, c4, rfl⟩ := five_of hlen
  have hsz : fs.size = 5 := by
    have := congrArg Array.size htys
    simpa using this
  have hfld : ∀ (j : Nat) (t : TypeId) (o : Nat), (#[(3, 0), (3, 1), (2, 2), (2, 3), (2, 4)] : Array (TypeId × Nat))[j]? = some (t, o) → ∃ z, DataW.trod enc Try.prog w 0 spare held m t (([c0, c1, c2, c3, c4].drop o).take (Try.prog.cellsOf t)) = some z := by
    intro j t o hj
    rw [← htys, Array.getElem?_map, Option.map_eq_some_iff] at hj
    obtain ⟨f, hf1, hf2⟩ := hj
    injection hf2 with h1 h2
    have := hf j f hf1
    rw [h1, h2] at this
    have hjl : j < xs.length := by have := (Array.getElem?_eq_some_iff.1 hf1).1; omega
    rw [List.getElem?_eq_getElem hjl] at this
    exact ⟨_, this⟩
  have hb : Try.prog.cellsOf 3 = 1 := by kernel_rfl
  have hi : Try.prog.cellsOf 2 = 1 := by kernel_rfl
  obtain ⟨_, h0⟩ := hfld 0 _ _ rfl
  obtain ⟨_, h1⟩ := hfld 1 _ _ rfl
  obtain ⟨_, h2⟩ := hfld 2 _ _ rfl
  obtain ⟨_, h3⟩ := hfld 3 _ _ rfl
  obtain ⟨_, h4⟩ := hfld 4 _ _ rfl
  rw [hb] at h0 h1
  rw [hi] at h2 h3 h4
  obtain ⟨x0, e0, _, f0⟩ := DataW.trod_int Try.underlying3 h0
  obtain ⟨x1, e1, _, f1⟩ := DataW.trod_int Try.underlying3 h1
  obtain ⟨x2, e2, _, f2⟩ := DataW.trod_int Try.underlying2 h2
  obtain ⟨x3, e3, _, f3⟩ := DataW.trod_int Try.underlying2 h3
  obtain ⟨x4, e4, _, f4⟩ := DataW.trod_int Try.underlying2 h4
  have e0' : c0 = .int .i64 x0 := by simpa using e0
  have e1' : c1 = .int .i64 x1 := by simpa using e1
  have e2' : c2 = .int .i64 x2 := by simpa using e2
  have e3' : c3 = .int .i64 x3 := by simpa using e3
  have e4' : c4 = .int .i64 x4 := by simpa using e4
  clear e0 e1 e2 e3 e4 h0 h1 h2 h3 h4
  subst e0' e1' e2' e3' e4'
  exact ⟨⟨x0, x1, x2, x3, x4⟩, rfl, bounds_i64 f0, bounds_i64 f1, bounds_i64 f2, bounds_i64 f3, bounds_i64 f4⟩
set_option maxRecDepth 100000 in
theorem open_asks9 {H : Type} {enc : TypeId × Value → H} {w : World} {spare : Nat → Bool} {held : Bool} {v : Value} {d : DataW H} {p : List MemPlace} (h : DataW.Trod enc Try.prog w 0 spare held 22 v d p) {b0 : Nat} (hv : Value.okWide Try.prog w .any b0 22 v) :
    ∃ (a : Option Addr) (L : List Ak) (c : Nat), v = .slice a L.length c ∧ AK.Rd w a L ∧ (∀ x ∈ L, x.ok) ∧ L.length ≤ 9223372036854775807 ∧ L.length ≤ c := by
  obtain ⟨a0, n0, c0, rfl⟩ := okWide_slice Try.underlying22 hv
  obtain ⟨fuel, hf⟩ := h
  rcases Go.Deep.open_slice Try.underlying22 hf with ⟨h0, _⟩ | ⟨a, len, cap, m, n, D, Pl, hcs, _, hl, hm, hmm, _, hi⟩
  · have h0' : a0 = none ∧ n0 = 0 ∧ c0 = 0 := by
      simp [Value.cells] at h0; exact h0
    obtain ⟨rfl, rfl, rfl⟩ := h0'
    exact ⟨none, [], 0, rfl, Lay.Rd.nil, fun x hx => by simp at hx, by simp, by simp⟩
  · have h0' : a0 = some a ∧ n0 = len ∧ c0 = cap := by
      simp [Value.cells] at hcs; exact hcs
    obtain ⟨rfl, rfl, rfl⟩ := h0'
    have hnm : n0 ≤ m := by rw [hmm]; split <;> omega
    obtain ⟨b, off, sp⟩ := a
    have hC : Try.prog.cellsOf 28 = 5 := by kernel_rfl
    rw [hC] at hi
    have hex : ∀ k : Nat, ∃ x : Ak, x.ok ∧ (k < n0 → sp = none ∧ b < w.heap.size ∧ CellsAt w b (off + k * 5) x.cells) := by
      intro k
      by_cases hk : k < n0
      · obtain ⟨cs', hc, ht⟩ := hi k (by omega)
        obtain ⟨x, rfl, hx⟩ := ak_open ht
        obtain ⟨_, _, hat⟩ := World.cells?_some hc
        have hsp : sp = none := by
          obtain ⟨cs0, hc0, ht0⟩ := hi 0 (by omega)
          obtain ⟨x0, rfl, _⟩ := ak_open ht0
          obtain ⟨_, _, hat0⟩ := World.cells?_some hc0
          have h1 := hat0 0 (by omega)
          exact World.cell?_spot (a := ⟨b, off, sp⟩) (h1.trans rfl)
        subst hsp
        refine ⟨x, hx, fun _ => ⟨rfl, ?_, fun j u hu => ?_⟩⟩
        · have h1 := hat 0 (by omega)
          rw [add_at] at h1
          rcases Nat.lt_or_ge b w.heap.size with h | h
          · exact h
          · unfold World.cell? at h1
            rw [show ((⟨b, off + k * 5, none⟩ : Addr).add 0).block = b from rfl, Array.getElem?_eq_none h] at h1
            cases h1
        · have hj : j < 5 := lt_of_get hu
          have h1 := hat j hj
          rw [add_at, add_at] at h1
          exact h1.trans hu
      · exact ⟨zeroAk, ⟨i64ok_zero9, i64ok_zero9, i64ok_zero9, i64ok_zero9, i64ok_zero9⟩, fun h => absurd h hk⟩
    have hml : maxLen ≤ 9223372036854775807 := by decide
    refine ⟨some ⟨b, off, sp⟩, (List.range n0).map (fun k => (hex k).choose), c0, by simp, ?_, ?_, by simp; omega, by simp; omega⟩
    · intro j e hj
      have hjl : j < n0 := by have := lt_of_get hj; simpa using this
      rw [List.getElem?_map, List.getElem?_range hjl] at hj
      simp at hj
      obtain ⟨_, h2⟩ := (hex j).choose_spec
      obtain ⟨rfl, h4, h5⟩ := h2 hjl
      rw [hj] at h5
      exact ⟨b, off, rfl, h4, h5⟩
    · intro x hx
      rw [List.mem_map] at hx
      obtain ⟨k, _, rfl⟩ := hx
      exact ((hex k).choose_spec).1
end Go.Proofs.Ytmhljdkhekjfmaa

/- The walk of cornhilllaw9.known. -/
namespace Go.Proofs.Ytmhljdkhekjfmaa
open Go.RowKit

def kn1 : List Od := [⟨1, 1, 5, 10, true⟩]
def kn2 : List Od := [⟨2, 1, 6, 10, true⟩, ⟨1, 1, 5, 10, false⟩]
def kn3 : List Od := [⟨2, 1, 6, 10, true⟩, ⟨3, 1, 6, 10, false⟩, ⟨1, 1, 5, 10, false⟩]
set_option maxRecDepth 100000 in
set_option maxHeartbeats 16000000 in
theorem known_any9 (w : World) :
    Calls Try.prog 16 #[] w fun e w' => e = .returned (.bool true) ∧ Below w.heap.size w w' := by
  have H1 : Hid (refAdd [] 1 1 5 10 = (kn1, 0)) := Lib.hid (by decide)
  have H2 : Hid (refAdd kn1 2 1 6 10 = (kn2, 0)) := Lib.hid (by decide)
  have H3 : Hid (refAdd kn2 3 1 6 10 = (kn3, 0)) := Lib.hid (by decide)
  have H4 : Hid (bestO kn3 1 = (⟨6, 20, 2⟩, true)) := Lib.hid (by decide)
  go_enter Try.func16, Try.ntmps16
  go_wp2_with fail
  refine (ob_new w w (Below.refl _ _)).mono ?_
  rintro e w1 ⟨pb, rfl, h, _⟩
  have O1 := Lib.hid h
  clear h
  go_wp2_with fail
  refine (ob_add O1.out 1 1 5 10).mono ?_
  rintro e w2 ⟨rfl, h, _⟩
  rw [H1.out] at h ⊢
  have O2 : Hid (OB w w2 pb kn1) := Lib.hid h
  clear h O1
  go_wp2_with fail
  refine (ob_add O2.out 2 1 6 10).mono ?_
  rintro e w3 ⟨rfl, h, _⟩
  rw [H2.out] at h ⊢
  have O3 : Hid (OB w w3 pb kn2) := Lib.hid h
  clear h O2
  go_wp2_with fail
  refine (ob_add O3.out 3 1 6 10).mono ?_
  rintro e w4 ⟨rfl, h, _⟩
  rw [H3.out] at h ⊢
  have O4 : Hid (OB w w4 pb kn3) := Lib.hid h
  clear h O3
  go_wp2_with fail
  refine (ob_orders O4.out).mono ?_
  rintro e w5 ⟨v, rfl, hr, hb⟩
  have O5 := Lib.hid (O4.out.below hb)
  have R5 := Lib.hid hr
  clear hr hb O4
  go_wp2_with fail
  have hbe := ob_best O5.out 1
  rw [H4.out, show ((⟨6, 20, 2⟩, true) : Lv × Bool).1.cells.toArray = #[.int .i64 6, .int .i64 20, .int .i64 2] from rfl] at hbe
  refine hbe.mono ?_
  rintro e w6 ⟨rfl, hb⟩
  clear hbe
  have O6 := Lib.hid (O5.out.below hb)
  have hr := R5.out.below hb
  obtain ⟨g, cap, rfl, hg, h0⟩ := hr.at_ 0 _ rfl
  obtain ⟨g', cap', e1, _, h1⟩ := hr.at_ 1 _ rfl
  obtain ⟨g'', cap'', e2, _, h2⟩ := hr.at_ 2 _ rfl
  have eg1 : g = g' := by injection e1 with e1; injection e1 with e1; injection e1
  have eg2 : g = g'' := by injection e2 with e2; injection e2 with e2; injection e2
  subst eg1 eg2
  clear e1 e2
  have hbw := Below.allocN w6 (.cells #[.int .i64 6, .int .i64 20, .int .i64 2] 30)
  have a0 : (w6.alloc (.cells #[.int .i64 6, .int .i64 20, .int .i64 2] 30)).cell? ⟨g, 0, none⟩ = some (.int .i64 2) := h0.below hbw hg 0 _ rfl
  have a1 : (w6.alloc (.cells #[.int .i64 6, .int .i64 20, .int .i64 2] 30)).cell? ⟨g, 4, none⟩ = some (.bool true) := h0.below hbw hg 4 _ rfl
  have a2 : (w6.alloc (.cells #[.int .i64 6, .int .i64 20, .int .i64 2] 30)).cell? ⟨g, 9, none⟩ = some (.bool false) := h1.below hbw hg 4 _ rfl
  have a3 : (w6.alloc (.cells #[.int .i64 6, .int .i64 20, .int .i64 2] 30)).cell? ⟨g, 14, none⟩ = some (.bool false) := h2.below hbw hg 4 _ rfl
  have O7 := Lib.hid (O6.out.below hbw)
  clear hr hb h0 h1 h2 hbw hg
  unfold kn3
  go_wp2_with fail
  go_ret
  exact ⟨by trivial, O7.out.bel⟩
end Go.Proofs.Ytmhljdkhekjfmaa

/- The walk of cornhillbook.Same of two equal rows of orders. -/
namespace Go.Proofs.Ytmhljdkhekjfmaa
open Go.RowKit

set_option maxRecDepth 100000 in
set_option maxHeartbeats 4000000 in
theorem same9 (Q : List Od) (aa : Option Addr) (ac : Nat) (ba : Option Addr) (bc : Nat) (w : World) (hA : OD.Rd w aa Q) (hB : OD.Rd w ba Q) (hl : Q.length ≤ 1000000) :
    Calls Try.prog 17 #[.slice aa Q.length ac, .slice ba Q.length bc] w fun e w' => e = .returned (.bool true) ∧ Below w.heap.size w w' := by
  have HA := Lib.hid hA
  have HB := Lib.hid hB
  have HW := Lib.hid (Below.refl w.heap.size w)
  clear hA hB
  go_enter Try.func17, Try.ntmps17
  go_wp2_with fail
  go_loopw [5] (fun j w' => ∃ i : Nat, j = .int .i64 i ∧ i ≤ Q.length ∧ Below w.heap.size w w') (fun j _ => Q.length - (intOf j).toNat)
  case atStart => exact ⟨0, rfl, Nat.zero_le _, HW.out⟩
  case round =>
    obtain ⟨i, rfl, hi, hb⟩ := hrel
    obtain ⟨wy, rfl⟩ : ∃ wo : World, wo = wr := ⟨_, rfl⟩
    have HBL := Lib.hid hb
    clear hb
    by_cases hin : i < Q.length
    · have hin' : (i : Int) < (Q.length : Int) := by omega
      obtain ⟨q, hq⟩ : ∃ q, Q[i]? = some q := ⟨_, List.getElem?_eq_getElem hin⟩
      obtain ⟨ga, oa, rfl, hga, hca⟩ := HA.out.below HBL.out i q hq
      obtain ⟨gb, ob, rfl, hgb, hcb⟩ := HB.out.below HBL.out i q hq
      have a0 : wy.cell? ⟨ga, oa + i * 5, none⟩ = some (.int .i64 q.id) := hca 0 _ rfl
      have a1 : wy.cell? ⟨ga, oa + i * 5 + 1, none⟩ = some (.int .i64 q.side) := hca 1 _ rfl
      have a2 : wy.cell? ⟨ga, oa + i * 5 + 2, none⟩ = some (.int .i64 q.price) := hca 2 _ rfl
      have a3 : wy.cell? ⟨ga, oa + i * 5 + 3, none⟩ = some (.int .i64 q.qty) := hca 3 _ rfl
      have a4 : wy.cell? ⟨ga, oa + i * 5 + 4, none⟩ = some (.bool q.top) := hca 4 _ rfl
      have b0 : wy.cell? ⟨gb, ob + i * 5, none⟩ = some (.int .i64 q.id) := hcb 0 _ rfl
      have b1 : wy.cell? ⟨gb, ob + i * 5 + 1, none⟩ = some (.int .i64 q.side) := hcb 1 _ rfl
      have b2 : wy.cell? ⟨gb, ob + i * 5 + 2, none⟩ = some (.int .i64 q.price) := hcb 2 _ rfl
      have b3 : wy.cell? ⟨gb, ob + i * 5 + 3, none⟩ = some (.int .i64 q.qty) := hcb 3 _ rfl
      have b4 : wy.cell? ⟨gb, ob + i * 5 + 4, none⟩ = some (.bool q.top) := hcb 4 _ rfl
      clear hga hgb hca hcb hq HA HB
      go_upto_region 6 with (fail)
      go_quiet (fail)
      clear a0 a1 a2 a3 a4 b0 b1 b2 b3 b4
      go_wp2_with fail
      go_roundw
      case rel => exact ⟨i + 1, by go_num, by omega, HBL.out.trans ((Below.drewN_of _ _).mono HBL.out.size)⟩
      case measure => simp [intOf]; omega
    · go_wp2_with fail
      go_ret
      exact ⟨by trivial, HBL.out⟩
end Go.Proofs.Ytmhljdkhekjfmaa

/- The walk of cornhillbook.Within: a number brought into lo .. hi. -/
namespace Go.Proofs.Ytmhljdkhekjfmaa
open Go.RowKit

def withI (n lo hi : Int) : Int := lo + n % (hi - lo + 1)
theorem withI_bd (n lo hi : Int) (h : lo ≤ hi) : lo ≤ withI n lo hi ∧ withI n lo hi ≤ hi := by
  unfold withI
  have h1 := Int.emod_nonneg n (show hi - lo + 1 ≠ 0 by omega)
  have h2 := Int.emod_lt_of_pos n (show 0 < hi - lo + 1 by omega)
  omega
set_option maxHeartbeats 400000 in
theorem within_any (n lo hi : Int) (w : World) (hn0 : -9223372036854775808 ≤ n) (hn1 : n ≤ 9223372036854775807) (h : lo ≤ hi) (h0 : -1000000000 ≤ lo) (h1 : hi ≤ 1000000000) :
    Calls Try.prog 11 #[.int .i64 n, .int .i64 lo, .int .i64 hi] w fun e w' => e = .returned (.int .i64 (withI n lo hi)) ∧ w = w' := by
  obtain ⟨m, hm⟩ : ∃ m : Int, hi - lo + 1 = m := ⟨_, rfl⟩
  have hm0 : 1 ≤ m := by omega
  have hm1 : m ≤ 2000000001 := by omega
  have hW : withI n lo hi = lo + n % m := by unfold withI; rw [hm]
  obtain ⟨t, ht⟩ : ∃ t : Int, n.tmod m = t := ⟨_, rfl⟩
  have hmz : (m == 0) = false := by rw [beq_eq_false_iff_ne]; omega
  have hmm : (m == -1) = false := by rw [beq_eq_false_iff_ne]; omega
  have htb : -m < t ∧ t < m := by
    subst ht
    have a := Int.tmod_lt_of_pos n (show 0 < m by omega)
    have b := Int.lt_tmod_of_pos n (show 0 < m by omega)
    omega
  have hW2 : withI n lo hi = if t < 0 then lo + (t + hi - lo + 1) else lo + t := by
    rw [hW, ← ht, Int.emod_eq_tmod]
    by_cases hn : 0 ≤ n
    · rw [if_pos (Or.inl hn)]
      have : 0 ≤ n.tmod m := Int.tmod_nonneg _ hn
      rw [if_neg (by omega)]; omega
    · by_cases hd : m ∣ n
      · rw [if_pos (Or.inr hd)]
        have : n.tmod m = 0 := Int.tmod_eq_zero_of_dvd hd
        rw [if_neg (by omega)]; omega
      · rw [if_neg (by rintro (h | h); exact hn h; exact hd h)]
        have h2 : n.tmod m ≤ 0 := by
          have h4 := Int.tmod_nonneg m (show 0 ≤ -n by omega)
          rw [Int.neg_tmod] at h4
          omega
        have h3 : n.tmod m ≠ 0 := fun h => hd (Int.dvd_of_tmod_eq_zero h)
        rw [if_pos (by omega)]
        have : ((m.natAbs : Nat) : Int) = m := by omega
        omega
  have HW := Lib.hid hW2
  clear hW hW2
  go_enter Try.func11, Try.ntmps11
  go_wp2
  all_goals
    go_ret
    refine ⟨?_, rfl⟩
    rw [HW.out]
    first | (rw [if_pos ‹t < 0›]; rfl) | (rw [if_neg (by omega)]; rfl)
end Go.Proofs.Ytmhljdkhekjfmaa

/- Plain: who is a side's top. -/
namespace Go.Proofs.Ytmhljdkhekjfmaa
open Go.RowKit

theorem top_best {a : BA} (h : Inv a) {side : Int} (hs : side = 1 ∨ side = 2) (price : Int) : refTop (ordL a) side price = (!(bestO (ordL a) side).2 || betterP side price (bestO (ordL a) side).1.price) := by
  rw [← top_sim h hs]
  unfold topB bestO
  rw [lad_sim h, if_pos (isB_of hs)]
  cases a.R side <;> rfl
theorem OB.top {W w : World} {pb : Nat} {L : List Od} (h : OB W w pb L) {side : Int} (hs : side = 1 ∨ side = 2) (price : Int) : refTop L side price = (!(bestO L side).2 || betterP side price (bestO L side).1.price) := by
  obtain ⟨d, h1, _, _⟩ := h
  rw [← h1.ord]
  exact top_best h1.inv hs price
/-- a good Add -/
theorem add_good {L : List Od} {id side price qty : Int} (hs : side = 1 ∨ side = 2) (hq : 1 ≤ qty ∧ qty ≤ 1000000) (hid : ∀ o ∈ L, o.id ≠ id) (hl : L.length < 250) :
    refAdd L id side price qty = ((if refTop L side price = true then L.map (untop side) else L).take (refPos L side price) ++ [⟨id, side, price, qty, refTop L side price⟩] ++ (if refTop L side price = true then L.map (untop side) else L).drop (refPos L side price), 0) := by
  have hf : (L.find? (fun o => o.id == id)).isSome = false := by
    rw [Bool.eq_false_iff, ne_eq, List.find?_isSome]
    rintro ⟨o, ho, he⟩
    exact hid o ho (by simpa using he)
  unfold refAdd
  rw [if_neg (by rw [isB_of hs]; simp), if_neg (by omega), if_neg (by rw [hf]; simp), if_neg (by omega)]
theorem mem_add {L : List Od} {id side price qty : Int} {o : Od} {k : Nat} {b : Bool} (ho : o ∈ (if b = true then L.map (untop side) else L).take k ++ [⟨id, side, price, qty, b⟩] ++ (if b = true then L.map (untop side) else L).drop k) : o = ⟨id, side, price, qty, b⟩ ∨ ∃ o' ∈ L, o = if b = true then untop side o' else o' := by
  have h1 : o = ⟨id, side, price, qty, b⟩ ∨ o ∈ (if b = true then L.map (untop side) else L) := by
    rcases List.mem_append.1 ho with h | h
    · rcases List.mem_append.1 h with h | h
      · exact .inr (List.mem_of_mem_take h)
      · exact .inl (List.mem_singleton.1 h)
    · exact .inr (List.mem_of_mem_drop h)
  rcases h1 with h | h
  · exact .inl h
  · refine .inr ?_
    cases b with
    | true =>
      rw [if_pos rfl] at h
      obtain ⟨o', h2, h3⟩ := List.mem_map.1 h
      exact ⟨o', h2, by rw [if_pos rfl]; exact h3.symm⟩
    | false =>
      rw [if_neg (by simp)] at h
      exact ⟨o, h, by rw [if_neg (by simp)]⟩
theorem len_add {L : List Od} {x : Od} {side : Int} {k : Nat} {b : Bool} : ((if b = true then L.map (untop side) else L).take k ++ [x] ++ (if b = true then L.map (untop side) else L).drop k).length = L.length + 1 := by
  have hl : (if b = true then L.map (untop side) else L).length = L.length := by
    split
    · exact List.length_map _
    · rfl
  rw [List.length_append, List.length_append, List.length_take, List.length_drop, hl]
  simp only [List.length_cons, List.length_nil]
  omega
/-- what a fill leaves -/
theorem mem_fill {L : List Od} {id qty : Int} {o : Od} (ho : o ∈ (refFill L id qty).1) : ∃ o' ∈ L, o = o' ∨ o = { o' with qty := o'.qty - qty } := by
  unfold refFill at ho
  split at ho
  · exact ⟨o, ho, .inl rfl⟩
  · split at ho
    · exact ⟨o, ho, .inl rfl⟩
    · split at ho
      · exact ⟨o, (List.mem_filter.1 ho).1, .inl rfl⟩
      · obtain ⟨o', h1, h2⟩ := List.mem_map.1 ho
        refine ⟨o', h1, ?_⟩
        split at h2
        · exact .inr h2.symm
        · exact .inl h2.symm
theorem len_fill (L : List Od) (id qty : Int) : (refFill L id qty).1.length ≤ L.length := by
  unfold refFill
  split
  · exact Nat.le_refl _
  · split
    · exact Nat.le_refl _
    · split
      · exact List.length_filter_le ..
      · simp
/-- the top of a side is one, and he alone -/
structure TopsAre (L : List Od) (t : Int → Int) (i : Nat) : Prop where
  top : ∀ o ∈ L, o.top = decide (t o.side = o.id)
  ids : ∀ o ∈ L, 1 ≤ o.id ∧ o.id ≤ i
  len : L.length ≤ i
  old : ∀ s, t s ≤ i
def tset (t : Int → Int) (side v : Int) : Int → Int := fun s => if s = side then v else t s
theorem TopsAre.nil : TopsAre [] (fun _ => 0) 0 := ⟨fun o ho => by simp at ho, fun o ho => by simp at ho, Nat.le_refl _, fun _ => Int.le_refl _⟩
theorem TopsAre.add {L : List Od} {t : Int → Int} {i : Nat} (h : TopsAre L t i) (hi : i < 60) {side : Int} (hs : side = 1 ∨ side = 2) (price : Int) :
    (refAdd L ((i : Int) + 1) side price 5).2 = 0 ∧ TopsAre (refAdd L ((i : Int) + 1) side price 5).1 (if refTop L side price = true then tset t side ((i : Int) + 1) else t) (i + 1) := by
  have hg := add_good (L := L) (id := (i : Int) + 1) (price := price) (qty := 5) hs (by omega) (fun o ho => by have := h.ids o ho; omega) (by have := h.len; omega)
  rw [hg]
  refine ⟨rfl, ?_, ?_, ?_, ?_⟩
  · intro o ho
    rcases mem_add ho with rfl | ⟨o', ho', rfl⟩
    · dsimp only
      cases refTop L side price with
      | true => simp [tset]
      | false =>
        have h1 := h.old side
        have : ¬ t side = (i : Int) + 1 := by omega
        simp [this]
    · have h1 := h.top o' ho'
      have h2 := h.ids o' ho'
      cases refTop L side price with
      | true =>
        simp only [if_true]
        rw [(untop_keeps side o').1, (untop_keeps side o').2.2.1]
        unfold tset untop
        by_cases hc : o'.side = side
        · rw [if_pos hc, if_pos hc]
          have : ¬ (i : Int) + 1 = o'.id := by omega
          simp [this]
        · rw [if_neg hc, if_neg hc]; exact h1
      | false => exact h1
  · intro o ho
    rcases mem_add ho with rfl | ⟨o', ho', rfl⟩
    · dsimp only; omega
    · have h2 := h.ids o' ho'
      split
      · rw [(untop_keeps side o').2.2.1]; omega
      · omega
  · rw [len_add]
    have := h.len
    omega
  · intro s
    have h1 := h.old s
    split
    · unfold tset
      split <;> omega
    · omega
theorem TopsAre.fill {L : List Od} {t : Int → Int} {i : Nat} (h : TopsAre L t i) (id qty : Int) : TopsAre (refFill L id qty).1 t (i + 1) := by
  refine ⟨fun o ho => ?_, fun o ho => ?_, ?_, fun s => ?_⟩
  · obtain ⟨o', h1, h2 | h2⟩ := mem_fill ho
    · rw [h2]; exact h.top o' h1
    · rw [h2]; exact h.top o' h1
  · obtain ⟨o', h1, h2 | h2⟩ := mem_fill ho
    · rw [h2]
      have := h.ids o' h1
      omega
    · rw [h2]
      have := h.ids o' h1
      dsimp only
      omega
  · have h1 := len_fill L id qty
    have h2 := h.len
    omega
  · have := h.old s
    omega
end Go.Proofs.Ytmhljdkhekjfmaa
