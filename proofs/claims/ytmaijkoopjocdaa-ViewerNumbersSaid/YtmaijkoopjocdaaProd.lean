/- A product in memory; what its numbers must be; the walks of refdata.months, ticks and of what they call. -/
import Derived.Test.YtmaijkoopjocdaaRef
import Derived.OwnWalk
import Derived.Deep.LoopGhost
import Derived.BigQuiet
namespace Go.Proofs.Ytmaijkoopjocdaa
open Go.RowKit

def i64ok (n : Int) : Prop := -9223372036854775808 ≤ n ∧ n ≤ 9223372036854775807
/-- a slice that reads as a list of numbers -/
def Ints (w : World) (a : Option Addr) (L : List Int) : Prop := ∀ j x, L[j]? = some x → i64ok x ∧ ∃ b off, a = some ⟨b, off, none⟩ ∧ b < w.heap.size ∧ w.cell? ⟨b, off + j, none⟩ = some (.int .i64 x)
theorem Ints.below {w w' : World} {a : Option Addr} {L : List Int} (h : Ints w a L) (hb : Below w.heap.size w w') : Ints w' a L := by
  intro j x hj
  obtain ⟨h0, b, off, h1, h2, h3⟩ := h j x hj
  exact ⟨h0, b, off, h1, Nat.lt_of_lt_of_le h2 hb.size, (hb.cell (p := ⟨b, off + j, none⟩) h2).trans h3⟩
theorem lt_of_get {α : Type} {L : List α} {j : Nat} {e : α} (h : L[j]? = some e) : j < L.length := by
  rcases Nat.lt_or_ge j L.length with h1 | h1
  · exact h1
  · rw [List.getElem?_eq_none h1] at h; cases h
theorem get_of {α : Type} {A : List α} {n : Nat} {x : α} (h : A[n]? = some x) : ∃ hn : n < A.length, A[n]'hn = x := by
  have hl := lt_of_get h
  refine ⟨hl, ?_⟩
  rw [List.getElem?_eq_getElem hl] at h
  injection h
theorem getD_of {α : Type} {A : List α} {n : Nat} {x d : α} (h : A[n]? = some x) : A.getD n d = x := by
  rw [List.getD_eq_getElem?_getD, h]; rfl

structure Prod where
  code : ByteArray
  ma : Option Addr
  months : List Int
  mc : Nat
  tick : Int
  low : Int
  high : Int
  wide : Int
  rule : Int
  top : Int
  least : Int
  part : Int
  sa : Option Addr
  settle : List Int
  sc : Nat
def Prod.cells (p : Prod) : Array Value := #[.string p.code, .slice p.ma p.months.length p.mc, .int .i64 p.tick, .int .i64 p.low, .int .i64 p.high, .int .i64 p.wide, .int .i64 p.rule, .int .i64 p.top, .int .i64 p.least, .int .i64 p.part, .slice p.sa p.settle.length p.sc]
def Prod.agg (p : Prod) : Value := .agg p.cells
/-- a product that may be handed over -/
structure PV (w : World) (p : Prod) : Prop where
  code : p.code.size ≤ 1000
  mon : Ints w p.ma p.months
  set_ : Ints w p.sa p.settle
  mlen : p.months.length ≤ 1000000
  slen : p.settle.length ≤ 1000000
  tick : i64ok p.tick
  low : i64ok p.low
  high : i64ok p.high
  wide : i64ok p.wide
theorem PV.below {w w' : World} {p : Prod} (h : PV w p) (hb : Below w.heap.size w w') : PV w' p :=
  ⟨h.code, h.mon.below hb, h.set_.below hb, h.mlen, h.slen, h.tick, h.low, h.high, h.wide⟩
/-- a product in a block of its own -/
def PC (w : World) (g : Nat) (p : Prod) : Prop := w.cell? ⟨g, 0, none⟩ = some (.string p.code) ∧ w.cell? ⟨g, 1, none⟩ = some (.slice p.ma p.months.length p.mc) ∧ w.cell? ⟨g, 2, none⟩ = some (.int .i64 p.tick) ∧ w.cell? ⟨g, 3, none⟩ = some (.int .i64 p.low) ∧ w.cell? ⟨g, 4, none⟩ = some (.int .i64 p.high) ∧ w.cell? ⟨g, 5, none⟩ = some (.int .i64 p.wide) ∧ w.cell? ⟨g, 6, none⟩ = some (.int .i64 p.rule) ∧ w.cell? ⟨g, 7, none⟩ = some (.int .i64 p.top) ∧ w.cell? ⟨g, 8, none⟩ = some (.int .i64 p.least) ∧ w.cell? ⟨g, 9, none⟩ = some (.int .i64 p.part) ∧ w.cell? ⟨g, 10, none⟩ = some (.slice p.sa p.settle.length p.sc)
theorem PC.new (w : World) (p : Prod) : PC (w.alloc (.cells p.cells 25)) w.heap.size p := by
  have h : ∀ i, (w.alloc (.cells p.cells 25)).cell? ⟨w.heap.size, i, none⟩ = p.cells[i]? := fun i => cell_of_row _ _ _ _ _ (0, 0) (heap_alloc_new w _)
  exact ⟨h 0, h 1, h 2, h 3, h 4, h 5, h 6, h 7, h 8, h 9, h 10⟩
theorem PC.below {w w' : World} {g : Nat} {p : Prod} (h : PC w g p) (hb : Below w.heap.size w w') (hg : g < w.heap.size) : PC w' g p := by
  have e : ∀ o, w'.cell? ⟨g, o, none⟩ = w.cell? ⟨g, o, none⟩ := fun o => hb.cell (p := ⟨g, o, none⟩) hg
  obtain ⟨h0, h1, h2, h3, h4, h5, h6, h7, h8, h9, h10⟩ := h
  exact ⟨(e _).trans h0, (e _).trans h1, (e _).trans h2, (e _).trans h3, (e _).trans h4, (e _).trans h5, (e _).trans h6, (e _).trans h7, (e _).trans h8, (e _).trans h9, (e _).trans h10⟩
theorem Below.allocN (w : World) (o : Obj) : Below w.heap.size w (w.alloc o) := (Below.refl _ _).alloc (Nat.le_refl _) o
theorem Below.drewN_of (w : World) (n : Nat) : Below w.heap.size w (w.drewN n) := ⟨rfl, rfl, rfl, Nat.le_refl _, fun _ _ => rfl⟩

/-! ### months -/
def monthOk (L : List Int) (k : Nat) : Bool := decide (0 ≤ L.getD k 0) && decide (L.getD k 0 ≤ 1199) && (k == 0 || decide (L.getD (k - 1) 0 < L.getD k 0))
def monthsB (L : List Int) : Bool := (List.range L.length).all (monthOk L) && decide (2 ≤ L.length) && decide (L.length ≤ 6)
theorem monthsB_bad {L : List Int} {k : Nat} (hk : k < L.length) (h : monthOk L k = false) : monthsB L = false := by
  unfold monthsB
  have : (List.range L.length).all (monthOk L) = false := by
    rw [Bool.eq_false_iff]
    intro ha
    rw [List.all_eq_true] at ha
    have := ha k (List.mem_range.2 hk)
    rw [h] at this
    cases this
  rw [this]; rfl
theorem monthsB_all {L : List Int} (h : ∀ k, k < L.length → monthOk L k = true) : monthsB L = (decide (2 ≤ L.length) && decide (L.length ≤ 6)) := by
  unfold monthsB
  have : (List.range L.length).all (monthOk L) = true := by
    rw [List.all_eq_true]
    intro k hk
    exact h k (List.mem_range.1 hk)
  rw [this]; rfl
theorem monthOk_eq {L : List Int} {k : Nat} {x : Int} (h : L[k]? = some x) : monthOk L k = (decide (0 ≤ x) && decide (x ≤ 1199) && (k == 0 || decide (L.getD (k - 1) 0 < x))) := by
  unfold monthOk; rw [getD_of h]

set_option maxHeartbeats 1000000 in
theorem months_any (a : Option Addr) (c : Nat) (L : List Int) (w : World) (hI : Ints w a L) (hl : L.length ≤ 1000000) :
    Calls Try.prog 43 #[.slice a L.length c] w fun e w' => e = .returned (.bool (monthsB L)) ∧ w = w' := by
  have HI := Lib.hid hI
  clear hI
  go_enter Try.func43, Try.ntmps43
  go_wp2_with fail
  go_loop [7] (fun i => ∃ k : Nat, i = .int .i64 k ∧ k ≤ L.length ∧ Hid (∀ j, j < k → monthOk L j = true)) (fun i => L.length - (intOf i).toNat)
  case atStart => exact ⟨0, rfl, Nat.zero_le _, Lib.hid fun j h => by omega⟩
  case round =>
    obtain ⟨k, rfl, hk, HK⟩ := hrel
    by_cases hkl : k < L.length
    · obtain ⟨x, hx⟩ : ∃ x, L[k]? = some x := ⟨_, List.getElem?_eq_getElem hkl⟩
      obtain ⟨hok, b, off, rfl, _, c0⟩ := HI.out k x hx
      have hkl' : (k : Int) < (L.length : Int) := by omega
      have HM := Lib.hid (monthOk_eq hx)
      by_cases h1 : x < 0
      · have HB : Hid (monthsB L = false) := Lib.hid (monthsB_bad hkl (by rw [HM.out, decide_eq_false (show ¬ 0 ≤ x by omega)]; rfl))
        clear hx hok
        go_wp2_with fail
        go_ret
        exact ⟨by rw [HB.out]; rfl, by trivial⟩
      · by_cases h2 : 1199 < x
        · have HB : Hid (monthsB L = false) := Lib.hid (monthsB_bad hkl (by rw [HM.out, decide_eq_false (show ¬ x ≤ 1199 by omega), Bool.and_false]; rfl))
          clear hx hok
          go_wp2_with fail
          go_ret
          exact ⟨by rw [HB.out]; rfl, by trivial⟩
        · by_cases hk0 : k = 0
          · have HB : Hid (monthOk L k = true) := Lib.hid (by rw [HM.out, decide_eq_true (show 0 ≤ x by omega), decide_eq_true (show x ≤ 1199 by omega), hk0]; rfl)
            have HK0 := Lib.hid hk0
            have hk1 : ¬ (0 : Int) < (k : Int) := by omega
            clear hx hok hk0
            go_wp2_with fail
            go_round
            case rel => exact ⟨k + 1, by go_num, by omega, Lib.hid fun j hj => by
              obtain rfl : j = k := by have := HK0.out; omega
              exact HB.out⟩
            case measure => simp [intOf]; omega
          · obtain ⟨k, rfl⟩ : ∃ k', k = k' + 1 := ⟨k - 1, by omega⟩
            obtain ⟨y, hy⟩ : ∃ y, L[k]? = some y := ⟨_, List.getElem?_eq_getElem (by omega)⟩
            obtain ⟨hok2, b2, off2, he, _, c1⟩ := HI.out k y hy
            obtain ⟨rfl, rfl⟩ : b = b2 ∧ off = off2 := by injection he with he; injection he with h1 h2; exact ⟨h1, h2⟩
            have HY : Hid (L.getD k 0 = y) := Lib.hid (getD_of hy)
            by_cases h3 : x ≤ y
            · have HB : Hid (monthsB L = false) := Lib.hid (monthsB_bad hkl (by rw [HM.out, Nat.add_sub_cancel, HY.out, decide_eq_false (show ¬ y < x by omega)]; simp))
              clear hx hy hok hok2 he
              go_wp2_with fail
              go_ret
              exact ⟨by rw [HB.out]; rfl, by trivial⟩
            · have HB : Hid (monthOk L (k + 1) = true) := Lib.hid (by rw [HM.out, Nat.add_sub_cancel, HY.out, decide_eq_true (show 0 ≤ x by omega), decide_eq_true (show x ≤ 1199 by omega), decide_eq_true (show y < x by omega)]; simp)
              clear hx hy hok hok2 he
              go_wp2_with fail
              go_round
              case rel => exact ⟨k + 2, by go_num, by omega, Lib.hid fun j hj => by
                by_cases hjk : j < k + 1
                · exact HK.out j hjk
                · obtain rfl : j = k + 1 := by omega
                  exact HB.out⟩
              case measure => simp [intOf]; omega
    · obtain rfl : k = L.length := by omega
      have HB := Lib.hid (monthsB_all HK.out)
      by_cases h2 : 2 ≤ L.length
      · have h2' : (2 : Int) ≤ (L.length : Int) := by omega
        go_wp2_with fail
        go_ret
        refine ⟨?_, by trivial⟩
        rw [HB.out, decide_eq_true h2, Bool.true_and, show decide (L.length ≤ 6) = decide ((L.length : Int) ≤ 6) from decide_eq_decide.2 (by omega)]
        rfl
      · have h2' : ¬ (2 : Int) ≤ (L.length : Int) := by omega
        go_wp2_with fail
        go_ret
        exact ⟨by rw [HB.out, decide_eq_false h2]; rfl, by trivial⟩

/-! ### ticks -/
def offB (tick n : Int) : Bool := n.tmod tick != 0
set_option maxHeartbeats 400000 in
theorem off_any (g : Nat) (tick n : Int) (w : World) (ht : 1 ≤ tick) (ht2 : tick ≤ 1000) (hc : w.cell? ⟨g, 2, none⟩ = some (.int .i64 tick)) :
    Calls Try.prog 70 #[.int .i64 n, .pointer (some ⟨g, 0, none⟩)] w fun e w' => e = .returned (.bool (offB tick n)) ∧ w = w' := by
  have hz : (tick == 0) = false := by rw [beq_eq_false_iff_ne]; omega
  have hz2 : (tick == -1) = false := by rw [beq_eq_false_iff_ne]; omega
  obtain ⟨t, ht3⟩ : ∃ t, n.tmod tick = t := ⟨_, rfl⟩
  have HO : Hid (offB tick n = (t != 0)) := Lib.hid (by unfold offB; rw [ht3])
  go_enter Try.func70, Try.ntmps70
  go_wp2_with fail
  go_ret
  exact ⟨by rw [HO.out]; rfl, by trivial⟩
end Go.Proofs.Ytmaijkoopjocdaa
