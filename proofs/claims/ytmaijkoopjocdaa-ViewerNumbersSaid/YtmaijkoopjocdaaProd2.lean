/- The walks of refdata.ticks, slices.IndexFunc, ContainsFunc, Min and Max. -/
import Derived.Test.YtmaijkoopjocdaaProd
namespace Go.Proofs.Ytmaijkoopjocdaa
open Go.RowKit

def offs (g : Nat) : Value := .func (Fn.func 70) #[] #[.pointer (some ⟨g, 0, none⟩)]
theorem any_none {L : List Int} {f : Int → Bool} (h : ∀ (j : Nat) (x : Int), L[j]? = some x → f x = false) : L.any f = false := by
  rw [Bool.eq_false_iff]
  intro ha
  rw [List.any_eq_true] at ha
  obtain ⟨x, hx, hf⟩ := ha
  obtain ⟨j, hj, rfl⟩ := List.getElem_of_mem hx
  have := h j _ (List.getElem?_eq_getElem hj)
  rw [hf] at this
  cases this
theorem any_some {L : List Int} {f : Int → Bool} {j : Nat} {x : Int} (h : L[j]? = some x) (hf : f x = true) : L.any f = true := by
  rw [List.any_eq_true]
  exact ⟨x, List.mem_of_getElem? h, hf⟩
set_option maxRecDepth 20000 in
set_option maxHeartbeats 1000000 in
theorem index_any (g : Nat) (tick : Int) (a : Option Addr) (c : Nat) (L : List Int) (w : World) (hI : Ints w a L) (hl : L.length ≤ 1000000) (ht : 1 ≤ tick) (ht2 : tick ≤ 1000) (hc : w.cell? ⟨g, 2, none⟩ = some (.int .i64 tick)) :
    Calls Try.prog 88 #[.slice a L.length c, offs g] w fun e w' => (∃ r : Int, e = .returned (.int .i64 r) ∧ decide (0 ≤ r) = L.any (offB tick)) ∧ w = w' := by
  have HI := Lib.hid hI
  have HOFF := Lib.hid fun n => off_any g tick n w ht ht2 hc
  clear hI hc
  unfold offs
  go_enter Try.func88, Try.ntmps88
  go_wp2_with fail
  go_loop [8] (fun i => ∃ k : Nat, i = .int .i64 k ∧ k ≤ L.length ∧ Hid (∀ j x, j < k → L[j]? = some x → offB tick x = false)) (fun i => L.length - (intOf i).toNat)
  case atStart => exact ⟨0, rfl, Nat.zero_le _, Lib.hid fun j x h => by omega⟩
  case round =>
    obtain ⟨k, rfl, hk, HK⟩ := hrel
    by_cases hkl : k < L.length
    · obtain ⟨x, hx⟩ : ∃ x, L[k]? = some x := ⟨_, List.getElem?_eq_getElem hkl⟩
      obtain ⟨_, b, off, rfl, _, c0⟩ := HI.out k x hx
      have hkl' : (k : Int) < (L.length : Int) := by omega
      have HX := Lib.hid hx
      clear hx
      cases ho : offB tick x with
      | true =>
        have HO := Lib.hid ho
        clear ho
        go_wp2_with (go_at_call 70; refine (HOFF.out x).mono ?_; rintro e w1 ⟨rfl, rfl⟩; rw [HO.out])
        go_ret
        exact ⟨⟨(k : Int), rfl, by rw [any_some HX.out HO.out]; exact decide_eq_true (by omega)⟩, by trivial⟩
      | false =>
        have HO := Lib.hid ho
        clear ho
        go_wp2_with (go_at_call 70; refine (HOFF.out x).mono ?_; rintro e w1 ⟨rfl, rfl⟩; rw [HO.out])
        go_round
        case rel => exact ⟨k + 1, by go_num, by omega, Lib.hid fun j y hj hy => by
          by_cases hjk : j < k
          · exact HK.out j y hjk hy
          · obtain rfl : j = k := by omega
            have := HX.out
            rw [hy] at this
            injection this with this
            rw [this]; exact HO.out⟩
        case measure => simp [intOf]; omega
    · obtain rfl : k = L.length := by omega
      go_wp2_with fail
      go_ret
      exact ⟨⟨-1, rfl, by rw [any_none fun j x hj => HK.out j x (lt_of_get hj) hj]; rfl⟩, by trivial⟩
theorem contains_any (g : Nat) (tick : Int) (a : Option Addr) (c : Nat) (L : List Int) (w : World) (hI : Ints w a L) (hl : L.length ≤ 1000000) (ht : 1 ≤ tick) (ht2 : tick ≤ 1000) (hc : w.cell? ⟨g, 2, none⟩ = some (.int .i64 tick)) :
    Calls Try.prog 71 #[.slice a L.length c, offs g] w fun e w' => e = .returned (.bool (L.any (offB tick))) ∧ w = w' := by
  have H := Lib.hid (index_any g tick a c L w hI hl ht ht2 hc)
  clear hI hc
  unfold offs at *
  go_enter Try.func71, Try.ntmps71
  go_wp2_with fail
  refine H.out.mono ?_
  rintro e w1 ⟨⟨r, rfl, hr⟩, rfl⟩
  have HR := Lib.hid hr
  clear hr
  go_wp2_with fail
  go_ret
  exact ⟨by rw [← HR.out]; rfl, by trivial⟩

def ticksB (p : Prod) : Bool := decide (1 ≤ p.tick) && decide (p.tick ≤ 1000) && !offB p.tick p.low && !offB p.tick p.high && !offB p.tick p.wide && !p.settle.any (offB p.tick)
set_option maxRecDepth 20000 in
set_option maxHeartbeats 2000000 in
theorem ticks_any (p : Prod) (w : World) (hp : PV w p) :
    Calls Try.prog 44 #[p.agg] w fun e w' => e = .returned (.bool (ticksB p)) ∧ Below w.heap.size w w' := by
  unfold Prod.agg Prod.cells
  have HB : Hid (Below w.heap.size w (w.alloc (.cells #[.string p.code, .slice p.ma p.months.length p.mc, .int .i64 p.tick, .int .i64 p.low, .int .i64 p.high, .int .i64 p.wide, .int .i64 p.rule, .int .i64 p.top, .int .i64 p.least, .int .i64 p.part, .slice p.sa p.settle.length p.sc] 25))) := Lib.hid (Below.allocN _ _)
  have HPC : Hid (PC (w.alloc (.cells #[.string p.code, .slice p.ma p.months.length p.mc, .int .i64 p.tick, .int .i64 p.low, .int .i64 p.high, .int .i64 p.wide, .int .i64 p.rule, .int .i64 p.top, .int .i64 p.least, .int .i64 p.part, .slice p.sa p.settle.length p.sc] 25)) w.heap.size p) := Lib.hid (PC.new w p)
  by_cases h1 : p.tick < 1
  · have HT : Hid (ticksB p = false) := Lib.hid (by unfold ticksB; rw [decide_eq_false (show ¬ 1 ≤ p.tick by omega)]; rfl)
    go_enter Try.func44, Try.ntmps44
    go_wp2_with fail
    go_ret
    exact ⟨by rw [HT.out]; rfl, HB.out⟩
  · by_cases h2 : 1000 < p.tick
    · have HT : Hid (ticksB p = false) := Lib.hid (by unfold ticksB; rw [decide_eq_false (show ¬ p.tick ≤ 1000 by omega), Bool.and_false]; rfl)
      go_enter Try.func44, Try.ntmps44
      go_wp2_with fail
      go_ret
      exact ⟨by rw [HT.out]; rfl, HB.out⟩
    · obtain ⟨ol, hol⟩ : ∃ o, offB p.tick p.low = o := ⟨_, rfl⟩
      obtain ⟨oh, hoh⟩ : ∃ o, offB p.tick p.high = o := ⟨_, rfl⟩
      obtain ⟨ow, how⟩ : ∃ o, offB p.tick p.wide = o := ⟨_, rfl⟩
      obtain ⟨os, hos⟩ : ∃ o, p.settle.any (offB p.tick) = o := ⟨_, rfl⟩
      have HT : Hid (ticksB p = (!ol && !oh && !ow && !os)) := Lib.hid (by unfold ticksB; rw [decide_eq_true (show 1 ≤ p.tick by omega), decide_eq_true (show p.tick ≤ 1000 by omega), hol, hoh, how, hos]; rfl)
      have HL : Hid (Calls Try.prog 70 #[.int .i64 p.low, .pointer (some ⟨w.heap.size, 0, none⟩)] (w.alloc (.cells #[.string p.code, .slice p.ma p.months.length p.mc, .int .i64 p.tick, .int .i64 p.low, .int .i64 p.high, .int .i64 p.wide, .int .i64 p.rule, .int .i64 p.top, .int .i64 p.least, .int .i64 p.part, .slice p.sa p.settle.length p.sc] 25)) fun e w' => e = .returned (.bool ol) ∧ (w.alloc (.cells #[.string p.code, .slice p.ma p.months.length p.mc, .int .i64 p.tick, .int .i64 p.low, .int .i64 p.high, .int .i64 p.wide, .int .i64 p.rule, .int .i64 p.top, .int .i64 p.least, .int .i64 p.part, .slice p.sa p.settle.length p.sc] 25)) = w') := Lib.hid (by rw [← hol]; exact off_any _ _ _ _ (by omega) (by omega) HPC.out.2.2.1)
      have HH : Hid (Calls Try.prog 70 #[.int .i64 p.high, .pointer (some ⟨w.heap.size, 0, none⟩)] (w.alloc (.cells #[.string p.code, .slice p.ma p.months.length p.mc, .int .i64 p.tick, .int .i64 p.low, .int .i64 p.high, .int .i64 p.wide, .int .i64 p.rule, .int .i64 p.top, .int .i64 p.least, .int .i64 p.part, .slice p.sa p.settle.length p.sc] 25)) fun e w' => e = .returned (.bool oh) ∧ (w.alloc (.cells #[.string p.code, .slice p.ma p.months.length p.mc, .int .i64 p.tick, .int .i64 p.low, .int .i64 p.high, .int .i64 p.wide, .int .i64 p.rule, .int .i64 p.top, .int .i64 p.least, .int .i64 p.part, .slice p.sa p.settle.length p.sc] 25)) = w') := Lib.hid (by rw [← hoh]; exact off_any _ _ _ _ (by omega) (by omega) HPC.out.2.2.1)
      have HW : Hid (Calls Try.prog 70 #[.int .i64 p.wide, .pointer (some ⟨w.heap.size, 0, none⟩)] (w.alloc (.cells #[.string p.code, .slice p.ma p.months.length p.mc, .int .i64 p.tick, .int .i64 p.low, .int .i64 p.high, .int .i64 p.wide, .int .i64 p.rule, .int .i64 p.top, .int .i64 p.least, .int .i64 p.part, .slice p.sa p.settle.length p.sc] 25)) fun e w' => e = .returned (.bool ow) ∧ (w.alloc (.cells #[.string p.code, .slice p.ma p.months.length p.mc, .int .i64 p.tick, .int .i64 p.low, .int .i64 p.high, .int .i64 p.wide, .int .i64 p.rule, .int .i64 p.top, .int .i64 p.least, .int .i64 p.part, .slice p.sa p.settle.length p.sc] 25)) = w') := Lib.hid (by rw [← how]; exact off_any _ _ _ _ (by omega) (by omega) HPC.out.2.2.1)
      have HS : Hid (Calls Try.prog 71 #[.slice p.sa p.settle.length p.sc, .func (Fn.func 70) #[] #[.pointer (some ⟨w.heap.size, 0, none⟩)]] (w.alloc (.cells #[.string p.code, .slice p.ma p.months.length p.mc, .int .i64 p.tick, .int .i64 p.low, .int .i64 p.high, .int .i64 p.wide, .int .i64 p.rule, .int .i64 p.top, .int .i64 p.least, .int .i64 p.part, .slice p.sa p.settle.length p.sc] 25)) fun e w' => e = .returned (.bool os) ∧ (w.alloc (.cells #[.string p.code, .slice p.ma p.months.length p.mc, .int .i64 p.tick, .int .i64 p.low, .int .i64 p.high, .int .i64 p.wide, .int .i64 p.rule, .int .i64 p.top, .int .i64 p.least, .int .i64 p.part, .slice p.sa p.settle.length p.sc] 25)) = w') := Lib.hid (by rw [← hos]; exact contains_any _ _ _ _ _ _ (hp.set_.below HB.out) hp.slen (by omega) (by omega) HPC.out.2.2.1)
      clear hol hoh how hos hp
      cases ol with
      | true =>
        go_enter Try.func44, Try.ntmps44
        go_wp2_with (first
          | (go_at_call 70; refine HL.out.mono ?_; rintro e w1 ⟨rfl, rfl⟩)
          | (go_at_call 70; refine HH.out.mono ?_; rintro e w1 ⟨rfl, rfl⟩)
          | (go_at_call 70; refine HW.out.mono ?_; rintro e w1 ⟨rfl, rfl⟩)
          | (go_at_call 71; refine HS.out.mono ?_; rintro e w1 ⟨rfl, rfl⟩))
        go_ret
        exact ⟨by rw [HT.out]; rfl, HB.out⟩
      | false =>
        cases oh with
        | true =>
          go_enter Try.func44, Try.ntmps44
          go_wp2_with (first
            | (go_at_call 70; refine HL.out.mono ?_; rintro e w1 ⟨rfl, rfl⟩)
            | (go_at_call 70; refine HH.out.mono ?_; rintro e w1 ⟨rfl, rfl⟩)
            | (go_at_call 70; refine HW.out.mono ?_; rintro e w1 ⟨rfl, rfl⟩)
            | (go_at_call 71; refine HS.out.mono ?_; rintro e w1 ⟨rfl, rfl⟩))
          go_ret
          exact ⟨by rw [HT.out]; rfl, HB.out⟩
        | false =>
          cases ow with
          | true =>
            go_enter Try.func44, Try.ntmps44
            go_wp2_with (first
              | (go_at_call 70; refine HL.out.mono ?_; rintro e w1 ⟨rfl, rfl⟩)
              | (go_at_call 70; refine HH.out.mono ?_; rintro e w1 ⟨rfl, rfl⟩)
              | (go_at_call 70; refine HW.out.mono ?_; rintro e w1 ⟨rfl, rfl⟩)
              | (go_at_call 71; refine HS.out.mono ?_; rintro e w1 ⟨rfl, rfl⟩))
            go_ret
            exact ⟨by rw [HT.out]; rfl, HB.out⟩
          | false =>
            go_enter Try.func44, Try.ntmps44
            go_wp2_with (first
              | (go_at_call 70; refine HL.out.mono ?_; rintro e w1 ⟨rfl, rfl⟩)
              | (go_at_call 70; refine HH.out.mono ?_; rintro e w1 ⟨rfl, rfl⟩)
              | (go_at_call 70; refine HW.out.mono ?_; rintro e w1 ⟨rfl, rfl⟩)
              | (go_at_call 71; refine HS.out.mono ?_; rintro e w1 ⟨rfl, rfl⟩))
            go_ret
            exact ⟨by rw [HT.out]; rfl, HB.out⟩

/-! ### the least and the greatest -/
def minL : List Int → Int
  | [] => 0
  | x :: L => L.foldl min x
def maxL : List Int → Int
  | [] => 0
  | x :: L => L.foldl max x
theorem foldl_min_lt (L : List Int) (x b : Int) : decide (L.foldl min x < b) = (decide (x < b) || L.any (fun y => decide (y < b))) := by
  induction L generalizing x with
  | nil => rw [List.any_nil, Bool.or_false]; rfl
  | cons y L ih =>
    rw [List.foldl_cons, ih, List.any_cons, ← Bool.or_assoc]
    congr 1
    rw [Bool.eq_iff_iff]; simp; omega
theorem foldl_max_lt (L : List Int) (x b : Int) : decide (b < L.foldl max x) = (decide (b < x) || L.any (fun y => decide (b < y))) := by
  induction L generalizing x with
  | nil => rw [List.any_nil, Bool.or_false]; rfl
  | cons y L ih =>
    rw [List.foldl_cons, ih, List.any_cons, ← Bool.or_assoc]
    congr 1
    rw [Bool.eq_iff_iff]; simp; omega
theorem min_lt {L : List Int} (h : L ≠ []) (b : Int) : decide (minL L < b) = L.any (fun y => decide (y < b)) := by
  cases L with
  | nil => exact absurd rfl h
  | cons x L => exact foldl_min_lt L x b
theorem max_lt {L : List Int} (h : L ≠ []) (b : Int) : decide (b < maxL L) = L.any (fun y => decide (b < y)) := by
  cases L with
  | nil => exact absurd rfl h
  | cons x L => exact foldl_max_lt L x b
theorem min_step (L : List Int) {k : Nat} {x : Int} (h : L[k + 1]? = some x) : minL (L.take (k + 2)) = min (minL (L.take (k + 1))) x := by
  cases L with
  | nil => simp at h
  | cons y L =>
    have hk := lt_of_get h
    simp at hk h
    show (L.take (k + 1)).foldl min y = min ((L.take k).foldl min y) x
    rw [List.take_succ_eq_append_getElem hk, List.foldl_append]
    obtain ⟨_, hx⟩ := get_of h
    rw [hx]; rfl
theorem max_step (L : List Int) {k : Nat} {x : Int} (h : L[k + 1]? = some x) : maxL (L.take (k + 2)) = max (maxL (L.take (k + 1))) x := by
  cases L with
  | nil => simp at h
  | cons y L =>
    have hk := lt_of_get h
    simp at hk h
    show (L.take (k + 1)).foldl max y = max ((L.take k).foldl max y) x
    rw [List.take_succ_eq_append_getElem hk, List.foldl_append]
    obtain ⟨_, hx⟩ := get_of h
    rw [hx]; rfl
theorem min_one {L : List Int} {x : Int} (h : L[0]? = some x) : minL (L.take 1) = x := by
  cases L with
  | nil => simp at h
  | cons y L => simp at h; subst h; rfl
theorem max_one {L : List Int} {x : Int} (h : L[0]? = some x) : maxL (L.take 1) = x := by
  cases L with
  | nil => simp at h
  | cons y L => simp at h; subst h; rfl
set_option maxRecDepth 20000 in
set_option maxHeartbeats 1000000 in
theorem min_any (a : Option Addr) (c : Nat) (L : List Int) (w : World) (hI : Ints w a L) (hl : L.length ≤ 1000000) (h0 : 0 < L.length) :
    Calls Try.prog 45 #[.slice a L.length c] w fun e w' => e = .returned (.int .i64 (minL L)) ∧ w = w' := by
  have HI := Lib.hid hI
  obtain ⟨x0, hx0⟩ : ∃ x, L[0]? = some x := ⟨_, List.getElem?_eq_getElem h0⟩
  obtain ⟨_, b, off, rfl, _, c0⟩ := hI 0 x0 hx0
  rw [Nat.add_zero] at c0
  have HM := Lib.hid (min_one hx0)
  have h0' : ¬ (L.length : Int) < 1 := by omega
  clear hI hx0
  go_enter Try.func45, Try.ntmps45
  go_wp2_with fail
  go_loop [3, 4] (fun m i => ∃ k : Nat, i = .int .i64 ((k + 1 : Nat) : Int) ∧ k + 1 ≤ L.length ∧ m = .int .i64 (minL (L.take (k + 1)))) (fun _ i => L.length - (intOf i).toNat)
  case atStart => exact ⟨0, rfl, h0, by rw [HM.out]⟩
  case round =>
    obtain ⟨k, rfl, hk, rfl⟩ := hrel
    by_cases hkl : k + 1 < L.length
    · obtain ⟨x, hx⟩ : ∃ x, L[k + 1]? = some x := ⟨_, List.getElem?_eq_getElem hkl⟩
      obtain ⟨_, b2, off2, he, _, c1⟩ := HI.out (k + 1) x hx
      obtain ⟨rfl, rfl⟩ : b = b2 ∧ off = off2 := by injection he with he; injection he with h1 h2; exact ⟨h1, h2⟩
      have hkl' : (k : Int) + 1 < (L.length : Int) := by omega
      have HS := Lib.hid (min_step L hx)
      clear hx he c0
      generalize minL (L.take (k + 1)) = m at *
      go_wp2_with fail
      go_round
      case rel => exact ⟨k + 1, by go_num, by omega, congrArg (Value.int .i64) (by rw [HS.out]; split <;> omega)⟩
      case measure => simp [intOf]; omega
    · have hke : k + 1 = L.length := by omega
      have hke' : (k : Int) + 1 = (L.length : Int) := by omega
      have HE : Hid (minL (L.take (k + 1)) = minL L) := Lib.hid (by rw [hke, List.take_length])
      have hn : ¬ (k : Int) + 1 < (L.length : Int) := by omega
      clear hke hke'
      generalize minL (L.take (k + 1)) = m at *
      go_wp2_with fail
      go_ret
      exact ⟨by rw [← HE.out]; rfl, by trivial⟩
set_option maxRecDepth 20000 in
set_option maxHeartbeats 1000000 in
theorem max_any (a : Option Addr) (c : Nat) (L : List Int) (w : World) (hI : Ints w a L) (hl : L.length ≤ 1000000) (h0 : 0 < L.length) :
    Calls Try.prog 46 #[.slice a L.length c] w fun e w' => e = .returned (.int .i64 (maxL L)) ∧ w = w' := by
  have HI := Lib.hid hI
  obtain ⟨x0, hx0⟩ : ∃ x, L[0]? = some x := ⟨_, List.getElem?_eq_getElem h0⟩
  obtain ⟨_, b, off, rfl, _, c0⟩ := hI 0 x0 hx0
  rw [Nat.add_zero] at c0
  have HM := Lib.hid (max_one hx0)
  have h0' : ¬ (L.length : Int) < 1 := by omega
  clear hI hx0
  go_enter Try.func46, Try.ntmps46
  go_wp2_with fail
  go_loop [3, 4] (fun m i => ∃ k : Nat, i = .int .i64 ((k + 1 : Nat) : Int) ∧ k + 1 ≤ L.length ∧ m = .int .i64 (maxL (L.take (k + 1)))) (fun _ i => L.length - (intOf i).toNat)
  case atStart => exact ⟨0, rfl, h0, by rw [HM.out]⟩
  case round =>
    obtain ⟨k, rfl, hk, rfl⟩ := hrel
    by_cases hkl : k + 1 < L.length
    · obtain ⟨x, hx⟩ : ∃ x, L[k + 1]? = some x := ⟨_, List.getElem?_eq_getElem hkl⟩
      obtain ⟨_, b2, off2, he, _, c1⟩ := HI.out (k + 1) x hx
      obtain ⟨rfl, rfl⟩ : b = b2 ∧ off = off2 := by injection he with he; injection he with h1 h2; exact ⟨h1, h2⟩
      have hkl' : (k : Int) + 1 < (L.length : Int) := by omega
      have HS := Lib.hid (max_step L hx)
      clear hx he c0
      generalize maxL (L.take (k + 1)) = m at *
      go_wp2_with fail
      go_round
      case rel => exact ⟨k + 1, by go_num, by omega, congrArg (Value.int .i64) (by rw [HS.out]; split <;> omega)⟩
      case measure => simp [intOf]; omega
    · have hke : k + 1 = L.length := by omega
      have hke' : (k : Int) + 1 = (L.length : Int) := by omega
      have HE : Hid (maxL (L.take (k + 1)) = maxL L) := Lib.hid (by rw [hke, List.take_length])
      have hn : ¬ (k : Int) + 1 < (L.length : Int) := by omega
      clear hke hke'
      generalize maxL (L.take (k + 1)) = m at *
      go_wp2_with fail
      go_ret
      exact ⟨by rw [← HE.out]; rfl, by trivial⟩
end Go.Proofs.Ytmaijkoopjocdaa
