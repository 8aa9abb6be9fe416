/- The walks of cornhillkeep.Head and Short. -/
import Derived.Test.YtilficlanliinaaPin
namespace Go.Proofs.Ytilficlanliinaa
open Go.RowKit

def headS (s : ByteArray) (n : Nat) : ByteArray := if n < s.size then s.extract 0 n else s
theorem headS_le (s : ByteArray) (n : Nat) : (headS s n).size ≤ n := by
  unfold headS
  split
  · rw [ByteArray.size_extract]; omega
  · omega
set_option maxHeartbeats 1000000 in
theorem head_any (s : ByteArray) (n : Nat) (w : World) (hn : n ≤ 1000) :
    Calls Try.prog 37 #[.string s, .int .i64 n] w fun e w' => e = .returned (.string (headS s n)) ∧ w = w' := by
  by_cases h : n < s.size
  · have hv : headS s n = s.extract 0 n := if_pos h
    rw [hv]
    have h' : (n : Int) < (s.size : Int) := by omega
    go_enter Try.func37, Try.ntmps37
    go_wp2_with fail
    go_ret
    exact ⟨by trivial, by trivial⟩
  · have hv : headS s n = s := if_neg h
    rw [hv]
    have h' : ¬ (n : Int) < (s.size : Int) := by omega
    go_enter Try.func37, Try.ntmps37
    go_wp2_with fail
    go_ret
    exact ⟨by trivial, by trivial⟩
theorem Ints.take {w : World} {a : Option Addr} {L : List Int} (h : Ints w a L) (n : Nat) : Ints w a (L.take n) := by
  intro j x hj
  have hj' : L[j]? = some x := by
    rw [List.getElem?_take] at hj
    split at hj
    · exact hj
    · cases hj
  exact h j x hj'
def shortP (p : Prod) : Prod := { p with code := headS p.code 20, months := p.months.take 8, settle := p.settle.take 8 }
set_option maxHeartbeats 4000000 in
theorem short_any (p : Prod) (w : World) (hp : PIn w p) (hc1 : p.months.length ≤ p.mc) (hc2 : p.settle.length ≤ p.sc) :
    Calls Try.prog 22 #[p.agg] w fun e w' => e = .returned (shortP p).agg ∧ PV w' (shortP p) ∧ Below w.heap.size w w' := by
  have HH := Lib.hid fun w => head_any p.code 20 w (by omega)
  have hpm := hp.mlen
  have hps := hp.slen
  have HPV : Hid (∀ w', Below w.heap.size w w' → PV w' (shortP p)) := Lib.hid fun w' hb => ⟨Nat.le_trans (headS_le p.code 20) (by omega), (hp.mon.take 8).below hb, (hp.set_.take 8).below hb, by show (p.months.take 8).length ≤ 1000000; rw [List.length_take]; omega, by show (p.settle.take 8).length ≤ 1000000; rw [List.length_take]; omega, hp.tick, hp.low, hp.high, hp.wide⟩
  have s1 : ∀ (w : World) (o : Obj), (w.alloc o).heap.size = w.heap.size + 1 := fun w o => by simp
  unfold Prod.agg Prod.cells
  simp only [shortP] at HPV ⊢
  generalize headS p.code 20 = hd at *
  clear hp
  by_cases h1 : 8 < p.months.length
  · have h1' : (8 : Int) < (p.months.length : Int) := by omega
    have e1 : (p.months.take 8).length = 8 := by rw [List.length_take]; omega
    rw [e1]
    clear e1
    by_cases h2 : 8 < p.settle.length
    · have h2' : (8 : Int) < (p.settle.length : Int) := by omega
      have e2 : (p.settle.take 8).length = 8 := by rw [List.length_take]; omega
      rw [e2]
      clear e2
      go_enter Try.func22, Try.ntmps22
      go_wp2_with fail
      refine (HH.out _).mono ?_
      rintro e w1 ⟨rfl, rfl⟩
      go_wp2_with fail
      refine bodyPost_ret (v := .agg #[.string hd, .slice p.ma 8 p.mc, .int .i64 p.tick, .int .i64 p.low, .int .i64 p.high, .int .i64 p.wide, .int .i64 p.rule, .int .i64 p.top, .int .i64 p.least, .int .i64 p.part, .slice p.sa 8 p.sc]) (by simp [results, Try.results22, go_sem]) rfl ?_
      exact ⟨rfl, HPV.out _ ((Below.allocN w _).alloc (by rw [s1]; omega) _), (Below.allocN w _).alloc (by rw [s1]; omega) _⟩
    · have h2' : ¬ (8 : Int) < (p.settle.length : Int) := by omega
      have e2 : p.settle.take 8 = p.settle := List.take_of_length_le (by omega)
      rw [e2] at HPV ⊢
      clear e2
      go_enter Try.func22, Try.ntmps22
      go_wp2_with fail
      refine (HH.out _).mono ?_
      rintro e w1 ⟨rfl, rfl⟩
      go_wp2_with fail
      refine bodyPost_ret (v := .agg #[.string hd, .slice p.ma 8 p.mc, .int .i64 p.tick, .int .i64 p.low, .int .i64 p.high, .int .i64 p.wide, .int .i64 p.rule, .int .i64 p.top, .int .i64 p.least, .int .i64 p.part, .slice p.sa p.settle.length p.sc]) (by simp [results, Try.results22, go_sem]) rfl ?_
      exact ⟨rfl, HPV.out _ ((Below.allocN w _).alloc (by rw [s1]; omega) _), (Below.allocN w _).alloc (by rw [s1]; omega) _⟩
  · have h1' : ¬ (8 : Int) < (p.months.length : Int) := by omega
    have e1 : p.months.take 8 = p.months := List.take_of_length_le (by omega)
    rw [e1] at HPV ⊢
    clear e1
    by_cases h2 : 8 < p.settle.length
    · have h2' : (8 : Int) < (p.settle.length : Int) := by omega
      have e2 : (p.settle.take 8).length = 8 := by rw [List.length_take]; omega
      rw [e2]
      clear e2
      go_enter Try.func22, Try.ntmps22
      go_wp2_with fail
      refine (HH.out _).mono ?_
      rintro e w1 ⟨rfl, rfl⟩
      go_wp2_with fail
      refine bodyPost_ret (v := .agg #[.string hd, .slice p.ma p.months.length p.mc, .int .i64 p.tick, .int .i64 p.low, .int .i64 p.high, .int .i64 p.wide, .int .i64 p.rule, .int .i64 p.top, .int .i64 p.least, .int .i64 p.part, .slice p.sa 8 p.sc]) (by simp [results, Try.results22, go_sem]) rfl ?_
      exact ⟨rfl, HPV.out _ ((Below.allocN w _).alloc (by rw [s1]; omega) _), (Below.allocN w _).alloc (by rw [s1]; omega) _⟩
    · have h2' : ¬ (8 : Int) < (p.settle.length : Int) := by omega
      have e2 : p.settle.take 8 = p.settle := List.take_of_length_le (by omega)
      rw [e2] at HPV ⊢
      clear e2
      go_enter Try.func22, Try.ntmps22
      go_wp2_with fail
      refine (HH.out _).mono ?_
      rintro e w1 ⟨rfl, rfl⟩
      go_wp2_with fail
      refine bodyPost_ret (v := .agg #[.string hd, .slice p.ma p.months.length p.mc, .int .i64 p.tick, .int .i64 p.low, .int .i64 p.high, .int .i64 p.wide, .int .i64 p.rule, .int .i64 p.top, .int .i64 p.least, .int .i64 p.part, .slice p.sa p.settle.length p.sc]) (by simp [results, Try.results22, go_sem]) rfl ?_
      exact ⟨rfl, HPV.out _ ((Below.allocN w _).alloc (by rw [s1]; omega) _), (Below.allocN w _).alloc (by rw [s1]; omega) _⟩
end Go.Proofs.Ytilficlanliinaa
