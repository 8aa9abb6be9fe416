/- The words of chapter 14: tops and quotes, how they lie, what they make; small walks: other, better. -/
import Derived.Test.YtilficlanliinaaRow
import Derived.Test.YtilficlanliinaaInts
namespace Go.Proofs.Ytilficlanliinaa
open Go.RowKit

/-- an instrument's best prices -/
structure Tp where
  h0 : Bool
  h1 : Bool
  p0 : Int
  p1 : Int
  q0 : Int
  q1 : Int
deriving DecidableEq
structure Qt where
  price : Int
  qty : Int
  i0 : Int
  s0 : Int
  i1 : Int
  s1 : Int
deriving DecidableEq
def Tp.cells (x : Tp) : List Value := [.bool x.h0, .bool x.h1, .int .i64 x.p0, .int .i64 x.p1, .int .i64 x.q0, .int .i64 x.q1]
def Qt.cells (x : Qt) : List Value := [.int .i64 x.price, .int .i64 x.qty, .int .i64 x.i0, .int .i64 x.s0, .int .i64 x.i1, .int .i64 x.s1]
def zeroTp : Tp := ⟨false, false, 0, 0, 0, 0⟩
def zeroQt : Qt := ⟨0, 0, 0, 0, 0, 0⟩
theorem Tp.ones (x : Tp) : ∀ u ∈ x.cells, u.oneCell' = true := by
  intro u hu
  simp only [Tp.cells, List.mem_cons, List.not_mem_nil, or_false] at hu
  rcases hu with rfl | rfl | rfl | rfl | rfl | rfl <;> rfl
theorem Qt.ones (x : Qt) : ∀ u ∈ x.cells, u.oneCell' = true := by
  intro u hu
  simp only [Qt.cells, List.mem_cons, List.not_mem_nil, or_false] at hu
  rcases hu with rfl | rfl | rfl | rfl | rfl | rfl <;> rfl
/-- the four ways that they lie -/
def TP : Lay Tp := ⟨Tp.cells, 6, fun _ => rfl, Tp.ones, by omega, 42, 26, .agg zeroTp.cells.toArray, 40, Try.underlying26, by kernel_rfl, by rfl, by omega⟩
def QT : Lay Qt := ⟨Qt.cells, 6, fun _ => rfl, Qt.ones, by omega, 38, 30, .agg zeroQt.cells.toArray, 48, Try.underlying30, by kernel_rfl, by rfl, by omega⟩
def RTP : Lay Tp := ⟨Tp.cells, 6, fun _ => rfl, Tp.ones, by omega, 84, 67, .agg zeroTp.cells.toArray, 40, Try.underlying67, by kernel_rfl, by rfl, by omega⟩
def RQT : Lay Qt := ⟨Qt.cells, 6, fun _ => rfl, Qt.ones, by omega, 72, 65, .agg zeroQt.cells.toArray, 48, Try.underlying65, by kernel_rfl, by rfl, by omega⟩

/-! ### what two legs make -/
/-- a side: 0 is Buy's place, 1 is Sell's -/
def Tp.has (x : Tp) (k : Int) : Bool := if k = 1 then x.h0 else x.h1
def Tp.price (x : Tp) (k : Int) : Int := if k = 1 then x.p0 else x.p1
def Tp.qty (x : Tp) (k : Int) : Int := if k = 1 then x.q0 else x.q1
structure Tp.ok (x : Tp) : Prop where
  p0 : i64ok x.p0
  p1 : i64ok x.p1
  q0 : i64ok x.q0
  q1 : i64ok x.q1
/-- one more quote, or none: a, b: its legs; the prices together, or (less) the second less the first -/
def mkQ (L : List Tp) (ai sa bi sb : Int) (less : Bool) : Option Qt :=
  match L[ai.toNat]?, L[bi.toNat]? with
  | some x, some y =>
    if x.has sa = true ∧ y.has sb = true then
      let r := if less = true then subP (y.price sb) (x.price sa) else addP (x.price sa) (y.price sb)
      if r.2 = true then some ⟨r.1, min (x.qty sa) (y.qty sb), ai, sa, bi, sb⟩ else none
    else none
  | _, _ => none
def oth (s : Int) : Int := 3 - s
set_option maxHeartbeats 400000 in
theorem other_any (s : Int) (w : World) :
    Calls Try.prog 26 #[.int .i64 s] w fun e w' => e = .returned (.int .i64 (wrap64 (3 - s))) ∧ w = w' := by

  go_enter Try.func26, Try.ntmps26
  go_wp2_with fail
  go_ret
  exact ⟨by trivial, by trivial⟩
set_option maxHeartbeats 400000 in
theorem rother_any (s : Int) (w : World) :
    Calls Try.prog 44 #[.int .i64 s] w fun e w' => e = .returned (.int .i64 (wrap64 (3 - s))) ∧ w = w' := by

  go_enter Try.func44, Try.ntmps44
  go_wp2_with fail
  go_ret
  exact ⟨by trivial, by trivial⟩
def betterP (side x y : Int) : Bool := if side = 1 then decide (y < x) else decide (x < y)
set_option maxHeartbeats 400000 in
theorem better_any (side x y : Int) (w : World) :
    Calls Try.prog 36 #[.int .i64 side, .int .i64 x, .int .i64 y] w fun e w' => e = .returned (.bool (betterP side x y)) ∧ w = w' := by
  by_cases h : side = 1
  · subst h
    go_enter Try.func36, Try.ntmps36
    go_wp2_with fail
    go_ret
    exact ⟨by rfl, by trivial⟩
  · have hv : betterP side x y = decide (x < y) := if_neg h
    rw [hv]
    have h1 : (side == 1) = false := by rw [beq_eq_false_iff_ne]; exact h
    clear h hv
    go_enter Try.func36, Try.ntmps36
    go_wp2_with fail
    go_ret
    exact ⟨by rfl, by trivial⟩
set_option maxHeartbeats 400000 in
theorem rbetter_any (side x y : Int) (w : World) :
    Calls Try.prog 47 #[.int .i64 side, .int .i64 x, .int .i64 y] w fun e w' => e = .returned (.bool (betterP side x y)) ∧ w = w' := by
  by_cases h : side = 1
  · subst h
    go_enter Try.func47, Try.ntmps47
    go_wp2_with fail
    go_ret
    exact ⟨by rfl, by trivial⟩
  · have hv : betterP side x y = decide (x < y) := if_neg h
    rw [hv]
    have h1 : (side == 1) = false := by rw [beq_eq_false_iff_ne]; exact h
    clear h hv
    go_enter Try.func47, Try.ntmps47
    go_wp2_with fail
    go_ret
    exact ⟨by rfl, by trivial⟩
end Go.Proofs.Ytilficlanliinaa
