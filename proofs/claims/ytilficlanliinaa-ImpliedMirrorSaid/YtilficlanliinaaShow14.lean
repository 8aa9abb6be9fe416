/- The walk of implied.Show. -/
import Derived.Test.YtilficlanliinaaBestW
namespace Go.Proofs.Ytilficlanliinaa
open Go.RowKit

def mostTo (l : List Qt) (x : Qt) (k : Nat) : Int := (l.take k).foldl (fun m q => if q.price = x.price then (if m < q.qty then q.qty else m) else m) x.qty
def manyTo (l : List Qt) (x : Qt) (k : Nat) : Nat := ((l.take k).filter (fun q => q.price == x.price)).length
def showP (l : List Qt) (side : Int) : Int × Int × Int × Bool :=
  if (bestP l side).2 = true then ((bestP l side).1.price, mostTo l (bestP l side).1 l.length, (manyTo l (bestP l side).1 l.length : Int), true) else (0, 0, 0, false)
theorem mostTo_succ {l : List Qt} {k : Nat} {q : Qt} (x : Qt) (h : l[k]? = some q) : mostTo l x (k + 1) = if q.price = x.price then (if mostTo l x k < q.qty then q.qty else mostTo l x k) else mostTo l x k := by
  unfold mostTo
  rw [List.take_add_one, h, List.foldl_append]
  rfl
theorem manyTo_succ {l : List Qt} {k : Nat} {q : Qt} (x : Qt) (h : l[k]? = some q) : manyTo l x (k + 1) = manyTo l x k + (if q.price = x.price then 1 else 0) := by
  unfold manyTo
  rw [List.take_add_one, h, List.filter_append, List.length_append]
  congr 1
  show (List.filter _ [q]).length = _
  by_cases hq : q.price = x.price
  · rw [if_pos hq, List.filter_cons_of_pos (by simpa using hq)]; rfl
  · rw [if_neg hq, List.filter_cons_of_neg (by simpa using hq)]; rfl
theorem manyTo_le (l : List Qt) (x : Qt) (k : Nat) : manyTo l x k ≤ l.length := by
  unfold manyTo
  have h1 := List.length_filter_le (fun q : Qt => q.price == x.price) (l.take k)
  have h2 : (l.take k).length ≤ l.length := by rw [List.length_take]; omega
  omega
set_option maxRecDepth 100000 in
set_option maxHeartbeats 16000000 in
theorem show_any (A : List Qt) (aa : Option Addr) (ac : Nat) (side : Int) (w : World) (hA : QT.Rd w aa A) (hl : A.length ≤ 1000000) (hs : A = [] ∨ side = 1 ∨ side = 2) :
    Calls Try.prog 23 #[.slice aa A.length ac, .int .i64 side] w fun e w' => e = .returned (.tuple #[.int .i64 (showP A side).1, .int .i64 (showP A side).2.1, .int .i64 (showP A side).2.2.1, .bool (showP A side).2.2.2]) ∧ Below w.heap.size w w' := by
  have s1 : ∀ (w : World) (o : Obj), (w.alloc o).heap.size = w.heap.size + 1 := fun w o => by simp
  have hbe := best_any A aa ac side w hA hl hs
  have HA := Lib.hid hA
  clear hA hs
  obtain ⟨x, ok, hxo⟩ : ∃ x ok, bestP A side = (x, ok) := ⟨_, _, rfl⟩
  rw [hxo] at hbe
  unfold showP
  rw [hxo]
  have HXO := Lib.hid hxo
  clear hxo
  cases ok with
  | false =>
    simp only [Bool.false_eq_true, if_false]
    go_enter Try.func23, Try.ntmps23
    go_wp2_with fail
    refine hbe.mono ?_
    rintro e w1 ⟨rfl, hb⟩
    have HB := Lib.hid hb
    clear hb hbe
    simp only [Qt.cells]
    go_wp2_with fail
    refine bodyPost_ret (v := .tuple #[.int .i64 0, .int .i64 0, .int .i64 0, .bool false]) (by simp [results, Try.results23, go_sem]) rfl ?_
    exact ⟨rfl, HB.out.trans ((Below.allocN _ _).mono HB.out.size)⟩
  | true =>
    simp only [if_true]
    have HMO := Lib.hid fun (k : Nat) (q : Qt) (h : A[k]? = some q) => mostTo_succ x h
    have HMA := Lib.hid fun (k : Nat) (q : Qt) (h : A[k]? = some q) => manyTo_succ x h
    have HLE := Lib.hid (manyTo_le A x)
    have H00 : Hid (mostTo A x 0 = x.qty ∧ manyTo A x 0 = 0) := Lib.hid ⟨rfl, rfl⟩
    go_enter Try.func23, Try.ntmps23
    go_wp2_with fail
    refine hbe.mono ?_
    rintro e w1 ⟨rfl, hb⟩
    have HB1 := Lib.hid hb
    clear hb hbe
    simp only [Qt.cells]
    go_upto_region 2 with (fail)
    have hX : Blk (w1.alloc (.cells #[.int .i64 x.price, .int .i64 x.qty, .int .i64 x.i0, .int .i64 x.s0, .int .i64 x.i1, .int .i64 x.s1] 38)) w1.heap.size 38 #[.int .i64 x.price, .int .i64 x.qty, .int .i64 x.i0, .int .i64 x.s0, .int .i64 x.i1, .int .i64 x.s1] := Blk.new _ _ _
    have hB2 : Below w.heap.size w (w1.alloc (.cells #[.int .i64 x.price, .int .i64 x.qty, .int .i64 x.i0, .int .i64 x.s0, .int .i64 x.i1, .int .i64 x.s1] 38)) := HB1.out.alloc HB1.out.size _
    have HX := Lib.hid hX
    have HB2 := Lib.hid hB2
    clear hX hB2 HB1
    generalize w1.alloc (.cells #[.int .i64 x.price, .int .i64 x.qty, .int .i64 x.i0, .int .i64 x.s0, .int .i64 x.i1, .int .i64 x.s1] 38) = w2 at *
    generalize w1.heap.size = gx at *
    have c1 : w2.cell? ⟨gx, 1, none⟩ = some (.int .i64 x.qty) := HX.out.cell 1
    go_wp2_with fail
    clear c1
    go_loopw [10, 11, 26] (fun m n j w' => ∃ k : Nat, m = .int .i64 (mostTo A x k) ∧ n = .int .i64 (manyTo A x k) ∧ j = .int .i64 k ∧ k ≤ A.length ∧ Below w.heap.size w w' ∧ Blk w' gx 38 #[.int .i64 x.price, .int .i64 x.qty, .int .i64 x.i0, .int .i64 x.s0, .int .i64 x.i1, .int .i64 x.s1]) (fun _ _ j _ => A.length - (intOf j).toNat)
    case atStart => exact ⟨0, by rw [H00.out.1], by rw [H00.out.2]; rfl, rfl, Nat.zero_le _, HB2.out, HX.out⟩
    case round =>
      clear HX HB2
      obtain ⟨k, rfl, rfl, rfl, hk, hb, hx⟩ := hrel
      obtain ⟨wz, rfl⟩ : ∃ wo : World, wo = wr := ⟨_, rfl⟩
      have HX := Lib.hid hx
      have HB := Lib.hid hb
      clear hx hb
      by_cases hkn : k < A.length
      · have hkn' : (k : Int) < (A.length : Int) := by omega
        obtain ⟨q, hq⟩ : ∃ q, A[k]? = some q := ⟨_, List.getElem?_eq_getElem hkn⟩
        have hmo := HMO.out k q hq
        have hma := HMA.out k q hq
        have hml := HLE.out k
        generalize mostTo A x k = mo at *
        generalize manyTo A x k = ma at *
        have HM1 := Lib.hid hmo
        have HM2 := Lib.hid hma
        clear hmo hma
        obtain ⟨b, off, rfl, hbl, hcq⟩ := HA.out k q hq
        have hcq2 := hcq.below HB.out hbl
        have q0 : wz.cell? ⟨b, off + k * 6, none⟩ = some (.int .i64 q.price) := hcq2 0 _ rfl
        have q1 : wz.cell? ⟨b, off + k * 6 + 1, none⟩ = some (.int .i64 q.qty) := hcq2 1 _ rfl
        have q2 : wz.cell? ⟨b, off + k * 6 + 2, none⟩ = some (.int .i64 q.i0) := hcq2 2 _ rfl
        have q3 : wz.cell? ⟨b, off + k * 6 + 3, none⟩ = some (.int .i64 q.s0) := hcq2 3 _ rfl
        have q4 : wz.cell? ⟨b, off + k * 6 + 4, none⟩ = some (.int .i64 q.i1) := hcq2 4 _ rfl
        have q5 : wz.cell? ⟨b, off + k * 6 + 5, none⟩ = some (.int .i64 q.s1) := hcq2 5 _ rfl
        clear hcq hcq2 hq hbl
        go_upto_region 8 with (fail)
        clear q0 q1 q2 q3 q4 q5
        have HQ : Hid (Blk (wz.alloc (.cells #[.int .i64 q.price, .int .i64 q.qty, .int .i64 q.i0, .int .i64 q.s0, .int .i64 q.i1, .int .i64 q.s1] 38)) wz.heap.size 38 #[.int .i64 q.price, .int .i64 q.qty, .int .i64 q.i0, .int .i64 q.s0, .int .i64 q.i1, .int .i64 q.s1]) := Lib.hid (Blk.new _ _ _)
        have HB2 := Lib.hid (HB.out.alloc HB.out.size (.cells #[.int .i64 q.price, .int .i64 q.qty, .int .i64 q.i0, .int .i64 q.s0, .int .i64 q.i1, .int .i64 q.s1] 38))
        have HX2 := Lib.hid (HX.out.alloc (.cells #[.int .i64 q.price, .int .i64 q.qty, .int .i64 q.i0, .int .i64 q.s0, .int .i64 q.i1, .int .i64 q.s1] 38))
        clear HB HX
        generalize wz.alloc (.cells #[.int .i64 q.price, .int .i64 q.qty, .int .i64 q.i0, .int .i64 q.s0, .int .i64 q.i1, .int .i64 q.s1] 38) = w3 at *
        generalize wz.heap.size = gq at *
        have d0 : w3.cell? ⟨gq, 0, none⟩ = some (.int .i64 q.price) := HQ.out.cell 0
        have d1 : w3.cell? ⟨gq, 1, none⟩ = some (.int .i64 q.qty) := HQ.out.cell 1
        have c0 : w3.cell? ⟨gx, 0, none⟩ = some (.int .i64 x.price) := HX2.out.cell 0
        by_cases hp : q.price = x.price
        · rw [if_pos hp] at HM1 HM2
          have hz : (q.price == x.price) = true := by rw [beq_iff_eq]; exact hp
          have y1 : IntKind.i64.wrap ((ma : Int) + 1) = (ma : Int) + 1 := IntWalk.i64_in _ (by omega)
          clear hp
          go_wp2_with fail
          all_goals
            clear c0 d0 d1
            go_roundw
            case rel => exact ⟨k + 1, by rw [HM1.out], by rw [HM2.out]; rfl, by go_num, by omega, HB2.out, HX2.out⟩
            case measure => simp [intOf]; omega
        · rw [if_neg hp] at HM1 HM2
          have hz : (q.price == x.price) = false := by rw [beq_eq_false_iff_ne]; exact hp
          clear hp
          go_wp2_with fail
          clear c0 d0 d1
          go_roundw
          case rel => exact ⟨k + 1, by rw [HM1.out], by rw [HM2.out]; rfl, by go_num, by omega, HB2.out, HX2.out⟩
          case measure => simp [intOf]; omega
      · obtain rfl : k = A.length := by omega
        have c0 : wz.cell? ⟨gx, 0, none⟩ = some (.int .i64 x.price) := HX.out.cell 0
        go_wp2_with fail
        refine bodyPost_ret (v := .tuple #[.int .i64 x.price, .int .i64 (mostTo A x A.length), .int .i64 (manyTo A x A.length), .bool true]) (by simp [results, Try.results23, go_sem]) rfl ?_
        exact ⟨rfl, HB.out⟩
end Go.Proofs.Ytilficlanliinaa
