/- The walk of cornhillref14.Show. -/
import Derived.Test.YtilficlanliinaaRBest
import Derived.Test.YtilficlanliinaaShow14
namespace Go.Proofs.Ytilficlanliinaa
open Go.RowKit

set_option maxRecDepth 100000 in
set_option maxHeartbeats 16000000 in
theorem rshow_any (A : List Qt) (aa : Option Addr) (ac : Nat) (side : Int) (w : World) (hA : RQT.Rd w aa A) (hl : A.length ≤ 1000000) :
    Calls Try.prog 33 #[.slice aa A.length ac, .int .i64 side] w fun e w' => e = .returned (.tuple #[.int .i64 (showP A side).1, .int .i64 (showP A side).2.1, .int .i64 (showP A side).2.2.1, .bool (showP A side).2.2.2]) ∧ Below w.heap.size w w' := by
  have s1 : ∀ (w : World) (o : Obj), (w.alloc o).heap.size = w.heap.size + 1 := fun w o => by simp
  have hbe := rbest_any A aa ac side w hA hl
  have HA := Lib.hid hA
  clear hA
  obtain ⟨x, ok, hxo⟩ : ∃ x ok, bestP A side = (x, ok) := ⟨_, _, rfl⟩
  rw [hxo] at hbe
  unfold showP
  rw [hxo]
  have HXO := Lib.hid hxo
  clear hxo
  cases ok with
  | false =>
    simp only [Bool.false_eq_true, if_false]
    go_enter Try.func33, Try.ntmps33
    go_wp2_with fail
    refine hbe.mono ?_
    rintro e w1 ⟨rfl, hb⟩
    have HB := Lib.hid hb
    clear hb hbe
    simp only [Qt.cells]
    go_wp2_with fail
    refine bodyPost_ret (v := .tuple #[.int .i64 0, .int .i64 0, .int .i64 0, .bool false]) (by simp [results, Try.results33, go_sem]) rfl ?_
    exact ⟨rfl, HB.out.trans ((Below.allocN _ _).mono HB.out.size)⟩
  | true =>
    simp only [if_true]
    have HMO := Lib.hid fun (k : Nat) (q : Qt) (h : A[k]? = some q) => mostTo_succ x h
    have HMA := Lib.hid fun (k : Nat) (q : Qt) (h : A[k]? = some q) => manyTo_succ x h
    have HLE := Lib.hid (manyTo_le A x)
    have H00 : Hid (mostTo A x 0 = x.qty ∧ manyTo A x 0 = 0) := Lib.hid ⟨rfl, rfl⟩
    go_enter Try.func33, Try.ntmps33
    go_wp2_with fail
    refine hbe.mono ?_
    rintro e w1 ⟨rfl, hb⟩
    have HB1 := Lib.hid hb
    clear hb hbe
    simp only [Qt.cells]
    go_upto_region 2 with (fail)
    have hX : Blk (w1.alloc (.cells #[.int .i64 x.price, .int .i64 x.qty, .int .i64 x.i0, .int .i64 x.s0, .int .i64 x.i1, .int .i64 x.s1] 72)) w1.heap.size 72 #[.int .i64 x.price, .int .i64 x.qty, .int .i64 x.i0, .int .i64 x.s0, .int .i64 x.i1, .int .i64 x.s1] := Blk.new _ _ _
    have hB2 : Below w.heap.size w (w1.alloc (.cells #[.int .i64 x.price, .int .i64 x.qty, .int .i64 x.i0, .int .i64 x.s0, .int .i64 x.i1, .int .i64 x.s1] 72)) := HB1.out.alloc HB1.out.size _
    have HX := Lib.hid hX
    have HB2 := Lib.hid hB2
    clear hX hB2 HB1
    generalize w1.alloc (.cells #[.int .i64 x.price, .int .i64 x.qty, .int .i64 x.i0, .int .i64 x.s0, .int .i64 x.i1, .int .i64 x.s1] 72) = w2 at *
    generalize w1.heap.size = gx at *
    have c1 : w2.cell? ⟨gx, 1, none⟩ = some (.int .i64 x.qty) := HX.out.cell 1
    go_wp2_with fail
    clear c1
    go_loopw [10, 11, 12] (fun m n j w' => ∃ k : Nat, m = .int .i64 (mostTo A x k) ∧ n = .int .i64 (manyTo A x k) ∧ j = .int .i64 k ∧ k ≤ A.length ∧ Below w.heap.size w w' ∧ Blk w' gx 72 #[.int .i64 x.price, .int .i64 x.qty, .int .i64 x.i0, .int .i64 x.s0, .int .i64 x.i1, .int .i64 x.s1]) (fun _ _ j _ => A.length - (intOf j).toNat)
    case atStart => exact ⟨0, by rw [H00.out.1], by rw [H00.out.2]; rfl, rfl, Nat.zero_le _, HB2.out, HX.out⟩
    case round =>
      clear HX HB2
      obtain ⟨k, rfl, rfl, rfl, hk, hb, hx⟩ := hrel
      obtain ⟨wz, rfl⟩ : ∃ wo : World, wo = wr := ⟨_, rfl⟩
      have HX := Lib.hid hx
      have HB := Lib.hid hb
      clear hx hb
      by_cases hkn : k < A.length
      · have hkn' : (k : Int) < (A.length : Int) := by omega
        obtain ⟨q, hq⟩ : ∃ q, A[k]? = some q := ⟨_, List.getElem?_eq_getElem hkn⟩
        have hmo := HMO.out k q hq
        have hma := HMA.out k q hq
        have hml := HLE.out k
        generalize mostTo A x k = mo at *
        generalize manyTo A x k = ma at *
        have HM1 := Lib.hid hmo
        have HM2 := Lib.hid hma
        clear hmo hma
        obtain ⟨b, off, rfl, hbl, hcq⟩ := HA.out k q hq
        have HCQ : Hid (∀ wv, Below w.heap.size w wv → CellsAt wv b (off + k * 6) q.cells) := Lib.hid fun wv hb => hcq.below hb hbl
        have q0 : wz.cell? ⟨b, off + k * 6, none⟩ = some (.int .i64 q.price) := HCQ.out _ HB.out 0 _ rfl
        have c0 : wz.cell? ⟨gx, 0, none⟩ = some (.int .i64 x.price) := HX.out.cell 0
        clear hcq hq hbl
        go_upto_region 8 with (fail)
        go_quiet (fail)
        have hbq : Below wz.heap.size wz (wz.drewN nq) := Below.drewN_of wz nq
        have HB2 := Lib.hid (HB.out.trans (hbq.mono HB.out.size))
        have HX2 := Lib.hid (HX.out.below hbq)
        clear hbq q0 c0 HB HX
        generalize wz.drewN nq = w3 at *
        by_cases hp : q.price = x.price
        · rw [if_pos hp] at HM1 HM2
          have hz : (q.price == x.price) = true := by rw [beq_iff_eq]; exact hp
          have y1 : IntKind.i64.wrap ((ma : Int) + 1) = (ma : Int) + 1 := IntWalk.i64_in _ (by omega)
          have q1 : w3.cell? ⟨b, off + k * 6 + 1, none⟩ = some (.int .i64 q.qty) := HCQ.out _ HB2.out 1 _ rfl
          clear hp
          by_cases hmq : mo < q.qty
          · rw [if_pos hmq] at HM1
            go_wp2_with fail
            clear q1
            go_roundw
            case rel => exact ⟨k + 1, by rw [HM1.out], by rw [HM2.out]; rfl, by go_num, by omega, HB2.out, HX2.out⟩
            case measure => simp [intOf]; omega
          · rw [if_neg hmq] at HM1
            go_wp2_with fail
            clear q1
            go_roundw
            case rel => exact ⟨k + 1, by rw [HM1.out], by rw [HM2.out]; rfl, by go_num, by omega, HB2.out, HX2.out⟩
            case measure => simp [intOf]; omega
        · rw [if_neg hp] at HM1 HM2
          have hz : (q.price == x.price) = false := by rw [beq_eq_false_iff_ne]; exact hp
          clear hp
          go_wp2_with fail
          go_roundw
          case rel => exact ⟨k + 1, by rw [HM1.out], by rw [HM2.out]; rfl, by go_num, by omega, HB2.out, HX2.out⟩
          case measure => simp [intOf]; omega
      · obtain rfl : k = A.length := by omega
        have c0 : wz.cell? ⟨gx, 0, none⟩ = some (.int .i64 x.price) := HX.out.cell 0
        go_wp2_with fail
        refine bodyPost_ret (v := .tuple #[.int .i64 x.price, .int .i64 (mostTo A x A.length), .int .i64 (manyTo A x A.length), .bool true]) (by simp [results, Try.results33, go_sem]) rfl ?_
        exact ⟨rfl, HB.out⟩
end Go.Proofs.Ytilficlanliinaa
