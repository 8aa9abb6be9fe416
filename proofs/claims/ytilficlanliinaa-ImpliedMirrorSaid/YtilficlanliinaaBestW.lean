/- The walk of implied.Best. -/
import Derived.Test.YtilficlanliinaaBest14
import Derived.Deep.DeepCutAuto
namespace Go.Proofs.Ytilficlanliinaa
open Go.RowKit

set_option maxRecDepth 100000 in
set_option maxHeartbeats 16000000 in
theorem best_any (A : List Qt) (aa : Option Addr) (ac : Nat) (side : Int) (w : World) (hA : QT.Rd w aa A) (hl : A.length ≤ 1000000) (hs : A = [] ∨ side = 1 ∨ side = 2) :
    Calls Try.prog 21 #[.slice aa A.length ac, .int .i64 side] w fun e w' => e = .returned (.tuple #[.agg (bestP A side).1.cells.toArray, .bool (bestP A side).2]) ∧ Below w.heap.size w w' := by
  have s1 : ∀ (w : World) (o : Obj), (w.alloc o).heap.size = w.heap.size + 1 := fun w o => by simp
  have HA := Lib.hid hA
  clear hA
  cases A with
  | nil =>
    clear hs
    go_enter Try.func21, Try.ntmps21
    go_wp2_with fail
    refine bodyPost_ret (v := .tuple #[.agg zeroQt.cells.toArray, .bool false]) (by simp [results, Try.results21, go_sem, zeroQt, Qt.cells]) rfl ?_
    exact ⟨rfl, (Below.allocN w _)⟩
  | cons x l =>
    have hsd : side = 1 ∨ side = 2 := by
      rcases hs with h | h
      · cases h
      · exact h
    have HSD := Lib.hid hsd
    have hx : (x :: l)[0]? = some x := rfl
    have HTO := Lib.hid fun (k : Nat) (q : Qt) (h : (x :: l)[k]? = some q) => bestTo_succ side h
    have HEND := Lib.hid (bestTo_end (l := x :: l) side (Nat.zero_lt_succ _))
    have H0 : Hid (bestTo (x :: l) side 0 = x) := Lib.hid rfl
    rw [HEND.out]
    clear hs hsd HEND
    generalize hAA : x :: l = A at *
    have h0 : 0 < A.length := by rw [← hAA]; exact Nat.zero_lt_succ _
    have e1 : (A.length == 0) = false := by rw [beq_eq_false_iff_ne]; omega
    have e2 : ((A.length : Int) == 0) = false := by rw [beq_eq_false_iff_ne]; omega
    have h0' : (0 : Int) < (A.length : Int) := by omega
    clear hAA
    obtain ⟨b, off, rfl, hbl, hcx⟩ := HA.out 0 x hx
    rw [Nat.zero_mul, Nat.add_zero] at hcx
    have q0 : w.cell? ⟨b, off, none⟩ = some (.int .i64 x.price) := hcx 0 _ rfl
    have q1 : w.cell? ⟨b, off + 1, none⟩ = some (.int .i64 x.qty) := hcx 1 _ rfl
    have q2 : w.cell? ⟨b, off + 2, none⟩ = some (.int .i64 x.i0) := hcx 2 _ rfl
    have q3 : w.cell? ⟨b, off + 3, none⟩ = some (.int .i64 x.s0) := hcx 3 _ rfl
    have q4 : w.cell? ⟨b, off + 4, none⟩ = some (.int .i64 x.i1) := hcx 4 _ rfl
    have q5 : w.cell? ⟨b, off + 5, none⟩ = some (.int .i64 x.s1) := hcx 5 _ rfl
    have hbd := Below.allocN w (.cells zeroQt.cells.toArray 38)
    have g0 := (hbd.cell (p := ⟨b, off, none⟩) hbl).trans q0
    have g1 := (hbd.cell (p := ⟨b, off + 1, none⟩) hbl).trans q1
    have g2 := (hbd.cell (p := ⟨b, off + 2, none⟩) hbl).trans q2
    have g3 := (hbd.cell (p := ⟨b, off + 3, none⟩) hbl).trans q3
    have g4 := (hbd.cell (p := ⟨b, off + 4, none⟩) hbl).trans q4
    have g5 := (hbd.cell (p := ⟨b, off + 5, none⟩) hbl).trans q5
    have hres : Blk (w.alloc (.cells zeroQt.cells.toArray 38)) w.heap.size 38 zeroQt.cells.toArray := Blk.new _ _ _
    have HRES := Lib.hid hres
    have HBD := Lib.hid hbd
    clear hcx q0 q1 q2 q3 q4 q5 hbd hres hx
    simp only [zeroQt, Qt.cells] at g0 g1 g2 g3 g4 g5
    go_enter Try.func21, Try.ntmps21
    go_upto_region 1 with (fail)
    simp only [zeroQt, Qt.cells] at HRES HBD
    generalize hw0 : w.alloc (.cells #[.int .i64 0, .int .i64 0, .int .i64 0, .int .i64 0, .int .i64 0, .int .i64 0] 38) = w0 at *
    clear hw0
    go_cut [19] (fun u wx => u = .bool false ∧ w0 = wx)
    case first =>
      rcases HSD.out with rfl | rfl
      all_goals
        go_wp2_with fail
        go_meet
        exact ⟨by rfl, rfl⟩
    case rest =>
    obtain ⟨rfl, rfl⟩ := hcut
    go_upto_region 4 with (fail)
    clear g0 g1 g2 g3 g4 g5 e1 e2
    have hgz : w.heap.size < w0.heap.size := HRES.out.lt
    have hB : BS w (w0.alloc (.cells #[.int .i64 x.price, .int .i64 x.qty, .int .i64 x.i0, .int .i64 x.s0, .int .i64 x.i1, .int .i64 x.s1] 38)) w.heap.size w0.heap.size (some ⟨b, off, none⟩) A zeroQt x :=
      ⟨HBD.out.alloc HBD.out.size _, HRES.out.alloc _, Blk.new _ _ _, HA.out, Nat.le_refl _, by omega, by omega⟩
    have HB := Lib.hid hB
    clear hB HRES HBD HA
    generalize w0.alloc (.cells #[.int .i64 x.price, .int .i64 x.qty, .int .i64 x.i0, .int .i64 x.s0, .int .i64 x.i1, .int .i64 x.s1] 38) = w1 at *
    generalize w0.heap.size = gb at *
    go_wp2_with fail
    go_loopw [26] (fun j w' => ∃ k : Nat, j = .int .i64 k ∧ k ≤ A.length ∧ BS w w' w.heap.size gb (some ⟨b, off, none⟩) A zeroQt (bestTo A side k)) (fun j _ => A.length - (intOf j).toNat)
    case atStart => exact ⟨0, rfl, Nat.zero_le _, by rw [H0.out]; exact HB.out⟩
    case round =>
      clear HB
      obtain ⟨k, rfl, hk, hB⟩ := hrel
      obtain ⟨wz, rfl⟩ : ∃ wo : World, wo = wr := ⟨_, rfl⟩
      by_cases hkn : k < A.length
      · have hkn' : (k : Int) < (A.length : Int) := by omega
        obtain ⟨q, hq⟩ : ∃ q, A[k]? = some q := ⟨_, List.getElem?_eq_getElem hkn⟩
        have hto := HTO.out k q hq
        generalize bestTo A side k = z at *
        have HB := Lib.hid hB
        have HT := Lib.hid hto
        clear hB hto
        obtain ⟨b', off', he, hbl2, hcq⟩ := HB.out.rd k q hq
        injection he with he
        injection he with he1 he2
        subst he1
        subst he2
        have hcq2 := hcq.below HB.out.bel hbl2
        have q0 : wz.cell? ⟨b, off + k * 6, none⟩ = some (.int .i64 q.price) := hcq2 0 _ rfl
        have q1 : wz.cell? ⟨b, off + k * 6 + 1, none⟩ = some (.int .i64 q.qty) := hcq2 1 _ rfl
        have q2 : wz.cell? ⟨b, off + k * 6 + 2, none⟩ = some (.int .i64 q.i0) := hcq2 2 _ rfl
        have q3 : wz.cell? ⟨b, off + k * 6 + 3, none⟩ = some (.int .i64 q.s0) := hcq2 3 _ rfl
        have q4 : wz.cell? ⟨b, off + k * 6 + 4, none⟩ = some (.int .i64 q.i1) := hcq2 4 _ rfl
        have q5 : wz.cell? ⟨b, off + k * 6 + 5, none⟩ = some (.int .i64 q.s1) := hcq2 5 _ rfl
        clear hcq hcq2 hq hbl2
        go_upto_region 7 with (fail)
        clear q0 q1 q2 q3 q4 q5
        have HQ : Hid (Blk (wz.alloc (.cells #[.int .i64 q.price, .int .i64 q.qty, .int .i64 q.i0, .int .i64 q.s0, .int .i64 q.i1, .int .i64 q.s1] 38)) wz.heap.size 38 #[.int .i64 q.price, .int .i64 q.qty, .int .i64 q.i0, .int .i64 q.s0, .int .i64 q.i1, .int .i64 q.s1]) := Lib.hid (Blk.new _ _ _)
        have HB2 := Lib.hid (HB.out.next (Below.allocN wz (.cells #[.int .i64 q.price, .int .i64 q.qty, .int .i64 q.i0, .int .i64 q.s0, .int .i64 q.i1, .int .i64 q.s1] 38)))
        clear HB
        generalize wz.alloc (.cells #[.int .i64 q.price, .int .i64 q.qty, .int .i64 q.i0, .int .i64 q.s0, .int .i64 q.i1, .int .i64 q.s1] 38) = w3 at *
        generalize wz.heap.size = gq at *
        obtain ⟨c0, c1, c2, c3, c4, c5⟩ := QC.of HB2.out.best
        have d0 : w3.cell? ⟨gq, 0, none⟩ = some (.int .i64 q.price) := HQ.out.cell 0
        have d1 : w3.cell? ⟨gq, 1, none⟩ = some (.int .i64 q.qty) := HQ.out.cell 1
        have d2 : w3.cell? ⟨gq, 2, none⟩ = some (.int .i64 q.i0) := HQ.out.cell 2
        have d3 : w3.cell? ⟨gq, 3, none⟩ = some (.int .i64 q.s0) := HQ.out.cell 3
        have d4 : w3.cell? ⟨gq, 4, none⟩ = some (.int .i64 q.i1) := HQ.out.cell 4
        have d5 : w3.cell? ⟨gq, 5, none⟩ = some (.int .i64 q.s1) := HQ.out.cell 5
        have fz : ∀ o, w3.frozen? ⟨gb, o, none⟩ = false := fun o => HB2.out.best.frozen o
        have HBT := Lib.hid fun w => better_any side q.price z.price w
        unfold bestStep at HT
        cases hbt : betterP side q.price z.price with
        | false =>
          rw [hbt] at HBT HT
          rw [if_neg (by simp)] at HT
          clear hbt
          go_wp2_with (go_at_call 36; refine (HBT.out _).mono ?_; rintro e w4 ⟨rfl, rfl⟩)
          go_roundw
          case rel => exact ⟨k + 1, by go_num, by omega, by rw [HT.out]; exact HB2.out⟩
          case measure => simp [intOf]; omega
        | true =>
          rw [hbt] at HBT HT
          rw [if_pos rfl] at HT
          clear hbt
          go_wp2_with (go_at_call 36; refine (HBT.out _).mono ?_; rintro e w4 ⟨rfl, rfl⟩)
          have HB3 : Hid (BS w ((((((w3.setCell ⟨gb, 0, none⟩ (.int .i64 q.price)).setCell ⟨gb, 1, none⟩ (.int .i64 q.qty)).setCell ⟨gb, 2, none⟩ (.int .i64 q.i0)).setCell ⟨gb, 3, none⟩ (.int .i64 q.s0)).setCell ⟨gb, 4, none⟩ (.int .i64 q.i1)).setCell ⟨gb, 5, none⟩ (.int .i64 q.s1)) w.heap.size gb (some ⟨b, off, none⟩) A zeroQt q) := Lib.hid (by
            have hk := Keeps.fill6 w3 gb (.int .i64 q.price) (.int .i64 q.qty) (.int .i64 q.i0) (.int .i64 q.s0) (.int .i64 q.i1) (.int .i64 q.s1)
            exact ⟨HB2.out.bel.trans (hk.below (fun g hg => by have hg' : g = gb := hg; have := HB2.out.gb0; omega) HB2.out.bel.size), HB2.out.res.keeps hk HB2.out.ne, HB2.out.best.fill6 _ _ _ _ _ _, HB2.out.rd, HB2.out.gr0, HB2.out.gb0, HB2.out.ne⟩)
          clear c0 c1 c2 c3 c4 c5 d0 d1 d2 d3 d4 d5 fz HB2 HQ
          go_roundw
          case rel => exact ⟨k + 1, by go_num, by omega, by rw [HT.out]; exact HB3.out⟩
          case measure => simp [intOf]; omega
      · obtain rfl : k = A.length := by omega
        obtain ⟨z, hz⟩ : ∃ z, bestTo A side A.length = z := ⟨_, rfl⟩
        rw [hz] at hB
        have HZ := Lib.hid hz
        clear hz
        have HB := Lib.hid hB
        clear hB
        obtain ⟨c0, c1, c2, c3, c4, c5⟩ := QC.of HB.out.best
        obtain ⟨d0, d1, d2, d3, d4, d5⟩ := QC.of HB.out.res
        have fz : ∀ o, wz.frozen? ⟨w.heap.size, o, none⟩ = false := fun o => HB.out.res.frozen o
        go_wp2_with fail
        clear c0 c1 c2 c3 c4 c5 d0 d1 d2 d3 d4 d5 fz
        have hk := Keeps.fill6 wz w.heap.size (.int .i64 z.price) (.int .i64 z.qty) (.int .i64 z.i0) (.int .i64 z.s0) (.int .i64 z.i1) (.int .i64 z.s1)
        have hbf := HB.out.bel.trans (hk.below (fun g hg => by have hg' : g = w.heap.size := hg; omega) HB.out.bel.size)
        have hrf := HB.out.res.fill6 (.int .i64 z.price) (.int .i64 z.qty) (.int .i64 z.i0) (.int .i64 z.s0) (.int .i64 z.i1) (.int .i64 z.s1)
        clear hk
        generalize ((((((wz.setCell ⟨w.heap.size, 0, none⟩ (.int .i64 z.price)).setCell ⟨w.heap.size, 1, none⟩ (.int .i64 z.qty)).setCell ⟨w.heap.size, 2, none⟩ (.int .i64 z.i0)).setCell ⟨w.heap.size, 3, none⟩ (.int .i64 z.s0)).setCell ⟨w.heap.size, 4, none⟩ (.int .i64 z.i1)).setCell ⟨w.heap.size, 5, none⟩ (.int .i64 z.s1)) = wf at *
        obtain ⟨c0, c1, c2, c3, c4, c5⟩ := QC.of (q := z) hrf
        clear hrf
        refine bodyPost_ret (v := .tuple #[.agg #[.int .i64 z.price, .int .i64 z.qty, .int .i64 z.i0, .int .i64 z.s0, .int .i64 z.i1, .int .i64 z.s1], .bool true]) (by simp [results, Try.results21, go_sem, c0, c1, c2, c3, c4, c5]) rfl ?_
        exact ⟨by rw [HZ.out]; rfl, hbf⟩
end Go.Proofs.Ytilficlanliinaa
