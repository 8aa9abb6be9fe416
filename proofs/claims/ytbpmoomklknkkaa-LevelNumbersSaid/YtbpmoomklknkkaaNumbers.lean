/- The walk of cornhilllaw8.LevelNumbers. -/
import Derived.Test.YtbpmoomklknkkaaPlays
namespace Go.Proofs.Ytbpmoomklknkkaa
open Go.RowKit

def asksN : List AskR := [⟨2, 0, 0, 1, 1, false⟩, ⟨1, 0, 0, 0, 0, false⟩, ⟨2, 0, 0, 0, 0, false⟩, ⟨2, 0, 0, 0, 1000001, false⟩, ⟨2, 0, 0, 5, 1000000, false⟩, ⟨1, 0, 0, 0, 0, false⟩, ⟨2, 1, 0, 6, 3, true⟩, ⟨2, 1, 0, 7, 3, false⟩, ⟨2, 2, 0, 7, 3, false⟩, ⟨3, 0, 2, 0, 1, false⟩, ⟨3, 0, -1, 0, 1, false⟩, ⟨3, 0, 1, 0, 4, false⟩, ⟨3, 0, 1, 0, 0, false⟩, ⟨4, 0, 0, 0, 0, true⟩, ⟨4, 0, 9, 0, 0, false⟩, ⟨3, 0, 1, 0, 1, false⟩, ⟨3, 0, 1, 0, 2, false⟩, ⟨3, 0, 1, 0, 1, false⟩, ⟨4, 0, 1, 0, 0, false⟩, ⟨2, 0, 0, 8, 2, false⟩, ⟨3, 0, 0, 0, 1000000, false⟩, ⟨2, 0, 0, 9, 2, false⟩]
def AskR.cells (x : AskR) : List Value := [.int .i64 x.kind, .int .i64 x.queue, .int .i64 x.slot, .int .i64 x.id, .int .i64 x.qty, .bool x.top]
theorem AskR.len (x : AskR) : x.cells.length = 6 := rfl
def asksC : Array Value := (asksN.flatMap AskR.cells).toArray
theorem asks_at {w : World} {ab : Nat} (h : Blk w ab 31 asksC) {k : Nat} (hk : k < 22) : ∃ x : AskR, w.cell? ⟨ab, k * 6, none⟩ = some (.int .i64 x.kind) ∧ w.cell? ⟨ab, k * 6 + 1, none⟩ = some (.int .i64 x.queue) ∧ w.cell? ⟨ab, k * 6 + 2, none⟩ = some (.int .i64 x.slot) ∧ w.cell? ⟨ab, k * 6 + 3, none⟩ = some (.int .i64 x.id) ∧ w.cell? ⟨ab, k * 6 + 4, none⟩ = some (.int .i64 x.qty) ∧ w.cell? ⟨ab, k * 6 + 5, none⟩ = some (.bool x.top) := by
  have hl : k < asksN.length := hk
  refine ⟨asksN[k]'hl, ?_⟩
  have key : ∀ i, i < 6 → w.cell? ⟨ab, k * 6 + i, none⟩ = ((asksN[k]'hl).cells)[i]? := by
    intro i hi
    rw [h.cell]
    unfold asksC
    rw [List.getElem?_toArray]
    exact fm_get AskR.cells 6 AskR.len asksN k i hl hi
  exact ⟨key 0 (by omega), key 1 (by omega), key 2 (by omega), key 3 (by omega), key 4 (by omega), key 5 (by omega)⟩

set_option maxRecDepth 100000 in
set_option maxHeartbeats 4000000 in
theorem numbers_any (W : World) :
    Calls Try.prog 6 #[] W fun e w' => e = .returned (.bool true) ∧ Below W.heap.size W w' := by
  go_enter Try.func6, Try.ntmps6
  go_wp2_with fail
  refine (new_no 0 _ (by omega)).mono ?_
  rintro e w0 ⟨rfl, rfl⟩
  go_wp2_with fail
  refine (new_no 4097 _ (by omega)).mono ?_
  rintro e w0 ⟨rfl, rfl⟩
  go_wp2_with fail
  refine (la_new 4096 _ (by omega) (by omega)).mono ?_
  rintro e w1 ⟨rfl, h1, k1⟩
  have B1 := Lib.hid (k1.below (B := W.heap.size) (fun _ h => h.elim) (Nat.le_refl _))
  have HBIG := Lib.hid h1
  have hz1 := B1.out.size
  clear h1 k1
  go_wp2_with fail
  refine (la_new 2 w1 (by omega) (by omega)).mono ?_
  rintro e w2 ⟨rfl, h2, k2⟩
  have B2 := Lib.hid (k2.below (B := w1.heap.size) (fun _ h => h.elim) (Nat.le_refl _))
  have H2 := Lib.hid h2
  have hz2 := B2.out.size
  clear h2 k2
  go_wp2_with fail
  refine (dnew 2 w2 (by omega)).mono ?_
  rintro e w3 ⟨rfl, h3, k3⟩
  have I0 := Lib.hid (two_new (B := w1.heap.size) H2.out k3 h3 (by omega) (by omega) hz2)
  have B3 := Lib.hid (B2.out.trans (k3.below (B := w1.heap.size) (fun _ h => h.elim) hz2))
  clear h3 k3
  go_wp2_with fail
  generalize w2.heap.size + 1 = pd at *
  generalize w2.heap.size = ub at *
  go_loopw [67] (fun i w' => ∃ k : Nat, i = .int .i64 k ∧ k ≤ 22 ∧ ∃ qa A da dk V, A.length ≤ k ∧ Two w' w1.heap.size (w1.heap.size + 1) w1.heap.size qa 2 A pd ub da dk V ∧ Below w1.heap.size w1 w' ∧ Blk w' w3.heap.size 31 asksC) (fun i _ => 22 - (intOf i).toNat)
  case atStart => exact ⟨0, rfl, by omega, _, _, _, _, _, by simp, I0.out.below ((Below.refl _ _).alloc (Nat.le_refl _) _), B3.out.trans (((Below.refl w3.heap.size w3).alloc (Nat.le_refl _) _).mono B3.out.size), Blk.new w3 _ asksC⟩
  case round =>
    obtain ⟨k, rfl, hk, qa, A, da, dk, V, hAk, hT, hB, hX⟩ := hrel
    obtain ⟨wo, rfl⟩ : ∃ wo : World, wo = wr := ⟨_, rfl⟩
    have HT := Lib.hid hT
    have HB := Lib.hid hB
    have HX := Lib.hid hX
    clear hT hB hX
    by_cases hlt : k < 22
    · obtain ⟨x, x0, x1, x2, x3, x4, x5⟩ := asks_at HX.out hlt
      have hkl : (k : Int) < 22 := by omega
      have hD : Below wo.heap.size wo (wo.alloc (.cells #[.int .i64 x.kind, .int .i64 x.queue, .int .i64 x.slot, .int .i64 x.id, .int .i64 x.qty, .bool x.top] 31)) := (Below.refl _ _).alloc (Nat.le_refl _) _
      have HD := Lib.hid hD
      have HT2 := Lib.hid (HT.out.below hD)
      have hdo := do_any HT2.out x (by omega)
      unfold AskR.agg at hdo
      clear hD
      go_wp2_with fail
      refine hdo.mono ?_
      rintro e w4 ⟨rfl, ⟨qa', A', da', dk', V', hA', hT'⟩, hk4⟩
      have HT4 := Lib.hid hT'
      have HB4 := Lib.hid ((HB.out.trans (HD.out.mono HB.out.size)).trans (HT2.out.bel hk4))
      have HX4 : Hid (Blk w4 w3.heap.size 31 asksC) := Lib.hid (Blk.keeps (HX.out.keeps (Below.keeps (F := fun _ => False) HD.out) (fun x => x)) hk4 (HT2.out.not_mine (Blk.tyd (HX.out.keeps (Below.keeps (F := fun _ => False) HD.out) (fun x => x))) (by unfold LTy; decide) (by unfold RTy; decide)))
      clear hT' hk4 hdo x0 x1 x2 x3 x4 x5
      go_wp2_with fail
      refine (alike_any HT4.out).mono ?_
      rintro e w5 ⟨rfl, hb5⟩
      have HT5 := Lib.hid (HT4.out.below hb5)
      have HB5 := Lib.hid (HB4.out.trans (hb5.mono HB4.out.size))
      have HX5 := Lib.hid (HX4.out.keeps (Below.keeps (F := fun _ => False) hb5) (fun x => x))
      clear hb5
      go_wp2_with fail
      go_roundw
      case rel => exact ⟨k + 1, by go_num, by omega, _, _, _, _, _, by omega, HT5.out, HB5.out, HX5.out⟩
      case measure => simp [intOf]; omega
    · have hnk : ¬ (k : Int) < 22 := by omega
      go_wp2_with fail
      refine (la_free (HBIG.out.below HB.out)).mono ?_
      rintro e w6 ⟨rfl, rfl⟩
      rw [show (((4096 : Nat) : Int) - ((([] : List (List Ent)).map List.length).sum : Nat)) = 4096 from rfl]
      go_wp2_with fail
      refine (known_any _).mono ?_
      rintro e w7 ⟨rfl, hb7⟩
      go_wp2_with fail
      go_ret
      have hBW : Below W.heap.size W wo := B1.out.trans (HB.out.mono hz1)
      exact ⟨by trivial, hBW.trans (hb7.mono hBW.size)⟩
end Go.Proofs.Ytbpmoomklknkkaa
