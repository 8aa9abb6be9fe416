/- The walk of cornhilllaw8.LevelPlays. -/
import Derived.Test.YtbpmoomklknkkaaDoc8
namespace Go.Proofs.Ytbpmoomklknkkaa
open Go.RowKit

/-- the two as they begin -/
theorem two_new {w1 w2 : World} {B pb sb room : Nat} (hl : LA w1 pb sb none room []) (hk : Keeps (fun _ => False) w1 w2) {C pd ub : Nat} (hr : RA w2 C pd ub none 0 room [] [] (fun _ => (none, 0))) (h1 : B ≤ pb) (h2 : B ≤ sb) (h3 : B ≤ C) :
    Two w2 B pb sb none room [] pd ub none 0 (fun _ => (none, 0)) :=
  ⟨hl.keep hk (fun x => x) (fun x => x) (fun _ _ x => x), ⟨hr.hp, hr.hu, World.ownsRow_nil _ _ _ _, fun i hi => absurd hi (Nat.not_lt_zero _), fun i j hi => absurd hi (Nat.not_lt_zero _), Nat.le_trans h3 hr.bp, Nat.le_trans h3 hr.bu⟩,
    LF_ge h1 h2 (fun g hg => by cases hg), by have := hr.hp.lt; have := hr.bp; omega, by simp⟩

set_option maxRecDepth 100000 in
set_option maxHeartbeats 4000000 in
theorem plays_any (room0 : Int) (p : Option Addr) (n c : Nat) (f : Nat → AskR) (W : World) (hr1 : -9223372036854775808 ≤ room0) (hr2 : room0 ≤ 9223372036854775807) (hA : Asks W p n f) :
    Calls Try.prog 7 #[.int .i64 room0, .slice p n c] W fun e w' => e = .returned (.bool true) ∧ Below W.heap.size W w' := by
  obtain ⟨_, hcells⟩ := hA
  have hwb := withI_bd room0 0 30 (by omega)
  obtain ⟨room, hroom⟩ : ∃ room : Nat, 1 + withI room0 0 30 = (room : Int) := ⟨(1 + withI room0 0 30).toNat, by omega⟩
  have hrm : 1 ≤ room ∧ room ≤ 31 := by omega
  have HROOM := Lib.hid hroom
  have HC := Lib.hid hcells
  clear hroom hcells
  go_enter Try.func7, Try.ntmps7
  go_wp2_with fail
  refine (within_any room0 0 30 _ hr1 hr2 (by omega) (by omega) (by omega)).mono ?_
  rintro e w1 ⟨rfl, rfl⟩
  have hx : 1 + withI room0 0 30 = (room : Int) := HROOM.out
  go_wp2_with fail
  clear hx
  refine (la_new room _ (by omega) (by omega)).mono ?_
  rintro e w1 ⟨rfl, h1, k1⟩
  have B1 := Lib.hid (k1.below (B := W.heap.size) (fun _ h => h.elim) (Nat.le_refl _))
  have H1 := Lib.hid h1
  have hz1 := B1.out.size
  clear h1 k1
  go_wp2_with fail
  refine (dnew room w1 (by omega)).mono ?_
  rintro e w2 ⟨rfl, h2, k2⟩
  have I0 := Lib.hid (two_new (B := W.heap.size) H1.out k2 h2 (by omega) (by omega) hz1)
  have B2 := Lib.hid (B1.out.trans (k2.below (B := W.heap.size) (fun _ h => h.elim) hz1))
  clear h2 k2
  go_wp2_with fail
  generalize w1.heap.size + 1 = pd at *
  generalize w1.heap.size = ub at *
  clear hz1 hwb
  go_loopw [8] (fun i w' => ∃ k : Nat, i = .int .i64 k ∧ k ≤ 60 ∧ ∃ qa A da dk V, A.length ≤ k ∧ Two w' W.heap.size (W.heap.size + 1) W.heap.size qa room A pd ub da dk V ∧ Below W.heap.size W w') (fun i _ => 60 - (intOf i).toNat)
  case atStart => exact ⟨0, rfl, by omega, _, _, _, _, _, by simp, I0.out, B2.out⟩
  case round =>
    obtain ⟨k, rfl, hk, qa, A, da, dk, V, hAk, hT, hB⟩ := hrel
    obtain ⟨wo, rfl⟩ : ∃ wo : World, wo = wr := ⟨_, rfl⟩
    have HT := Lib.hid hT
    have HB := Lib.hid hB
    clear hT hB
    by_cases hlt : k < n ∧ k < 60
    · obtain ⟨hkn, hk60⟩ := hlt
      obtain ⟨b, off, rfl, hbl, ha⟩ := HC.out k hkn
      have hkl : (k : Int) < (n : Int) := by omega
      obtain ⟨x0, x1, x2, x3, x4, x5⟩ := ha.below HB.out hbl
      have hdo := do_any HT.out (f k) (by omega)
      unfold AskR.agg at hdo
      generalize f k = x at *
      clear ha
      go_wp2_with fail
      refine hdo.mono ?_
      rintro e w3 ⟨rfl, ⟨qa', A', da', dk', V', hA', hT'⟩, hk3⟩
      have HT3 := Lib.hid hT'
      have HB3 := Lib.hid (HB.out.trans (HT.out.bel hk3))
      clear hT' hk3 hdo x0 x1 x2 x3 x4 x5
      go_wp2_with fail
      refine (alike_any HT3.out).mono ?_
      rintro e w4 ⟨rfl, hb4⟩
      have HT4 := Lib.hid (HT3.out.below hb4)
      have HB4 := Lib.hid (HB3.out.trans (hb4.mono HB3.out.size))
      clear hb4
      go_wp2_with fail
      go_roundw
      case rel => exact ⟨k + 1, by go_num, by omega, _, _, _, _, _, by omega, HT4.out, HB4.out⟩
      case measure => simp [intOf]; omega
    · have hyn : ¬ k < n ∨ (k < n ∧ ¬ k < 60) := by omega
      clear hlt
      rcases hyn with hyn | ⟨hyn, hyn2⟩
      all_goals
        go_wp2_with fail
        refine (known_any _).mono ?_
        rintro e w5 ⟨rfl, hb1⟩
        go_wp2_with fail
        go_ret
        exact ⟨by trivial, HB.out.trans (hb1.mono HB.out.size)⟩
end Go.Proofs.Ytbpmoomklknkkaa
