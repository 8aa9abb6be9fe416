/- The walk of cornhilllaw8.LevelOrders. -/
import Derived.Test.YtbpmoomklknkkaaOrd2
import Derived.Test.YtbpmoomklknkkaaLast
import Derived.Deep.QuietTactic
import Derived.Deep.AppendLies
import Derived.Deep.RegionHeld3
import Derived.Deep.CutRange
import Derived.Deep.RegionLaw
import Derived.IntWalk
namespace Go.Proofs.Ytbpmoomklknkkaa
open Go.RowKit

theorem LF_ne {pb sb qb qb' : Nat} (h : qb' = qb) : LF pb sb (some ⟨qb', 0, none⟩) = LF pb sb (some ⟨qb, 0, none⟩) := by rw [h]
set_option maxRecDepth 100000 in
set_option maxHeartbeats 40000000 in
theorem orders_any (room0 : Int) (p : Option Addr) (n c : Nat) (f : Nat → AskR) (W : World) (hr1 : -9223372036854775808 ≤ room0) (hr2 : room0 ≤ 9223372036854775807) (hA : Asks W p n f) :
    Calls Try.prog 4 #[.int .i64 room0, .slice p n c] W fun e w' => e = .returned (.bool true) ∧ Below W.heap.size W w' := by
  obtain ⟨hok, hcells⟩ := hA
  have hwb := withI_bd room0 0 20 (by omega)
  obtain ⟨room, hroom⟩ : ∃ room : Nat, 1 + withI room0 0 20 = (room : Int) := ⟨(1 + withI room0 0 20).toNat, by omega⟩
  have hrm : 1 ≤ room ∧ room ≤ 21 := by omega
  have HROOM := Lib.hid hroom
  have HOK := Lib.hid hok
  have HC := Lib.hid hcells
  clear hroom hok hcells
  go_enter Try.func4, Try.ntmps4
  go_wp2_with fail
  refine (within_any room0 0 20 _ hr1 hr2 (by omega) (by omega) (by omega)).mono ?_
  rintro e w1 ⟨rfl, rfl⟩
  have hx : 1 + withI room0 0 20 = (room : Int) := HROOM.out
  go_wp2_with fail
  clear hx
  refine (la_new room _ (by omega) (by omega)).mono ?_
  rintro e w1 ⟨rfl, h1, k1⟩
  have B1 := Lib.hid (k1.below (B := W.heap.size) (fun _ h => h.elim) (Nat.le_refl _))
  have hz1 := B1.out.size
  have hl1 := h1.lt
  have h1' : LA (w1.alloc (.cells #[.slice none 0 0, .slice none 0 0, .slice none 0 0] 43)) (W.heap.size + 1) W.heap.size none room [] := h1.below ((Below.refl _ _).alloc (Nat.le_refl _) _)
  have ha1 : Blk (w1.alloc (.cells #[.slice none 0 0, .slice none 0 0, .slice none 0 0] 43)) w1.heap.size 43 (three (vv (fun _ => []) (fun _ => (none, 0)))).toArray := Blk.new w1 _ _
  have B1' : Hid (Below W.heap.size W (w1.alloc (.cells #[.slice none 0 0, .slice none 0 0, .slice none 0 0] 43))) := Lib.hid (B1.out.alloc hz1 _)
  go_wp2_with fail
  clear h1 k1 B1
  generalize w1.alloc (.cells #[.slice none 0 0, .slice none 0 0, .slice none 0 0] 43) = wA at *
  refine wp_loop_rounds 4 ?_
  rw [rounds_succ]
  go_wp2_with fail
  refine (la_open h1' (by simp)).mono ?_
  rintro e w2 ⟨rfl, ⟨qb1, hqb1, h2⟩, k2⟩
  have hqb1' : W.heap.size ≤ qb1 := by
    rcases hqb1 with h | h
    · cases h
    · have := B1'.out.size; omega
  have ha2 : Blk w2 w1.heap.size 43 (three (vv (fun _ => []) (fun _ => (none, 0)))).toArray := ha1.keeps k2 (by
    rintro (h | h | h)
    · omega
    · omega
    · cases h)
  have hq1a : qb1 ≠ w1.heap.size := by
    rcases hqb1 with h | h
    · cases h
    · have := ha1.lt; omega
  have B2 := Lib.hid (B1'.out.trans (k2.below (LF_ge (by omega) (by omega) (fun g hg => by cases hg)) B1'.out.size))
  clear h1' k2 hqb1 ha1 B1'
  go_wp2_with fail
  rw [rounds_succ]
  go_wp2_with fail
  refine (la_open h2 (by simp)).mono ?_
  rintro e w3 ⟨rfl, ⟨qb2, hqb2, h3⟩, k3⟩
  have hqb2' : W.heap.size ≤ qb2 := by
    rcases hqb2 with h | h
    · injection h with h; injection h with h; omega
    · have := B2.out.size; omega
  have ha3 : Blk w3 w1.heap.size 43 (three (vv (fun _ => []) (fun _ => (none, 0)))).toArray := ha2.keeps k3 (by
    rintro (h | h | h)
    · omega
    · omega
    · injection h with h; injection h with h; omega)
  have hq2a : qb2 ≠ w1.heap.size := by
    rcases hqb2 with h | h
    · injection h with h; injection h with h; omega
    · have := ha2.lt; omega
  have B3 := Lib.hid (B2.out.trans (k3.below (LF_ge (by omega) (by omega) (fun g hg => by injection hg with hg; injection hg with hg; omega)) B2.out.size))
  clear h2 k3 hqb2 ha2 B2
  go_wp2_with fail
  rw [rounds_succ]
  go_wp2_with fail
  refine (la_open h3 (by simp)).mono ?_
  rintro e w4 ⟨rfl, ⟨qb, hqb, h4⟩, k4⟩
  have hqb' : W.heap.size ≤ qb := by
    rcases hqb with h | h
    · injection h with h; injection h with h; omega
    · have := B3.out.size; omega
  have ha4 : Blk w4 w1.heap.size 43 (three (vv (fun _ => []) (fun _ => (none, 0)))).toArray := ha3.keeps k4 (by
    rintro (h | h | h)
    · omega
    · omega
    · injection h with h; injection h with h; omega)
  have hqa : w1.heap.size ≠ qb := by
    rcases hqb with h | h
    · injection h with h; injection h with h; omega
    · have := ha3.lt; omega
  have B4 := Lib.hid (B3.out.trans (k4.below (LF_ge (by omega) (by omega) (fun g hg => by injection hg with hg; injection hg with hg; omega)) B3.out.size))
  clear h3 k4 hqb ha3 B3
  go_wp2_with fail
  rw [rounds_succ]
  go_wp2_with fail
  have NN : RmN W (W.heap.size + 1) W.heap.size qb w1.heap.size := ⟨by omega, by omega, hqb', hz1, by omega, by omega, hqa⟩
  have I0 : Ors W w4 (W.heap.size + 1) W.heap.size qb w1.heap.size room (three (fun _ => [])) (fun _ => []) (fun _ => (none, 0)) :=
    ⟨h4, ha4, fun i _ => World.ownsRow_nil _ _ _ _, fun i j _ _ _ g hg => (by cases hg), B4.out⟩
  clear h4 ha4 B4 hz1 HROOM hwb hl1 hqb1' hqb2' hq1a hq2a hqa
  generalize w1.heap.size = ab at *
  go_loopw [9, 10] (fun m i w' => ∃ k : Nat, i = .int .i64 k ∧ k ≤ 60 ∧ ∃ Q V, m = .int .i64 ((((three Q).map List.length).sum : Nat) : Int) ∧ Ors W w' (W.heap.size + 1) W.heap.size qb ab room (three Q) Q V) (fun _ i _ => 60 - (intOf i).toNat)
  case atStart => exact ⟨0, rfl, by omega, fun _ => [], _, rfl, I0⟩
  case round =>
    clear I0
    obtain ⟨k, rfl, hk, Q, V, rfl, hR⟩ := hrel
    obtain ⟨wo, rfl⟩ : ∃ wo : World, wo = wr := ⟨_, rfl⟩
    obtain ⟨tot, htot⟩ : ∃ tot, ((three Q).map List.length).sum = tot := ⟨_, rfl⟩
    have htr : tot ≤ room := by have := hR.la.small; omega
    have HTOT := Lib.hid htot
    rw [htot]
    clear htot
    by_cases hlt : k < n ∧ k < 60
    · obtain ⟨hkn, hk60⟩ := hlt
      obtain ⟨b, off, rfl, hbl, ha⟩ := HC.out k hkn
      have hkl : (k : Int) < (n : Int) := by omega
      obtain ⟨x0, x1, x2, x3, x4, x5⟩ := ha.below hR.bel hbl
      have HAA := Lib.hid ha
      have hxok := HOK.out k
      generalize f k = x at *
      obtain ⟨ok0, ok1, ok2, ok3, ok4⟩ := hxok
      have k0 : -9223372036854775808 ≤ x.kind ∧ x.kind ≤ 9223372036854775807 := ok0
      have hqb2 := withI_bd x.queue 0 2 (by omega)
      obtain ⟨q, hq⟩ : ∃ q : Nat, withI x.queue 0 2 = (q : Int) := ⟨(withI x.queue 0 2).toNat, by omega⟩
      have hq3 : q < 3 := by omega
      have hq3' : (q : Int) < 3 := by omega
      have HQ := Lib.hid hq
      obtain ⟨t, ht⟩ : ∃ t : Int, x.kind.tmod 2 = t := ⟨_, rfl⟩
      have hcq := hR.cell hq3
      obtain ⟨a, c', hV⟩ : ∃ a c', V q = (a, c') := ⟨_, _, rfl⟩
      have HV := Lib.hid hV
      rw [hV] at hcq
      replace hcq : wo.cell? ⟨ab, q, none⟩ = some (.slice a (Q q).length c') := hcq
      have hLr : (Q q).length ≤ 21 := by
        have h1 := le_sum ((three Q).map List.length) q (Q q).length (by rw [List.getElem?_map, three_get Q hq3]; rfl)
        have := hR.la.small
        omega
      obtain ⟨L, HL⟩ : ∃ L, Hid (Q q = L) := ⟨_, rfl⟩
      rw [HL.out] at hcq hLr
      clear hq ha hqb2 hV
      have hgb := withI_bd x.qty 0 9 (by omega)
      have HG := Lib.hid fun w => within_any x.qty 0 9 w ok4.1 ok4.2 (by omega) (by omega) (by omega)
      generalize withI x.qty 0 9 = g at *
      have HGW : Hid (IntKind.i64.wrap (1 + g) = 1 + g) := Lib.hid (IntWalk.i64_in _ (by omega))
      have hways : t = 0 ∨ ((t == 0) = false ∧ L.length = 0) ∨ ((t == 0) = false ∧ 0 < L.length) := by
        rw [beq_eq_false_iff_ne]; omega
      obtain ⟨BB, hBB⟩ : ∃ BB : Bool, BB = (decide (t = 0) || decide (L.length = 0)) := ⟨_, rfl⟩
      have HBB := Lib.hid hBB
      clear hBB
      go_wp2_with fail
      refine (within_any x.queue 0 2 _ ok1.1 ok1.2 (by omega) (by omega) (by omega)).mono ?_
      rintro e w5 ⟨rfl, rfl⟩
      rw [HQ.out]
      go_upto_region 16 with (fail)
      go_cut [71] from 42 to 240 (fun v wx => v = .bool BB ∧ wo = wx)
      case first =>
        have HBQ : Hid (BB = (decide (t = 0) || decide (L.length = 0))) := HBB
        rcases hways with ht0 | ⟨ht0, hL0⟩ | ⟨ht0, hL0⟩
        · subst ht0
          go_wp2_with fail
          go_meet
          exact ⟨by rw [HBQ.out]; rfl, rfl⟩
        · have HT0 := Lib.hid ht0
          have HL0 := Lib.hid hL0
          rw [hL0] at hcq
          clear hL0
          go_wp2_with fail
          go_meet
          exact ⟨congrArg Value.bool (by rw [HBQ.out, decide_eq_true HL0.out, Bool.or_true]), rfl⟩
        · have HT0 := Lib.hid ht0
          have hL1 : ((L.length : Int) == 0) = false := by rw [beq_eq_false_iff_ne]; omega
          go_wp2_with fail
          go_meet
          exact ⟨congrArg Value.bool (by rw [HBQ.out, decide_eq_false (beq_eq_false_iff_ne.1 HT0.out), decide_eq_false (show ¬ L.length = 0 by omega)]; rfl), rfl⟩
      case rest =>
      obtain ⟨rfl, rfl⟩ := hcut
      clear hways
      go_upto_if 71 with (fail)
      go_cut [9] from 42 to 240 (fun v wx => ∃ Q' V', v = .int .i64 ((((three Q').map List.length).sum : Nat) : Int) ∧ Ors W wx (W.heap.size + 1) W.heap.size qb ab room (three Q') Q' V')
      case first =>
        cases BB with
        | true => as_aux_lemma =>
          have hbl2 : b < wo.heap.size := Nat.lt_of_lt_of_le hbl hR.bel.size
          have HXA : Hid (∀ o : Obj, (wo.alloc o).cell? ⟨b, off + k * 6 + 4, none⟩ = some (.int .i64 x.qty) ∧ (wo.alloc o).cell? ⟨b, off + k * 6 + 5, none⟩ = some (.bool x.top)) :=
            Lib.hid fun o => ⟨(((Below.refl wo.heap.size wo).alloc (Nat.le_refl _) o).cell (p := ⟨b, off + k * 6 + 4, none⟩) hbl2).trans x4, (((Below.refl wo.heap.size wo).alloc (Nat.le_refl _) o).cell (p := ⟨b, off + k * 6 + 5, none⟩) hbl2).trans x5⟩
          go_upto_region 17 with (fail)
          go_cut [12] from 42 to 240 (fun v wx => v = .pointer (some ⟨wo.heap.size, 0, none⟩) ∧ wx = (wo.alloc (.cells #[.int .i64 0, .int .i64 k, .int .i64 (1 + g), .bool x.top] 33)).drew)
          case first =>
            go_region_held3 (fun w' => w'.cell? ⟨b, off + k * 6 + 4, none⟩ = some (.int .i64 x.qty) ∧ w'.cell? ⟨b, off + k * 6 + 5, none⟩ = some (.bool x.top))
              (first
                | exact ⟨x4, x5⟩
                | exact HXA.out _)
              (first
                | (go_at_call 8; refine (HG.out _).mono ?_; rintro e w5 ⟨rfl, rfl⟩))
            all_goals (go_wp2_with fail; go_meet)
            all_goals exact ⟨rfl, by rw [HGW.out]⟩
          case rest =>
            obtain ⟨rfl, rfl⟩ := hcut
            have hD : Below wo.heap.size wo (wo.alloc (.cells #[.int .i64 0, .int .i64 k, .int .i64 (1 + g), .bool x.top] 33)).drew := ((Below.refl _ _).alloc (Nat.le_refl _) _).drew
            have hX : Blk (wo.alloc (.cells #[.int .i64 0, .int .i64 k, .int .i64 (1 + g), .bool x.top] 33)).drew wo.heap.size 33 #[.int .i64 0, .int .i64 k, .int .i64 (1 + g), .bool x.top] := Blk.new wo _ _
            have hRX := hR.below hD
            have hlt := hR.la.lt
            have hal := hR.arr.lt
            have hxo : ∀ g, LF (W.heap.size + 1) W.heap.size (some ⟨qb, 0, none⟩) g → g ≠ wo.heap.size := by
              rintro y (h | h | h)
              · omega
              · omega
              · have := hlt.2.2 y h; omega
            clear hD x0 x1 x2 x3 x4 x5 hcq
            generalize (wo.alloc (.cells #[.int .i64 0, .int .i64 k, .int .i64 (1 + g), .bool x.top] 33)).drew = wX at *
            cases hlf : leastFree room (three Q) with
            | none => as_aux_lemma =>
              have htr2 : tot = room := by
                have h0 := hRX.la.least_none_sum
                rw [hlf, HTOT.out] at h0
                exact h0.1 rfl
              have HP : Hid (pushA room (three Q) (q : Int) (k : Int) (1 + g) x.top = (three Q, 0, 13)) := Lib.hid (by
                unfold pushA
                rw [if_neg (by simp [three]; omega), if_neg (by omega), hlf])
              obtain ⟨c0, c1, c2, c3⟩ : wX.cell? ⟨wo.heap.size, 0, none⟩ = some (.int .i64 0) ∧ wX.cell? ⟨wo.heap.size, 1, none⟩ = some (.int .i64 k) ∧ wX.cell? ⟨wo.heap.size, 2, none⟩ = some (.int .i64 (1 + g)) ∧ wX.cell? ⟨wo.heap.size, 3, none⟩ = some (.bool x.top) := by
                refine ⟨?_, ?_, ?_, ?_⟩ <;> (rw [hX.cell]; rfl)
              have htr3 : ¬ (tot : Int) < (room : Int) := by omega
              have HTR := Lib.hid htr2
              clear hlf htr2
              go_wp2_with fail
              refine (la_push hRX.la (q : Int) (k : Int) (1 + g) x.top).mono ?_
              rw [HP.out]
              rintro e w5 ⟨rfl, hl5, hk5⟩
              have hR5 := hRX.calls NN hl5 hk5
              clear c0 c1 c2 c3 hl5 hk5
              go_wp2_with fail
              go_meet
              exact ⟨Q, V, by rw [HTOT.out], hR5⟩
            | some r => as_aux_lemma =>
              obtain ⟨hrr, _, _⟩ := least_some hlf
              have htr2 : tot < room := by
                have h0 := hRX.la.least_none_sum
                rw [hlf, HTOT.out] at h0
                have : tot ≠ room := fun h => by cases h0.2 h
                omega
              have HP : Hid (pushA room (three Q) (q : Int) (k : Int) (1 + g) x.top = (three (upd Q q (L ++ [⟨r, k, 1 + g, x.top⟩])), (r : Int), 0)) := Lib.hid (by
                unfold pushA
                rw [if_neg (by simp [three]; omega), if_neg (by omega), hlf, Int.toNat_natCast, getD_of (three_get Q hq3), HL.out]
                show (_, _, _) = (_, _, _)
                rw [← three_set Q hq3])
              have htr3 : (tot : Int) < (room : Int) := by omega
              obtain ⟨c0, c1, c2, c3⟩ : wX.cell? ⟨wo.heap.size, 0, none⟩ = some (.int .i64 0) ∧ wX.cell? ⟨wo.heap.size, 1, none⟩ = some (.int .i64 k) ∧ wX.cell? ⟨wo.heap.size, 2, none⟩ = some (.int .i64 (1 + g)) ∧ wX.cell? ⟨wo.heap.size, 3, none⟩ = some (.bool x.top) := by
                refine ⟨?_, ?_, ?_, ?_⟩ <;> (rw [hX.cell]; rfl)
              clear hlf
              go_wp2_with fail
              refine (la_push hRX.la (q : Int) (k : Int) (1 + g) x.top).mono ?_
              rw [HP.out]
              rintro e w5 ⟨rfl, hl5, hk5⟩
              have hR5 := hRX.calls NN hl5 hk5
              have hX5 : Blk w5 wo.heap.size 33 #[.int .i64 0, .int .i64 k, .int .i64 (1 + g), .bool x.top] := hX.keeps hk5 (fun h => hxo _ h rfl)
              have hk6 : Keeps (fun y => y = wo.heap.size) w5 (w5.setCell ⟨wo.heap.size, 0, none⟩ (.int .i64 r)) := (Keeps.refl (fun y => y = wo.heap.size) w5).setCell (p := ⟨wo.heap.size, 0, none⟩) (fun _ => rfl) _
              have hX6 : Blk (w5.setCell ⟨wo.heap.size, 0, none⟩ (.int .i64 r)) wo.heap.size 33 #[.int .i64 r, .int .i64 k, .int .i64 (1 + g), .bool x.top] := hX5.set_ 0 (.int .i64 r)
              have hR6 : Ors W (w5.setCell ⟨wo.heap.size, 0, none⟩ (.int .i64 r)) (W.heap.size + 1) W.heap.size qb ab room (three (upd Q q (L ++ [⟨r, k, 1 + g, x.top⟩]))) Q V :=
                hR5.keep hk6 (fun y hy => hxo y hy) (by omega) (fun i hi y hy e => by have := own_lt (hR.row i hi) y hy; omega) (fun y hy => by rw [hy]; exact hR.bel.size)
              clear c0 c1 c2 c3
              have c0 : w5.cell? ⟨wo.heap.size, 0, none⟩ = some (.int .i64 0) := by rw [hX5.cell]; rfl
              have cf : w5.frozen? ⟨wo.heap.size, 0, none⟩ = false := hX5.frozen 0
              clear hl5 hk5 hRX hX hR5 hk6
              go_upto_region 23 with (fail)
              clear c0 cf hX5
              generalize w5.setCell ⟨wo.heap.size, 0, none⟩ (.int .i64 r) = w6 at *
              obtain ⟨i0, hi, hz0, hz1, hz2⟩ := info_parts info_ent
              have hc6 : w6.cell? ⟨ab, q, none⟩ = some (.slice a L.length c') := by have := hR6.cell hq3; rw [HV.out, HL.out] at this; exact this
              have hf6 := hR6.frozen q
              have hrow : RowV w6 W.heap.size (.slice a L.length c') L := by have := hR6.row q hq3; unfold vv at this; rw [HV.out, HL.out] at this; exact this
              obtain ⟨c0, c1, c2, c3⟩ : w6.cell? ⟨wo.heap.size, 0, none⟩ = some (.int .i64 r) ∧ w6.cell? ⟨wo.heap.size, 1, none⟩ = some (.int .i64 k) ∧ w6.cell? ⟨wo.heap.size, 2, none⟩ = some (.int .i64 (1 + g)) ∧ w6.cell? ⟨wo.heap.size, 3, none⟩ = some (.bool x.top) := by
                refine ⟨?_, ?_, ?_, ?_⟩ <;> (rw [hX6.cell]; rfl)
              have hsz6 := hR6.bel.size
              have hab6 := hR6.arr.lt
              have HNE : Hid ((Value.slice a L.length c').ownBlock ≠ some ab) := Lib.hid (own_ne hrow hR6.arr (by decide))
              have HBB : Hid ((w6.alloc (.cells #[.int .i64 r, .int .i64 k, .int .i64 (1 + g), .bool x.top] 33)).drew.cell? ⟨ab, q, none⟩ = w6.cell? ⟨ab, q, none⟩ ∧ (w6.alloc (.cells #[.int .i64 r, .int .i64 k, .int .i64 (1 + g), .bool x.top] 33)).drew.frozen? ⟨ab, q, none⟩ = w6.frozen? ⟨ab, q, none⟩) :=
                Lib.hid ⟨(((Below.refl w6.heap.size w6).alloc (Nat.le_refl _) _).drew).cell (p := ⟨ab, q, none⟩) hab6, (((Below.refl w6.heap.size w6).alloc (Nat.le_refl _) _).drew).frozen (p := ⟨ab, q, none⟩) hab6⟩
              go_cut [9] from 42 to 240 (fun v wx => v = .int .i64 tot ∧ ∃ a2 c2, Ors W wx (W.heap.size + 1) W.heap.size qb ab room (three (upd Q q (L ++ [⟨r, k, 1 + g, x.top⟩]))) (upd Q q (L ++ [⟨r, k, 1 + g, x.top⟩])) (upd V q (a2, c2)))
              case first =>
                refine wp_region_E (S := fun w' => w'.cell? ⟨ab, q, none⟩ = some (.slice a L.length c')) (by kernel_rfl) hc6 (fun hHeld => ?_)
                refine wpE_take (i := 0) (oi := ?oi1) (v := ?v1) ?hi1 (by kernel_rfl) (by kernel_rfl) (by kernel_rfl) (by kernel_rfl) ?hQ1 ?hy1 (by assumption) ?rest1
                case hi1 => (simp only [List.getElem?_toArray, List.getElem?_cons_zero]; rfl)
                case hQ1 => exact fun _ _ _ h => h
                case hy1 => exact Or.inl ⟨by rfl, by (intro w hSw; (try dsimp only at hSw); go_simp; try with_reducible rfl)⟩
                try simp only [Act.put, List.setIfInBounds_toArray, List.set_cons_zero, List.set_cons_succ]
                refine wpE_take (i := 1) (oi := ?oi2) (v := ?v2) ?hi2 (by kernel_rfl) (by kernel_rfl) (by kernel_rfl) (by kernel_rfl) ?hQ2 ?hy2 (by assumption) ?rest2
                case hi2 => (simp only [List.getElem?_toArray, List.getElem?_cons_succ, List.getElem?_cons_zero]; rfl)
                case hQ2 => exact fun _ _ _ h => h
                case hy2 => exact Or.inl ⟨by rfl, by (intro w hSw; (try dsimp only at hSw); go_simp; try with_reducible rfl)⟩
                try simp only [Act.put, List.setIfInBounds_toArray, List.set_cons_zero, List.set_cons_succ]
                refine wpE_take (i := 2) (oi := ?oi3) (v := ?v3) ?hi3 (by kernel_rfl) (by kernel_rfl) (by kernel_rfl) (by kernel_rfl) ?hQ3 ?hy3 (by assumption) ?rest3
                case hi3 => (simp only [List.getElem?_toArray, List.getElem?_cons_succ, List.getElem?_cons_zero]; rfl)
                case hQ3 => exact fun _ _ _ h => h
                case hy3 => exact Or.inl ⟨by rfl, by (intro w hSw; (try dsimp only at hSw); go_simp; try with_reducible rfl)⟩
                try simp only [Act.put, List.setIfInBounds_toArray, List.set_cons_zero, List.set_cons_succ]
                refine wpE_take (i := 3) (oi := ?oi4) (v := ?v4) ?hi4 (by kernel_rfl) (by kernel_rfl) (by kernel_rfl) (by kernel_rfl) ?hQ4 ?hy4 (by assumption) ?rest4
                case hi4 => (simp only [List.getElem?_toArray, List.getElem?_cons_succ, List.getElem?_cons_zero]; rfl)
                case hQ4 => exact fun _ _ _ h => h
                case hy4 => exact Or.inl ⟨by rfl, by (intro w hSw; (try dsimp only at hSw); go_simp; try with_reducible rfl)⟩
                try simp only [Act.put, List.setIfInBounds_toArray, List.set_cons_zero, List.set_cons_succ]
                refine wpE_one (i := 4) (o := ?o49) ?ho49 (by kernel_rfl) (fun K hK => ?_)
                case ho49 => (simp only [List.getElem?_toArray, List.getElem?_cons_succ, List.getElem?_cons_zero]; rfl)
                go_simp
                refine hK.out _ _ hc6 (fun hHeld => ?_)
                clear hK K
                refine wpE_one (i := 5) (o := ?o50) ?ho50 (by kernel_rfl) (fun K hK => ?_)
                case ho50 => (simp only [List.getElem?_toArray, List.getElem?_cons_succ, List.getElem?_cons_zero]; rfl)
                go_simp
                refine hK.out _ _ (HBB.out.1.trans hc6) (fun hHeld => ?_)
                clear hK K
                refine wpE_one (i := 6) (o := ?o51) ?ho51 (by kernel_rfl) (fun K hK => ?_)
                case ho51 => (simp only [List.getElem?_toArray, List.getElem?_cons_succ, List.getElem?_cons_zero]; rfl)
                refine step_append_lies _ (by rfl) _ _ _ (by rfl) W.heap.size 33 i0 _ 4 32 Try.underlying42 hi hz0 hz1 hz2 rfl (by omega) (.slice a L.length c') L.length (L.flatMap Ent.cells) (by rfl) ((World.ownsRow.alloc hrow _).drew)
                      ⟨w6.heap.size, 0, none⟩ 1 1 [.int .i64 r, .int .i64 k, .int .i64 (1 + g), .bool x.top] (by rfl) (by rfl) (World.news_of_block (cs := #[.int .i64 r, .int .i64 k, .int .i64 (1 + g), .bool x.top]) (t := 33) (fr := (0, 0)) (heap_alloc_new w6 _)) (by simp [Value.oneCell'])
                      (by omega) (by unfold maxLen; omega) (by omega) (by simp; omega) (w6.heap.size + 1) (by simp) ?_
                intro gg cap w7 hown7 hgrow hat hlt7
                have cc7 : w7.cell? ⟨ab, q, none⟩ = some (.slice a L.length c') := (hgrow.cell_far _ (by simp; omega) (Ne.symm HNE.out)).trans (HBB.out.1.trans hc6)
                have cf7 : w7.frozen? ⟨ab, q, none⟩ = false := (hgrow.frozen_far _ (by simp; omega) (Ne.symm HNE.out)).trans (HBB.out.2.trans hf6)
                refine hK.out _ _ cc7 (fun hHeld => ?_)
                clear hK K
                refine wpE_take (i := 7) (oi := ?oi5) (v := ?v5) ?hi5 (by kernel_rfl) (by kernel_rfl) (by kernel_rfl) (by kernel_rfl) ?hQ5 ?hy5 (by assumption) ?rest5
                case hi5 => (simp only [List.getElem?_toArray, List.getElem?_cons_succ, List.getElem?_cons_zero]; rfl)
                case hQ5 => exact fun _ _ _ h => h
                case hy5 => exact Or.inl ⟨by rfl, by (intro w hSw; (try dsimp only at hSw); go_simp; try with_reducible rfl)⟩
                try simp only [Act.put, List.setIfInBounds_toArray, List.set_cons_zero, List.set_cons_succ]
                refine wpE_last (i := 8) (o := ?o55) ?ho55 (by kernel_rfl) (by kernel_rfl) (by kernel_rfl) (fun K hK => ?_)
                case ho55 => (simp only [List.getElem?_toArray, List.getElem?_cons_succ, List.getElem?_cons_zero]; rfl)
                go_simp
                refine hK.out _ _ ?_
                clear hK K
                all_goals (go_wp2_with fail; go_meet)
                all_goals exact ⟨rfl, some ⟨gg, 0, none⟩, cap, hR6.push_row NN hq3 HV.out HL.out ⟨r, k, 1 + g, x.top⟩ _ hgrow hown7 hat⟩
              case rest =>
                obtain ⟨rfl, a2, c2, hR7⟩ := hcut
                go_wp2_with fail
                go_meet
                have hsum := three_sum Q hq3 (L ++ [⟨r, k, 1 + g, x.top⟩])
                rw [HL.out, HTOT.out, List.length_append] at hsum
                exact ⟨_, _, congrArg (Value.int .i64) (by simp only [List.length_cons, List.length_nil] at hsum; omega), hR7⟩
        | false => as_aux_lemma =>
          have hL0 : 0 < L.length ∧ t ≠ 0 := by
            have h := or_no HBB.out
            omega
          have hL1 := hL0.1
          clear hL0 HBB HG HGW hgb
          have hmb := withI_bd x.slot 0 ((L.length : Int) - 1) (by omega)
          obtain ⟨m, hm⟩ : ∃ m : Nat, withI x.slot 0 ((L.length : Int) - 1) = (m : Int) := ⟨(withI x.slot 0 ((L.length : Int) - 1)).toNat, by omega⟩
          have hml : m < L.length := by omega
          have HM : Hid (∀ w, Calls Try.prog 8 #[.int .i64 x.slot, .int .i64 0, .int .i64 ((L.length : Int) - 1)] w fun e w' => e = .returned (.int .i64 m) ∧ w' = w) :=
            Lib.hid fun w => (within_any x.slot 0 _ w ok2.1 ok2.2 (by omega) (by omega) (by omega)).mono fun _ _ ⟨h1, h2⟩ => ⟨by rw [h1, hm], h2.symm⟩
          clear hm hmb
          obtain ⟨e, he⟩ : ∃ e, L[m]? = some e := ⟨_, List.getElem?_eq_getElem hml⟩
          have hqe := hR.la.qty q m L e (by rw [three_get Q hq3, HL.out]) he
          have hrow : RowV wo W.heap.size (.slice a L.length c') L := by have := hR.row q hq3; unfold vv at this; rw [HV.out, HL.out] at this; exact this
          obtain ⟨g2, cap2, hv2, hg2l, y0, y1, y2, y3⟩ := hrow.at_ m e he
          obtain ⟨rfl, rfl⟩ : a = some ⟨g2, 0, none⟩ ∧ c' = cap2 := by injection hv2 with h1 h2 h3; exact ⟨h1, h3⟩
          have hbb := withI_bd x.qty 0 (e.qty - 1) (by omega)
          have HB : Hid (∀ w, Calls Try.prog 8 #[.int .i64 x.qty, .int .i64 0, .int .i64 (e.qty - 1)] w fun r w' => r = .returned (.int .i64 (withI x.qty 0 (e.qty - 1))) ∧ w' = w) :=
            Lib.hid fun w => (within_any x.qty 0 _ w ok4.1 ok4.2 (by omega) (by omega) (by omega)).mono fun _ _ ⟨h1, h2⟩ => ⟨h1, h2.symm⟩
          generalize withI x.qty 0 (e.qty - 1) = y at *
          have s1 : IntKind.i64.wrap ((L.length : Int) - 1) = (L.length : Int) - 1 := IntWalk.i64_in _ (by omega)
          have s2 : IntKind.i64.wrap (e.qty - 1) = e.qty - 1 := IntWalk.i64_in _ (by omega)
          have s3 : IntKind.i64.wrap (1 + y) = 1 + y := IntWalk.i64_in _ (by omega)
          have HE := Lib.hid he
          have HROW := Lib.hid hrow
          clear he hrow hv2
          have hml' : (m : Int) < (L.length : Int) := by omega
          go_upto_region 25 with (fail)
          go_cut [15] from 42 to 240 (fun v wx => v = .int .i64 m ∧ ∃ nq, wx = wo.drewN nq)
          case first =>
            go_quiet ((go_at_call 8; exact Calls.quiet_of_same (HM.out _)))
            go_wp2_with fail
            go_meet
            exact ⟨rfl, nq, rfl⟩
          case rest =>
          obtain ⟨rfl, n1, rfl⟩ := hcut
          have hR1 := hR.below (Below.drewN_of wo n1)
          have hrow1 : RowV (wo.drewN n1) W.heap.size (.slice (some ⟨g2, 0, none⟩) L.length c') L := own_below HROW.out (Below.drewN_of wo n1)
          obtain ⟨x0, x1, x2, x3, x4, x5⟩ : AskAt (wo.drewN n1) b off k x := ⟨x0, x1, x2, x3, x4, x5⟩
          have hcq1 : (wo.drewN n1).cell? ⟨ab, q, none⟩ = some (.slice (some ⟨g2, 0, none⟩) L.length c') := hcq
          obtain ⟨y0, y1, y2, y3⟩ : EntAt (wo.drewN n1) g2 (m * 4) e := ⟨y0, y1, y2, y3⟩
          clear hcq HM s1 hR
          generalize wo.drewN n1 = wD at *
          go_upto_region 26 with (fail)
          go_cut [16] from 42 to 240 (fun v wx => v = .int .i64 (1 + y) ∧ ∃ nq, wx = wD.drewN nq)
          case first =>
            go_quiet ((go_at_call 8; exact Calls.quiet_of_same (HB.out _)))
            go_wp2_with fail
            go_meet
            exact ⟨rfl, nq, rfl⟩
          case rest =>
          obtain ⟨rfl, n2, rfl⟩ := hcut
          have hR2 := hR1.below (Below.drewN_of wD n2)
          have hrow2 : RowV (wD.drewN n2) W.heap.size (.slice (some ⟨g2, 0, none⟩) L.length c') L := own_below hrow1 (Below.drewN_of wD n2)
          have hcq2 : (wD.drewN n2).cell? ⟨ab, q, none⟩ = some (.slice (some ⟨g2, 0, none⟩) L.length c') := hcq1
          obtain ⟨z0, z1, z2, z3⟩ : EntAt (wD.drewN n2) g2 (m * 4) e := ⟨y0, y1, y2, y3⟩
          clear hcq1 HB s2 s3 hR1 hrow1 x0 x1 x2 x3 x4 x5 y0 y1 y2 y3
          generalize wD.drewN n2 = wE at *
          have hyw : 1 + y < e.qty ∨ 1 + y = e.qty := by omega
          rcases hyw with hy | hy
          · as_aux_lemma =>
            have HT : Hid (takeA (three Q) (e.slot : Int) (1 + y) = (three (upd Q q (L.set m { e with qty := e.qty - (1 + y) })), 0)) := Lib.hid (take_less_three hR2.la.apart hq3 HL.out HE.out (1 + y) (by omega) (by omega))
            have HY := Lib.hid hy
            clear hy
            go_wp2_with fail
            refine (la_take hR2.la (e.slot : Int) (1 + y)).mono ?_
            rw [HT.out]
            rintro _ w5 ⟨rfl, hl5, hk5⟩
            have hR5 := hR2.calls NN hl5 hk5
            have hcq5 : w5.cell? ⟨ab, q, none⟩ = some (.slice (some ⟨g2, 0, none⟩) L.length c') := by have := hR5.cell hq3; rw [HV.out, HL.out] at this; exact this
            have hrow5 : RowV w5 W.heap.size (.slice (some ⟨g2, 0, none⟩) L.length c') L := by have := hR5.row q hq3; unfold vv at this; rw [HV.out, HL.out] at this; exact this
            obtain ⟨_, _, hv5, _, v0, v1, v2, v3⟩ := hrow5.at_ m e HE.out
            obtain ⟨rfl, rfl⟩ : g2 = _ ∧ c' = _ := by injection hv5 with h1 h2 h3; injection h1 with h1; injection h1 with h1; exact ⟨h1, h3⟩
            have fr5 : ∀ k, w5.frozen? ⟨g2, k, none⟩ = false := fun k => World.ownsRow.frozenAt hrow5 k
            clear hl5 hk5 hv5 hcq2 hrow2 z0 z1 z2 z3 hR2
            go_upto_region 29 with (fail)
            have s4 : IntKind.i64.wrap (e.qty - (1 + y)) = e.qty - (1 + y) := by rw [IntWalk.i64_in _ (by omega)]
            go_cut [9] from 42 to 240 (fun v wx => v = .int .i64 tot ∧ Ors W wx (W.heap.size + 1) W.heap.size qb ab room (three (upd Q q (L.set m { e with qty := e.qty - (1 + y) }))) (upd Q q (L.set m { e with qty := e.qty - (1 + y) })) V)
            case first =>
              refine wp_region_E (S := fun w' => w'.cell? ⟨ab, q, none⟩ = some (.slice (some ⟨g2, 0, none⟩) L.length c') ∧ w'.cell? ⟨g2, m * 4 + 2, none⟩ = some (.int .i64 e.qty)) (by kernel_rfl) ⟨hcq5, v2⟩ (fun hHeld => ?_)
              refine wpE_take (i := 0) (oi := ?oi6) (v := ?v6) ?hi6 (by kernel_rfl) (by kernel_rfl) (by kernel_rfl) (by kernel_rfl) ?hQ6 ?hy6 (by assumption) ?rest6
              case hi6 => (simp only [List.getElem?_toArray, List.getElem?_cons_zero]; rfl)
              case hQ6 => exact fun _ _ _ h => h
              case hy6 => exact Or.inl ⟨by rfl, by (intro w hSw; (try dsimp only at hSw); go_simp; try with_reducible rfl)⟩
              try simp only [Act.put, List.setIfInBounds_toArray, List.set_cons_zero, List.set_cons_succ]
              refine wpE_take (i := 1) (oi := ?oi7) (v := ?v7) ?hi7 (by kernel_rfl) (by kernel_rfl) (by kernel_rfl) (by kernel_rfl) ?hQ7 ?hy7 (by assumption) ?rest7
              case hi7 => (simp only [List.getElem?_toArray, List.getElem?_cons_succ, List.getElem?_cons_zero]; rfl)
              case hQ7 => exact fun _ _ _ h => h
              case hy7 => exact Or.inl ⟨by rfl, by (intro w hSw; (try dsimp only at hSw); go_simp; try with_reducible rfl)⟩
              try simp only [Act.put, List.setIfInBounds_toArray, List.set_cons_zero, List.set_cons_succ]
              refine wpE_take (i := 2) (oi := ?oi8) (v := ?v8) ?hi8 (by kernel_rfl) (by kernel_rfl) (by kernel_rfl) (by kernel_rfl) ?hQ8 ?hy8 (by assumption) ?rest8
              case hi8 => (simp only [List.getElem?_toArray, List.getElem?_cons_succ, List.getElem?_cons_zero]; rfl)
              case hQ8 => exact fun _ _ _ h => h
              case hy8 => exact Or.inl ⟨by rfl, by (intro w hSw; (try dsimp only at hSw); go_simp; try with_reducible rfl)⟩
              try simp only [Act.put, List.setIfInBounds_toArray, List.set_cons_zero, List.set_cons_succ]
              refine wpE_take (i := 3) (oi := ?oi9) (v := ?v9) ?hi9 (by kernel_rfl) (by kernel_rfl) (by kernel_rfl) (by kernel_rfl) ?hQ9 ?hy9 (by assumption) ?rest9
              case hi9 => (simp only [List.getElem?_toArray, List.getElem?_cons_succ, List.getElem?_cons_zero]; rfl)
              case hQ9 => exact fun _ _ _ h => h
              case hy9 => exact Or.inl ⟨by rfl, by (intro w hSw; (try dsimp only at hSw); go_simp; try with_reducible rfl)⟩
              try simp only [Act.put, List.setIfInBounds_toArray, List.set_cons_zero, List.set_cons_succ]
              refine wpE_take (i := 4) (oi := ?oi10) (v := ?v10) ?hi10 (by kernel_rfl) (by kernel_rfl) (by kernel_rfl) (by kernel_rfl) ?hQ10 ?hy10 (by assumption) ?rest10
              case hi10 => (simp only [List.getElem?_toArray, List.getElem?_cons_succ, List.getElem?_cons_zero]; rfl)
              case hQ10 => exact fun _ _ _ h => h
              case hy10 => exact Or.inl ⟨by rfl, by (intro w hSw; (try dsimp only at hSw); go_simp; try with_reducible rfl)⟩
              try simp only [Act.put, List.setIfInBounds_toArray, List.set_cons_zero, List.set_cons_succ]
              refine wpE_take (i := 5) (oi := ?oi11) (v := ?v11) ?hi11 (by kernel_rfl) (by kernel_rfl) (by kernel_rfl) (by kernel_rfl) ?hQ11 ?hy11 (by assumption) ?rest11
              case hi11 => (simp only [List.getElem?_toArray, List.getElem?_cons_succ, List.getElem?_cons_zero]; rfl)
              case hQ11 => exact fun _ _ _ h => h
              case hy11 => exact Or.inl ⟨by rfl, by (intro w hSw; (try dsimp only at hSw); go_simp; try with_reducible rfl)⟩
              try simp only [Act.put, List.setIfInBounds_toArray, List.set_cons_zero, List.set_cons_succ]
              refine wpE_take (i := 6) (oi := ?oi12) (v := ?v12) ?hi12 (by kernel_rfl) (by kernel_rfl) (by kernel_rfl) (by kernel_rfl) ?hQ12 ?hy12 (by assumption) ?rest12
              case hi12 => (simp only [List.getElem?_toArray, List.getElem?_cons_succ, List.getElem?_cons_zero]; rfl)
              case hQ12 => exact fun _ _ _ h => h
              case hy12 => exact Or.inl ⟨by rfl, by (intro w hSw; (try dsimp only at hSw); go_simp; try with_reducible rfl)⟩
              try simp only [Act.put, List.setIfInBounds_toArray, List.set_cons_zero, List.set_cons_succ]
              refine wpE_take (i := 7) (oi := ?oi13) (v := ?v13) ?hi13 (by kernel_rfl) (by kernel_rfl) (by kernel_rfl) (by kernel_rfl) ?hQ13 ?hy13 (by assumption) ?rest13
              case hi13 => (simp only [List.getElem?_toArray, List.getElem?_cons_succ, List.getElem?_cons_zero]; rfl)
              case hQ13 => exact fun _ _ _ h => h
              case hy13 => exact Or.inl ⟨by rfl, by (intro w hSw; (try dsimp only at hSw); go_simp; try with_reducible rfl)⟩
              try simp only [Act.put, List.setIfInBounds_toArray, List.set_cons_zero, List.set_cons_succ]
              refine wpE_take (i := 8) (oi := ?oi14) (v := ?v14) ?hi14 (by kernel_rfl) (by kernel_rfl) (by kernel_rfl) (by kernel_rfl) ?hQ14 ?hy14 (by assumption) ?rest14
              case hi14 => (simp only [List.getElem?_toArray, List.getElem?_cons_succ, List.getElem?_cons_zero]; rfl)
              case hQ14 => exact fun _ _ _ h => h
              case hy14 => exact Or.inl ⟨by rfl, by (intro w hSw; (try dsimp only at hSw); go_simp; try with_reducible rfl)⟩
              try simp only [Act.put, List.setIfInBounds_toArray, List.set_cons_zero, List.set_cons_succ]
              refine wpE_take (i := 9) (oi := ?oi15) (v := ?v15) ?hi15 (by kernel_rfl) (by kernel_rfl) (by kernel_rfl) (by kernel_rfl) ?hQ15 ?hy15 (by assumption) ?rest15
              case hi15 => (simp only [List.getElem?_toArray, List.getElem?_cons_succ, List.getElem?_cons_zero]; rfl)
              case hQ15 => exact fun _ _ _ h => h
              case hy15 => exact Or.inl ⟨by rfl, by (intro w hSw; (try dsimp only at hSw); go_simp; try with_reducible rfl)⟩
              try simp only [Act.put, List.setIfInBounds_toArray, List.set_cons_zero, List.set_cons_succ]
              refine wpE_take (i := 10) (oi := ?oi16) (v := ?v16) ?hi16 (by kernel_rfl) (by kernel_rfl) (by kernel_rfl) (by kernel_rfl) ?hQ16 ?hy16 (by assumption) ?rest16
              case hi16 => (simp only [List.getElem?_toArray, List.getElem?_cons_succ, List.getElem?_cons_zero]; rfl)
              case hQ16 => exact fun _ _ _ h => h
              case hy16 => exact Or.inl ⟨by rfl, by (intro w hSw; (try dsimp only at hSw); go_simp; try with_reducible rfl)⟩
              try simp only [Act.put, List.setIfInBounds_toArray, List.set_cons_zero, List.set_cons_succ]
              refine wpE_take (i := 11) (oi := ?oi17) (v := ?v17) ?hi17 (by kernel_rfl) (by kernel_rfl) (by kernel_rfl) (by kernel_rfl) ?hQ17 ?hy17 (by assumption) ?rest17
              case hi17 => (simp only [List.getElem?_toArray, List.getElem?_cons_succ, List.getElem?_cons_zero]; rfl)
              case hQ17 => exact fun _ _ _ h => h
              case hy17 => exact Or.inl ⟨by rfl, by (intro w hSw; (try dsimp only at hSw); go_simp; try with_reducible rfl)⟩
              try simp only [Act.put, List.setIfInBounds_toArray, List.set_cons_zero, List.set_cons_succ]
              refine wpE_take (i := 12) (oi := ?oi18) (v := ?v18) ?hi18 (by kernel_rfl) (by kernel_rfl) (by kernel_rfl) (by kernel_rfl) ?hQ18 ?hy18 (by assumption) ?rest18
              case hi18 => (simp only [List.getElem?_toArray, List.getElem?_cons_succ, List.getElem?_cons_zero]; rfl)
              case hQ18 => exact fun _ _ _ h => h
              case hy18 => exact Or.inl ⟨by rfl, by (intro w hSw; (try dsimp only at hSw); go_simp; try with_reducible rfl)⟩
              try simp only [Act.put, List.setIfInBounds_toArray, List.set_cons_zero, List.set_cons_succ]
              refine wpE_take (i := 13) (oi := ?oi19) (v := ?v19) ?hi19 (by kernel_rfl) (by kernel_rfl) (by kernel_rfl) (by kernel_rfl) ?hQ19 ?hy19 (by assumption) ?rest19
              case hi19 => (simp only [List.getElem?_toArray, List.getElem?_cons_succ, List.getElem?_cons_zero]; rfl)
              case hQ19 => exact fun _ _ _ h => h
              case hy19 => exact Or.inl ⟨by rfl, by (intro w hSw; (try dsimp only at hSw); go_simp; try with_reducible rfl)⟩
              try simp only [Act.put, List.setIfInBounds_toArray, List.set_cons_zero, List.set_cons_succ]
              refine wpE_take (i := 14) (oi := ?oi20) (v := ?v20) ?hi20 (by kernel_rfl) (by kernel_rfl) (by kernel_rfl) (by kernel_rfl) ?hQ20 ?hy20 (by assumption) ?rest20
              case hi20 => (simp only [List.getElem?_toArray, List.getElem?_cons_succ, List.getElem?_cons_zero]; rfl)
              case hQ20 => exact fun _ _ _ h => h
              case hy20 => exact Or.inl ⟨by rfl, by (intro w hSw; (try dsimp only at hSw); go_simp; try with_reducible rfl)⟩
              try simp only [Act.put, List.setIfInBounds_toArray, List.set_cons_zero, List.set_cons_succ]
              refine wpE_last (i := 15) (o := ?o56) ?ho56 (by kernel_rfl) (by kernel_rfl) (by kernel_rfl) (fun K hK => ?_)
              case ho56 => (simp only [List.getElem?_toArray, List.getElem?_cons_succ, List.getElem?_cons_zero]; rfl)
              go_simp
              refine hK.out _ _ ?_
              clear hK K hHeld
              all_goals (go_wp2_with fail; go_meet)
              all_goals
                have := (hR5.qty hq3 (g := g2) (m := m) (e := e) (by rw [HV.out]) (by rw [HL.out]; exact HE.out) (e.qty - (1 + y))).below (Below.drewN_of _ 1)
                rw [HL.out] at this
                exact ⟨rfl, this⟩
            case rest =>
            obtain ⟨rfl, hR6⟩ := hcut
            clear s4 v0 v1 v2 v3 fr5 hrow5 hcq5 hR5
            have hlen : (L.set m { e with qty := e.qty - (1 + y) }).length = L.length := List.length_set
            have hcq6 : wc.cell? ⟨ab, q, none⟩ = some (.slice (some ⟨g2, 0, none⟩) L.length c') := by have := hR6.cell hq3; rw [HV.out, upd_self, hlen] at this; exact this
            have hrow6 : RowV wc W.heap.size (.slice (some ⟨g2, 0, none⟩) (L.set m { e with qty := e.qty - (1 + y) }).length c') (L.set m { e with qty := e.qty - (1 + y) }) := by have := hR6.row q hq3; unfold vv at this; rw [HV.out, upd_self] at this; exact this
            have hm6 : (L.set m { e with qty := e.qty - (1 + y) })[m]? = some { e with qty := e.qty - (1 + y) } := by rw [List.getElem?_set_self hml]
            obtain ⟨_, _, hv6, hg26, v0, v1, v2, v3⟩ := hrow6.at_ m _ hm6
            obtain ⟨rfl, rfl⟩ : g2 = _ ∧ c' = _ := by injection hv6 with h1 h2 h3; injection h1 with h1; injection h1 with h1; exact ⟨h1, h3⟩
            replace v2 : wc.cell? ⟨g2, m * 4 + 2, none⟩ = some (.int .i64 (e.qty - (1 + y))) := v2
            have hz0 : (e.qty - (1 + y) == 0) = false := by rw [beq_eq_false_iff_ne]; have := HY.out; omega
            clear hv6 hm6 hlen
            go_wp2_with fail
            go_meet
            have hsum := three_sum Q hq3 (L.set m { e with qty := e.qty - (1 + y) })
            rw [HL.out, HTOT.out, List.length_set] at hsum
            exact ⟨_, _, congrArg (Value.int .i64) (by omega), hR6⟩
          · as_aux_lemma =>
            have HT : Hid (takeA (three Q) (e.slot : Int) (1 + y) = (three (upd Q q (L.eraseIdx m)), 0)) := Lib.hid (by rw [hy]; exact take_all_three hR2.la.apart hq3 HL.out HE.out (by omega))
            have HY := Lib.hid hy
            clear hy
            go_wp2_with fail
            refine (la_take hR2.la (e.slot : Int) (1 + y)).mono ?_
            rw [HT.out]
            rintro _ w5 ⟨rfl, hl5, hk5⟩
            have hR5 := hR2.calls NN hl5 hk5
            have hcq5 : w5.cell? ⟨ab, q, none⟩ = some (.slice (some ⟨g2, 0, none⟩) L.length c') := by have := hR5.cell hq3; rw [HV.out, HL.out] at this; exact this
            have hrow5 : RowV w5 W.heap.size (.slice (some ⟨g2, 0, none⟩) L.length c') L := by have := hR5.row q hq3; unfold vv at this; rw [HV.out, HL.out] at this; exact this
            obtain ⟨_, _, hv5, _, v0, v1, v2, v3⟩ := hrow5.at_ m e HE.out
            obtain ⟨rfl, rfl⟩ : g2 = _ ∧ c' = _ := by injection hv5 with h1 h2 h3; injection h1 with h1; injection h1 with h1; exact ⟨h1, h3⟩
            have fr5 : ∀ k, w5.frozen? ⟨g2, k, none⟩ = false := fun k => World.ownsRow.frozenAt hrow5 k
            clear hl5 hk5 hv5 hcq2 hrow2 z0 z1 z2 z3 hR2
            go_upto_region 29 with (fail)
            have s4 : IntKind.i64.wrap (e.qty - (1 + y)) = 0 := by rw [IntWalk.i64_in _ (by omega)]; have := HY.out; omega
            go_cut [9] from 42 to 240 (fun v wx => v = .int .i64 tot ∧ Ors W wx (W.heap.size + 1) W.heap.size qb ab room (three (upd Q q (L.eraseIdx m))) (upd Q q (L.set m { e with qty := 0 })) V)
            case first =>
              refine wp_region_E (S := fun w' => w'.cell? ⟨ab, q, none⟩ = some (.slice (some ⟨g2, 0, none⟩) L.length c') ∧ w'.cell? ⟨g2, m * 4 + 2, none⟩ = some (.int .i64 e.qty)) (by kernel_rfl) ⟨hcq5, v2⟩ (fun hHeld => ?_)
              refine wpE_take (i := 0) (oi := ?oi21) (v := ?v21) ?hi21 (by kernel_rfl) (by kernel_rfl) (by kernel_rfl) (by kernel_rfl) ?hQ21 ?hy21 (by assumption) ?rest21
              case hi21 => (simp only [List.getElem?_toArray, List.getElem?_cons_zero]; rfl)
              case hQ21 => exact fun _ _ _ h => h
              case hy21 => exact Or.inl ⟨by rfl, by (intro w hSw; (try dsimp only at hSw); go_simp; try with_reducible rfl)⟩
              try simp only [Act.put, List.setIfInBounds_toArray, List.set_cons_zero, List.set_cons_succ]
              refine wpE_take (i := 1) (oi := ?oi22) (v := ?v22) ?hi22 (by kernel_rfl) (by kernel_rfl) (by kernel_rfl) (by kernel_rfl) ?hQ22 ?hy22 (by assumption) ?rest22
              case hi22 => (simp only [List.getElem?_toArray, List.getElem?_cons_succ, List.getElem?_cons_zero]; rfl)
              case hQ22 => exact fun _ _ _ h => h
              case hy22 => exact Or.inl ⟨by rfl, by (intro w hSw; (try dsimp only at hSw); go_simp; try with_reducible rfl)⟩
              try simp only [Act.put, List.setIfInBounds_toArray, List.set_cons_zero, List.set_cons_succ]
              refine wpE_take (i := 2) (oi := ?oi23) (v := ?v23) ?hi23 (by kernel_rfl) (by kernel_rfl) (by kernel_rfl) (by kernel_rfl) ?hQ23 ?hy23 (by assumption) ?rest23
              case hi23 => (simp only [List.getElem?_toArray, List.getElem?_cons_succ, List.getElem?_cons_zero]; rfl)
              case hQ23 => exact fun _ _ _ h => h
              case hy23 => exact Or.inl ⟨by rfl, by (intro w hSw; (try dsimp only at hSw); go_simp; try with_reducible rfl)⟩
              try simp only [Act.put, List.setIfInBounds_toArray, List.set_cons_zero, List.set_cons_succ]
              refine wpE_take (i := 3) (oi := ?oi24) (v := ?v24) ?hi24 (by kernel_rfl) (by kernel_rfl) (by kernel_rfl) (by kernel_rfl) ?hQ24 ?hy24 (by assumption) ?rest24
              case hi24 => (simp only [List.getElem?_toArray, List.getElem?_cons_succ, List.getElem?_cons_zero]; rfl)
              case hQ24 => exact fun _ _ _ h => h
              case hy24 => exact Or.inl ⟨by rfl, by (intro w hSw; (try dsimp only at hSw); go_simp; try with_reducible rfl)⟩
              try simp only [Act.put, List.setIfInBounds_toArray, List.set_cons_zero, List.set_cons_succ]
              refine wpE_take (i := 4) (oi := ?oi25) (v := ?v25) ?hi25 (by kernel_rfl) (by kernel_rfl) (by kernel_rfl) (by kernel_rfl) ?hQ25 ?hy25 (by assumption) ?rest25
              case hi25 => (simp only [List.getElem?_toArray, List.getElem?_cons_succ, List.getElem?_cons_zero]; rfl)
              case hQ25 => exact fun _ _ _ h => h
              case hy25 => exact Or.inl ⟨by rfl, by (intro w hSw; (try dsimp only at hSw); go_simp; try with_reducible rfl)⟩
              try simp only [Act.put, List.setIfInBounds_toArray, List.set_cons_zero, List.set_cons_succ]
              refine wpE_take (i := 5) (oi := ?oi26) (v := ?v26) ?hi26 (by kernel_rfl) (by kernel_rfl) (by kernel_rfl) (by kernel_rfl) ?hQ26 ?hy26 (by assumption) ?rest26
              case hi26 => (simp only [List.getElem?_toArray, List.getElem?_cons_succ, List.getElem?_cons_zero]; rfl)
              case hQ26 => exact fun _ _ _ h => h
              case hy26 => exact Or.inl ⟨by rfl, by (intro w hSw; (try dsimp only at hSw); go_simp; try with_reducible rfl)⟩
              try simp only [Act.put, List.setIfInBounds_toArray, List.set_cons_zero, List.set_cons_succ]
              refine wpE_take (i := 6) (oi := ?oi27) (v := ?v27) ?hi27 (by kernel_rfl) (by kernel_rfl) (by kernel_rfl) (by kernel_rfl) ?hQ27 ?hy27 (by assumption) ?rest27
              case hi27 => (simp only [List.getElem?_toArray, List.getElem?_cons_succ, List.getElem?_cons_zero]; rfl)
              case hQ27 => exact fun _ _ _ h => h
              case hy27 => exact Or.inl ⟨by rfl, by (intro w hSw; (try dsimp only at hSw); go_simp; try with_reducible rfl)⟩
              try simp only [Act.put, List.setIfInBounds_toArray, List.set_cons_zero, List.set_cons_succ]
              refine wpE_take (i := 7) (oi := ?oi28) (v := ?v28) ?hi28 (by kernel_rfl) (by kernel_rfl) (by kernel_rfl) (by kernel_rfl) ?hQ28 ?hy28 (by assumption) ?rest28
              case hi28 => (simp only [List.getElem?_toArray, List.getElem?_cons_succ, List.getElem?_cons_zero]; rfl)
              case hQ28 => exact fun _ _ _ h => h
              case hy28 => exact Or.inl ⟨by rfl, by (intro w hSw; (try dsimp only at hSw); go_simp; try with_reducible rfl)⟩
              try simp only [Act.put, List.setIfInBounds_toArray, List.set_cons_zero, List.set_cons_succ]
              refine wpE_take (i := 8) (oi := ?oi29) (v := ?v29) ?hi29 (by kernel_rfl) (by kernel_rfl) (by kernel_rfl) (by kernel_rfl) ?hQ29 ?hy29 (by assumption) ?rest29
              case hi29 => (simp only [List.getElem?_toArray, List.getElem?_cons_succ, List.getElem?_cons_zero]; rfl)
              case hQ29 => exact fun _ _ _ h => h
              case hy29 => exact Or.inl ⟨by rfl, by (intro w hSw; (try dsimp only at hSw); go_simp; try with_reducible rfl)⟩
              try simp only [Act.put, List.setIfInBounds_toArray, List.set_cons_zero, List.set_cons_succ]
              refine wpE_take (i := 9) (oi := ?oi30) (v := ?v30) ?hi30 (by kernel_rfl) (by kernel_rfl) (by kernel_rfl) (by kernel_rfl) ?hQ30 ?hy30 (by assumption) ?rest30
              case hi30 => (simp only [List.getElem?_toArray, List.getElem?_cons_succ, List.getElem?_cons_zero]; rfl)
              case hQ30 => exact fun _ _ _ h => h
              case hy30 => exact Or.inl ⟨by rfl, by (intro w hSw; (try dsimp only at hSw); go_simp; try with_reducible rfl)⟩
              try simp only [Act.put, List.setIfInBounds_toArray, List.set_cons_zero, List.set_cons_succ]
              refine wpE_take (i := 10) (oi := ?oi31) (v := ?v31) ?hi31 (by kernel_rfl) (by kernel_rfl) (by kernel_rfl) (by kernel_rfl) ?hQ31 ?hy31 (by assumption) ?rest31
              case hi31 => (simp only [List.getElem?_toArray, List.getElem?_cons_succ, List.getElem?_cons_zero]; rfl)
              case hQ31 => exact fun _ _ _ h => h
              case hy31 => exact Or.inl ⟨by rfl, by (intro w hSw; (try dsimp only at hSw); go_simp; try with_reducible rfl)⟩
              try simp only [Act.put, List.setIfInBounds_toArray, List.set_cons_zero, List.set_cons_succ]
              refine wpE_take (i := 11) (oi := ?oi32) (v := ?v32) ?hi32 (by kernel_rfl) (by kernel_rfl) (by kernel_rfl) (by kernel_rfl) ?hQ32 ?hy32 (by assumption) ?rest32
              case hi32 => (simp only [List.getElem?_toArray, List.getElem?_cons_succ, List.getElem?_cons_zero]; rfl)
              case hQ32 => exact fun _ _ _ h => h
              case hy32 => exact Or.inl ⟨by rfl, by (intro w hSw; (try dsimp only at hSw); go_simp; try with_reducible rfl)⟩
              try simp only [Act.put, List.setIfInBounds_toArray, List.set_cons_zero, List.set_cons_succ]
              refine wpE_take (i := 12) (oi := ?oi33) (v := ?v33) ?hi33 (by kernel_rfl) (by kernel_rfl) (by kernel_rfl) (by kernel_rfl) ?hQ33 ?hy33 (by assumption) ?rest33
              case hi33 => (simp only [List.getElem?_toArray, List.getElem?_cons_succ, List.getElem?_cons_zero]; rfl)
              case hQ33 => exact fun _ _ _ h => h
              case hy33 => exact Or.inl ⟨by rfl, by (intro w hSw; (try dsimp only at hSw); go_simp; try with_reducible rfl)⟩
              try simp only [Act.put, List.setIfInBounds_toArray, List.set_cons_zero, List.set_cons_succ]
              refine wpE_take (i := 13) (oi := ?oi34) (v := ?v34) ?hi34 (by kernel_rfl) (by kernel_rfl) (by kernel_rfl) (by kernel_rfl) ?hQ34 ?hy34 (by assumption) ?rest34
              case hi34 => (simp only [List.getElem?_toArray, List.getElem?_cons_succ, List.getElem?_cons_zero]; rfl)
              case hQ34 => exact fun _ _ _ h => h
              case hy34 => exact Or.inl ⟨by rfl, by (intro w hSw; (try dsimp only at hSw); go_simp; try with_reducible rfl)⟩
              try simp only [Act.put, List.setIfInBounds_toArray, List.set_cons_zero, List.set_cons_succ]
              refine wpE_take (i := 14) (oi := ?oi35) (v := ?v35) ?hi35 (by kernel_rfl) (by kernel_rfl) (by kernel_rfl) (by kernel_rfl) ?hQ35 ?hy35 (by assumption) ?rest35
              case hi35 => (simp only [List.getElem?_toArray, List.getElem?_cons_succ, List.getElem?_cons_zero]; rfl)
              case hQ35 => exact fun _ _ _ h => h
              case hy35 => exact Or.inl ⟨by rfl, by (intro w hSw; (try dsimp only at hSw); go_simp; try with_reducible rfl)⟩
              try simp only [Act.put, List.setIfInBounds_toArray, List.set_cons_zero, List.set_cons_succ]
              refine wpE_last (i := 15) (o := ?o57) ?ho57 (by kernel_rfl) (by kernel_rfl) (by kernel_rfl) (fun K hK => ?_)
              case ho57 => (simp only [List.getElem?_toArray, List.getElem?_cons_succ, List.getElem?_cons_zero]; rfl)
              go_simp
              refine hK.out _ _ ?_
              clear hK K hHeld
              all_goals (go_wp2_with fail; go_meet)
              all_goals
                have := (hR5.qty hq3 (g := g2) (m := m) (e := e) (by rw [HV.out]) (by rw [HL.out]; exact HE.out) (0)).below (Below.drewN_of _ 1)
                rw [HL.out] at this
                exact ⟨rfl, this⟩
            case rest =>
            obtain ⟨rfl, hR6⟩ := hcut
            clear s4 v0 v1 v2 v3 fr5 hrow5 hcq5 hR5
            have hlen : (L.set m { e with qty := 0 }).length = L.length := List.length_set
            have hcq6 : wc.cell? ⟨ab, q, none⟩ = some (.slice (some ⟨g2, 0, none⟩) L.length c') := by have := hR6.cell hq3; rw [HV.out, upd_self, hlen] at this; exact this
            have hrow6 : RowV wc W.heap.size (.slice (some ⟨g2, 0, none⟩) (L.set m { e with qty := 0 }).length c') (L.set m { e with qty := 0 }) := by have := hR6.row q hq3; unfold vv at this; rw [HV.out, upd_self] at this; exact this
            have hm6 : (L.set m { e with qty := 0 })[m]? = some { e with qty := 0 } := by rw [List.getElem?_set_self hml]
            obtain ⟨_, _, hv6, hg26, v0, v1, v2, v3⟩ := hrow6.at_ m _ hm6
            obtain ⟨rfl, rfl⟩ : g2 = _ ∧ c' = _ := by injection hv6 with h1 h2 h3; injection h1 with h1; injection h1 with h1; exact ⟨h1, h3⟩
            replace v2 : wc.cell? ⟨g2, m * 4 + 2, none⟩ = some (.int .i64 (0)) := v2
            have HLEN := Lib.hid hlen
            clear hv6 hm6 hlen
            go_upto_region 31 with (fail)
            have hab := hR6.arr.lt
            have hcl : L.length ≤ c' := by
              have h0 := hrow6
              rw [HLEN.out] at h0
              rcases h0.2 with ⟨h1, _⟩ | ⟨g, cap, cur, h1, _, _, h2, _⟩
              · injection h1 with h1; cases h1
              · injection h1 with _ _ h3; omega
            have hrd6 := Lib.hid (RowV.rd0 hrow6)
            have HROW6 := Lib.hid hrow6
            generalize hLz : L.set m { e with qty := 0 } = Lz at *
            have HLZ := Lib.hid hLz
            clear hLz hrow6 v0 v1 v2 v3
            have hlz : Lz.length = L.length := HLEN.out
            have hLZL := Lib.hid hlz
            clear hlz
            have hmc : m ≤ c' := by omega
            have hm1 : m + 1 ≤ L.length := by omega
            have hm2 : m + 1 ≤ c' := by omega
            have hwz := hR6.bel.size
            have HBA : Hid (Below wc.heap.size wc (wc.alloc (.cells #[] 33)).drew) := Lib.hid (((Below.refl _ _).alloc (Nat.le_refl _) _).drew)
            have HOE : Hid (RowV (wc.alloc (.cells #[] 33)).drew W.heap.size (.slice (some ⟨wc.heap.size, 0, none⟩) 0 0) []) :=
              Lib.hid ⟨rfl, .inr ⟨wc.heap.size, 0, #[], rfl, hwz, heap_alloc_new wc _, Nat.le_refl _, by omega, rfl, rfl⟩⟩
            have HSZ : Hid ((wc.alloc (.cells #[] 33)).drew.heap.size = wc.heap.size + 1) := Lib.hid (by simp)
            have HTK : Hid ((Lz.take m).length = m) := Lib.hid (by rw [List.length_take, hLZL.out]; omega)
            have HDR : Hid ((Lz.drop (m + 1)).length = L.length - (m + 1)) := Lib.hid (by rw [List.length_drop, hLZL.out])
            have HER : Hid ([] ++ Lz.take m ++ Lz.drop (m + 1) = L.eraseIdx m) := Lib.hid (by rw [List.nil_append, ← HLZ.out]; exact erase_app L m _)
            have HEL : Hid ((L.eraseIdx m).length = L.length - 1) := Lib.hid (by rw [List.length_eraseIdx, if_pos hml])
            have hfq6 := hR6.frozen q
            have i1 : IntKind.i64.wrap ((m : Int) + 1) = (m : Int) + 1 := IntWalk.i64_in _ (by omega)
            have i2 : 0 ≤ (m : Int) + 1 := by omega
            have i3 : ((m : Int) + 1).toNat = m + 1 := by omega
            have i4 : (m : Int) + 1 ≤ (L.length : Int) := by omega
            have i5 : (m : Int) ≤ (m : Int) + 1 := by omega
            obtain ⟨off2, hoff⟩ : ∃ off2, off2 = (if c' = m + 1 then 0 else (m + 1) * 4) := ⟨_, rfl⟩
            have hadr : (if c' = m + 1 then (some ⟨g2, 0, none⟩ : Option Addr) else some ⟨g2, (m + 1) * 4, none⟩) = some ⟨g2, off2, none⟩ := by
              rw [hoff]; split <;> rfl
            have HRD2 : Hid (∀ w1, Below wc.heap.size wc w1 → Rd w1 (some ⟨g2, off2, none⟩) (Lz.drop (m + 1))) := Lib.hid (by
              intro w1 hbw1
              rw [hoff]
              by_cases hcap : c' = m + 1
              · rw [if_pos hcap]
                have h0 : Lz.drop (m + 1) = [] := List.eq_nil_of_length_eq_zero (by rw [HDR.out]; omega)
                rw [h0]; intro j e' hj; simp at hj
              · rw [if_neg hcap]
                have h0 := (hrd6.out.below hbw1).drop (m + 1)
                rw [Nat.zero_add] at h0; exact h0)
            have i1 : IntKind.i64.wrap ((m : Int) + 1) = (m : Int) + 1 := IntWalk.i64_in _ (by omega)
            have i2 : 0 ≤ (m : Int) + 1 := by omega
            have i3 : ((m : Int) + 1).toNat = m + 1 := by omega
            have i4 : (m : Int) + 1 ≤ (L.length : Int) := by omega
            clear hoff
            go_cut [9] from 42 to 240 (fun v wx => v = .int .i64 tot ∧ ∃ a2 c2, Ors W wx (W.heap.size + 1) W.heap.size qb ab room (three (upd Q q (L.eraseIdx m))) (upd Q q (L.eraseIdx m)) (upd V q (a2, c2)))
            case first =>
              refine wp_region_E (S := fun w' => w'.cell? ⟨ab, q, none⟩ = some (.slice (some ⟨g2, 0, none⟩) L.length c')) (by kernel_rfl) hcq6 (fun hHeld => ?_)
              refine wpE_take (i := 0) (oi := ?oi36) (v := ?v36) ?hi36 (by kernel_rfl) (by kernel_rfl) (by kernel_rfl) (by kernel_rfl) ?hQ36 ?hy36 (by assumption) ?rest36
              case hi36 => (simp only [List.getElem?_toArray, List.getElem?_cons_zero]; rfl)
              case hQ36 => exact fun _ _ _ h => h
              case hy36 => exact Or.inl ⟨by rfl, by (intro w hSw; (try dsimp only at hSw); go_simp; try with_reducible rfl)⟩
              try simp only [Act.put, List.setIfInBounds_toArray, List.set_cons_zero, List.set_cons_succ]
              refine wpE_take (i := 2) (oi := ?oi37) (v := ?v37) ?hi37 (by kernel_rfl) (by kernel_rfl) (by kernel_rfl) (by kernel_rfl) ?hQ37 ?hy37 (by assumption) ?rest37
              case hi37 => (simp only [List.getElem?_toArray, List.getElem?_cons_succ, List.getElem?_cons_zero]; rfl)
              case hQ37 => exact fun _ _ _ h => h
              case hy37 => exact Or.inl ⟨by rfl, by (intro w hSw; (try dsimp only at hSw); go_simp; try with_reducible rfl)⟩
              try simp only [Act.put, List.setIfInBounds_toArray, List.set_cons_zero, List.set_cons_succ]
              refine wpE_take (i := 3) (oi := ?oi38) (v := ?v38) ?hi38 (by kernel_rfl) (by kernel_rfl) (by kernel_rfl) (by kernel_rfl) ?hQ38 ?hy38 (by assumption) ?rest38
              case hi38 => (simp only [List.getElem?_toArray, List.getElem?_cons_succ, List.getElem?_cons_zero]; rfl)
              case hQ38 => exact fun _ _ _ h => h
              case hy38 => exact Or.inl ⟨by rfl, by (intro w hSw; (try dsimp only at hSw); go_simp; try with_reducible rfl)⟩
              try simp only [Act.put, List.setIfInBounds_toArray, List.set_cons_zero, List.set_cons_succ]
              refine wpE_take (i := 4) (oi := ?oi39) (v := ?v39) ?hi39 (by kernel_rfl) (by kernel_rfl) (by kernel_rfl) (by kernel_rfl) ?hQ39 ?hy39 (by assumption) ?rest39
              case hi39 => (simp only [List.getElem?_toArray, List.getElem?_cons_succ, List.getElem?_cons_zero]; rfl)
              case hQ39 => exact fun _ _ _ h => h
              case hy39 => exact Or.inl ⟨by rfl, by (intro w hSw; (try dsimp only at hSw); go_simp; try with_reducible rfl)⟩
              try simp only [Act.put, List.setIfInBounds_toArray, List.set_cons_zero, List.set_cons_succ]
              refine wpE_take (i := 5) (oi := ?oi40) (v := ?v40) ?hi40 (by kernel_rfl) (by kernel_rfl) (by kernel_rfl) (by kernel_rfl) ?hQ40 ?hy40 (by assumption) ?rest40
              case hi40 => (simp only [List.getElem?_toArray, List.getElem?_cons_succ, List.getElem?_cons_zero]; rfl)
              case hQ40 => exact fun _ _ _ h => h
              case hy40 => exact Or.inl ⟨by rfl, by (intro w hSw; (try dsimp only at hSw); go_simp; try with_reducible rfl)⟩
              try simp only [Act.put, List.setIfInBounds_toArray, List.set_cons_zero, List.set_cons_succ]
              refine wpE_take (i := 6) (oi := ?oi41) (v := ?v41) ?hi41 (by kernel_rfl) (by kernel_rfl) (by kernel_rfl) (by kernel_rfl) ?hQ41 ?hy41 (by assumption) ?rest41
              case hi41 => (simp only [List.getElem?_toArray, List.getElem?_cons_succ, List.getElem?_cons_zero]; rfl)
              case hQ41 => exact fun _ _ _ h => h
              case hy41 => exact Or.inl ⟨by rfl, by (intro w hSw; (try dsimp only at hSw); go_simp; try with_reducible rfl)⟩
              try simp only [Act.put, List.setIfInBounds_toArray, List.set_cons_zero, List.set_cons_succ]
              refine wpE_take (i := 8) (oi := ?oi42) (v := ?v42) ?hi42 (by kernel_rfl) (by kernel_rfl) (by kernel_rfl) (by kernel_rfl) ?hQ42 ?hy42 (by assumption) ?rest42
              case hi42 => (simp only [List.getElem?_toArray, List.getElem?_cons_succ, List.getElem?_cons_zero]; rfl)
              case hQ42 => exact fun _ _ _ h => h
              case hy42 => exact Or.inl ⟨by rfl, by (intro w hSw; (try dsimp only at hSw); go_simp; try with_reducible rfl)⟩
              try simp only [Act.put, List.setIfInBounds_toArray, List.set_cons_zero, List.set_cons_succ]
              refine wpE_take (i := 9) (oi := ?oi43) (v := ?v43) ?hi43 (by kernel_rfl) (by kernel_rfl) (by kernel_rfl) (by kernel_rfl) ?hQ43 ?hy43 (by assumption) ?rest43
              case hi43 => (simp only [List.getElem?_toArray, List.getElem?_cons_succ, List.getElem?_cons_zero]; rfl)
              case hQ43 => exact fun _ _ _ h => h
              case hy43 => exact Or.inl ⟨by rfl, by (intro w hSw; (try dsimp only at hSw); go_simp; try with_reducible rfl)⟩
              try simp only [Act.put, List.setIfInBounds_toArray, List.set_cons_zero, List.set_cons_succ]
              refine wpE_take (i := 10) (oi := ?oi44) (v := ?v44) ?hi44 (by kernel_rfl) (by kernel_rfl) (by kernel_rfl) (by kernel_rfl) ?hQ44 ?hy44 (by assumption) ?rest44
              case hi44 => (simp only [List.getElem?_toArray, List.getElem?_cons_succ, List.getElem?_cons_zero]; rfl)
              case hQ44 => exact fun _ _ _ h => h
              case hy44 => exact Or.inl ⟨by rfl, by (intro w hSw; (try dsimp only at hSw); go_simp; try with_reducible rfl)⟩
              try simp only [Act.put, List.setIfInBounds_toArray, List.set_cons_zero, List.set_cons_succ]
              refine wpE_take (i := 11) (oi := ?oi45) (v := ?v45) ?hi45 (by kernel_rfl) (by kernel_rfl) (by kernel_rfl) (by kernel_rfl) ?hQ45 ?hy45 (by assumption) ?rest45
              case hi45 => (simp only [List.getElem?_toArray, List.getElem?_cons_succ, List.getElem?_cons_zero]; rfl)
              case hQ45 => exact fun _ _ _ h => h
              case hy45 => exact Or.inl ⟨by rfl, by (intro w hSw; (try dsimp only at hSw); go_simp; try with_reducible rfl)⟩
              try simp only [Act.put, List.setIfInBounds_toArray, List.set_cons_zero, List.set_cons_succ]
              refine wpE_take (i := 12) (oi := ?oi46) (v := ?v46) ?hi46 (by kernel_rfl) (by kernel_rfl) (by kernel_rfl) (by kernel_rfl) ?hQ46 ?hy46 (by assumption) ?rest46
              case hi46 => (simp only [List.getElem?_toArray, List.getElem?_cons_succ, List.getElem?_cons_zero]; rfl)
              case hQ46 => exact fun _ _ _ h => h
              case hy46 => exact Or.inl ⟨by rfl, by (intro w hSw; (try dsimp only at hSw); go_simp; try with_reducible rfl)⟩
              try simp only [Act.put, List.setIfInBounds_toArray, List.set_cons_zero, List.set_cons_succ]
              refine wpE_take (i := 13) (oi := ?oi47) (v := ?v47) ?hi47 (by kernel_rfl) (by kernel_rfl) (by kernel_rfl) (by kernel_rfl) ?hQ47 ?hy47 (by assumption) ?rest47
              case hi47 => (simp only [List.getElem?_toArray, List.getElem?_cons_succ, List.getElem?_cons_zero]; rfl)
              case hQ47 => exact fun _ _ _ h => h
              case hy47 => exact Or.inl ⟨by rfl, by (intro w hSw; (try dsimp only at hSw); go_simp; try with_reducible rfl)⟩
              try simp only [Act.put, List.setIfInBounds_toArray, List.set_cons_zero, List.set_cons_succ]
              refine wpE_one (i := 1) (o := ?o52) ?ho52 (by kernel_rfl) (fun K hK => ?_)
              case ho52 => (simp only [List.getElem?_toArray, List.getElem?_cons_succ, List.getElem?_cons_zero]; rfl)
              go_simp
              refine hK.out _ _ ((HBA.out.cell (p := ⟨ab, q, none⟩) hab).trans hcq6) (fun hHeld => ?_)
              clear hK K
              refine wpE_one (i := 7) (o := ?o53) ?ho53 (by kernel_rfl) (fun K hK => ?_)
              case ho53 => (simp only [List.getElem?_toArray, List.getElem?_cons_succ, List.getElem?_cons_zero]; rfl)
              refine step_append_ents (by rfl) (.tmp 187) (.tmp 192) (by rfl) W.heap.size wc.heap.size 0 0 m [] rfl (by rfl) HOE.out g2 0 c' (Lz.take m) HTK.out (by rfl) ((hrd6.out.below HBA.out).take m) m (by omega) (by omega) (by rw [HSZ.out]; omega) ?_
              intro g1 cap1 w1 hr1 hgr1 hat1
              have hbw1 : Below wc.heap.size wc w1 := grown_below hgr1 HBA.out (fun g hg => by injection hg with hg; omega)
              rw [HSZ.out] at hat1
              have HR1 := Lib.hid hr1
              have HBW1 := Lib.hid hbw1
              clear hr1 hgr1 hbw1
              refine hK.out _ _ ((HBW1.out.cell (p := ⟨ab, q, none⟩) hab).trans hcq6) (fun hHeld => ?_)
              clear hK K
              refine wpE_one (i := 14) (o := ?o54) ?ho54 (by kernel_rfl) (fun K hK => ?_)
              case ho54 => (simp only [List.getElem?_toArray, List.getElem?_cons_succ, List.getElem?_cons_zero]; rfl)
              refine step_append_ents (by rfl) (.tmp 193) (.tmp 199) (by rfl) W.heap.size g1 cap1 m (L.length - (m + 1)) ([] ++ Lz.take m) HTK.out (by rfl) HR1.out g2 off2 (c' - (m + 1)) (Lz.drop (m + 1)) HDR.out (by rfl) (HRD2.out w1 HBW1.out) (L.length - 1) (by omega) (by omega) (by have := HBW1.out.size; omega) ?_
              intro g3 cap3 w3 hr3 hgr3 hat3
              have hbw3 : Below wc.heap.size wc w3 := grown_below hgr3 HBW1.out (fun g hg => by injection hg with hg; omega)
              have cq3 : w3.cell? ⟨ab, q, none⟩ = some (.slice (some ⟨g2, 0, none⟩) L.length c') := (hbw3.cell (p := ⟨ab, q, none⟩) hab).trans hcq6
              have fq3 : w3.frozen? ⟨ab, q, none⟩ = false := (hbw3.frozen (p := ⟨ab, q, none⟩) hab).trans hfq6
              have HR3 := Lib.hid hr3
              have HBW3 := Lib.hid hbw3
              have hg3 : wc.heap.size ≤ g3 := (by have := HBW1.out.size; omega)
              clear hr3 hgr3 hbw3
              refine hK.out _ _ cq3 (fun hHeld => ?_)
              clear hK K
              refine wpE_take (i := 15) (oi := ?oi48) (v := ?v48) ?hi48 (by kernel_rfl) (by kernel_rfl) (by kernel_rfl) (by kernel_rfl) ?hQ48 ?hy48 (by assumption) ?rest48
              case hi48 => (simp only [List.getElem?_toArray, List.getElem?_cons_succ, List.getElem?_cons_zero]; rfl)
              case hQ48 => exact fun _ _ _ h => h
              case hy48 => exact Or.inl ⟨by rfl, by (intro w hSw; (try dsimp only at hSw); go_simp; try with_reducible rfl)⟩
              try simp only [Act.put, List.setIfInBounds_toArray, List.set_cons_zero, List.set_cons_succ]
              refine wpE_last (i := 16) (o := ?o58) ?ho58 (by kernel_rfl) (by kernel_rfl) (by kernel_rfl) (fun K hK => ?_)
              case ho58 => (simp only [List.getElem?_toArray, List.getElem?_cons_succ, List.getElem?_cons_zero]; rfl)
              go_simp
              refine hK.out _ _ ?_
              clear hK K
              all_goals (go_wp2_with fail; go_meet)
              all_goals exact ⟨rfl, some ⟨g3, 0, none⟩, cap3, hR6.row_fresh NN hq3 HBW3.out (by have h0 := HR3.out; rw [HER.out] at h0; exact h0) HEL.out hg3⟩
            case rest =>
              obtain ⟨rfl, a2, c2, hR7⟩ := hcut
              go_wp2_with fail
              go_meet
              have hsum := three_sum Q hq3 (L.eraseIdx m)
              rw [HL.out, HTOT.out, HEL.out] at hsum
              exact ⟨_, _, congrArg (Value.int .i64) (by omega), hR7⟩
      case rest => as_aux_lemma =>
        obtain ⟨Q', V', rfl, hR8⟩ := hcut
        clear x0 x1 x2 x3 x4 x5 hcq
        have hR8s := hR8.la.small
        obtain ⟨T', HT'⟩ : ∃ T', Hid (((three Q').map List.length).sum = T') := ⟨_, rfl⟩
        rw [HT'.out] at hR8s ⊢
        go_wp2_with fail
        go_loopw [17] (fun z w' => ∃ z' : Nat, z = .int .i64 z' ∧ z' ≤ 3 ∧ Below wc.heap.size wc w') (fun z _ => 3 - (intOf z).toNat)
        case atStart => exact ⟨0, rfl, by omega, Below.refl _ _⟩
        case round =>
          obtain ⟨z, rfl, hz, hbz⟩ := hrel
          obtain ⟨wp, rfl⟩ : ∃ wp : World, wp = wr := ⟨_, rfl⟩
          have hRz := hR8.below hbz
          by_cases hz3 : z < 3
          · have hz3' : (z : Int) < 3 := by omega
            have hlist := la_list hRz.la (z : Int) (by omega) (by show (z : Int) < 3; omega)
            rw [Int.toNat_natCast, getD_of (three_get Q' hz3)] at hlist
            go_wp2_with fail
            refine hlist.mono ?_
            rintro e w11 ⟨a11, c11, rfl, hown, hb11⟩
            have hR11 := hRz.below hb11
            have hcz := hR11.cell hz3
            have HOW : Hid (RowV w11 wp.heap.size (.slice a11 (Q' z).length c11) (Q' z)) := Lib.hid hown
            have hLs : (Q' z).length ≤ 21 := by
              have h1 := le_sum ((three Q').map List.length) z (Q' z).length (by rw [List.getElem?_map, three_get Q' hz3]; rfl)
              have := hR8.la.small
              omega
            clear hlist hown
            go_wp2_with fail
            go_loopw [19] (fun m w' => ∃ m' : Nat, m = .int .i64 m' ∧ m' ≤ (Q' z).length ∧ Below w11.heap.size w11 w') (fun m _ => (Q' z).length - (intOf m).toNat)
            case atStart => exact ⟨0, rfl, by omega, Below.refl _ _⟩
            case round =>
              obtain ⟨m, rfl, hm, hbm⟩ := hrel
              obtain ⟨wq, rfl⟩ : ∃ wq : World, wq = wr := ⟨_, rfl⟩
              clear hcz
              by_cases hml : m < (Q' z).length
              · obtain ⟨e, he⟩ : ∃ e, (Q' z)[m]? = some e := ⟨_, List.getElem?_eq_getElem hml⟩
                have hRq := hR11.below hbm
                have hcz := hRq.cell hz3
                obtain ⟨g1, p1, hv1, _, y0, y1, y2, y3⟩ := RowV.at_ (own_below HOW.out hbm) m e he
                obtain ⟨g2, p2, hv2, _, z0, z1, z2, z3⟩ := (hRq.row z hz3).at_ m e he
                have hv3 : (V' z).1 = some ⟨g2, 0, none⟩ ∧ (V' z).2 = p2 := by unfold vv at hv2; injection hv2 with h1 h2 h3; exact ⟨h1, h3⟩
                obtain ⟨rfl, rfl⟩ : a11 = some ⟨g1, 0, none⟩ ∧ c11 = p1 := by injection hv1 with h1 h2 h3; exact ⟨h1, h3⟩
                rw [hv3.1, hv3.2] at hcz
                have hml' : (m : Int) < ((Q' z).length : Int) := by omega
                clear hv1 hv2 hv3 he
                go_wp2_with fail
                go_quiet (fail)
                go_wp2_with fail
                go_roundw
                case rel => exact ⟨m + 1, by go_num, by omega, hbm.trans ((Below.drewN_of wq nq).mono hbm.size)⟩
                case measure => simp [intOf]; omega
              · obtain rfl : m = (Q' z).length := by omega
                go_wp2_with fail
                go_roundw
                case rel => exact ⟨z + 1, by go_num, by omega, hbz.trans ((hb11.trans (hbm.mono hb11.size)).mono hbz.size)⟩
                case measure => simp [intOf]; omega
          · have hz3' : ¬ (z : Int) < 3 := by omega
            go_wp2_with fail
            refine (la_free hRz.la).mono ?_
            rintro e w12 ⟨rfl, rfl⟩
            rw [HT'.out]
            go_wp2_with fail
            go_roundw
            case rel => exact ⟨k + 1, by go_num, by omega, Q', V', by rw [HT'.out], hRz⟩
            case measure => simp [intOf]; omega
    · go_wp2_with fail
      all_goals
        refine (known_any _).mono ?_
        rintro e w5 ⟨rfl, hb1⟩
        go_wp2_with fail
        go_ret
        exact ⟨rfl, hR.bel.trans (hb1.mono hR.bel.size)⟩
end Go.Proofs.Ytbpmoomklknkkaa
