/- The walk of cornhilllaw9.BookRefused. -/
import Derived.Test.YtmhljdkhekjfmaaMG
namespace Go.Proofs.Ytmhljdkhekjfmaa
open Go.RowKit

theorem add_refused {L : List Od} {id side price qty : Int} (h : (refAdd L id side price qty).2 ≠ 0) : (refAdd L id side price qty).1 = L := by
  unfold refAdd at *
  split
  · rfl
  · rename_i h1
    rw [if_neg h1] at h
    split
    · rfl
    · rename_i h2
      rw [if_neg h2] at h
      split
      · rfl
      · rename_i h3
        rw [if_neg h3] at h
        split
        · rfl
        · rename_i h4
          rw [if_neg h4] at h
          exact absurd rfl h
theorem fill_refused {L : List Od} {id qty : Int} (h : (refFill L id qty).2 ≠ 0) : (refFill L id qty).1 = L := by
  unfold refFill at *
  split
  · rfl
  · rename_i o ho
    rw [ho] at h
    dsimp only at h
    split
    · rfl
    · rename_i h1
      rw [if_neg h1] at h
      split at h
      · exact absurd rfl h
      · exact absurd rfl h
set_option maxRecDepth 100000 in
set_option maxHeartbeats 16000000 in
theorem refused9 (q : Option Addr) (c : Nat) (l : List Ak) (W : World) (hR : AK.Rd W q l) (hok : ∀ x ∈ l, x.ok) :
    Calls Try.prog 4 #[.slice q l.length c] W fun e w' => e = .returned (.bool true) ∧ Below W.heap.size W w' := by
  have HR := Lib.hid hR
  have HOK := Lib.hid hok
  clear hR hok
  go_enter Try.func4, Try.ntmps4
  go_wp2_with fail
  refine (ob_new W W (Below.refl _ _)).mono ?_
  rintro e w1 ⟨pb, rfl, h, _⟩
  have O1 := Lib.hid h
  clear h
  go_wp2_with fail
  go_loopw [4] (fun i w' => ∃ k : Nat, i = .int .i64 k ∧ k ≤ 50 ∧ ∃ L, OB W w' pb L) (fun i _ => 50 - (intOf i).toNat)
  case atStart => exact ⟨0, rfl, by omega, _, O1.out⟩
  case round =>
    clear O1
    obtain ⟨k, rfl, hk, L, hO⟩ := hrel
    obtain ⟨wo, rfl⟩ : ∃ wo : World, wo = wr := ⟨_, rfl⟩
    have O0 := Lib.hid hO
    clear hO
    by_cases hlt : k < l.length ∧ k < 50
    · obtain ⟨hkn, hk50⟩ := hlt
      obtain ⟨x, hx⟩ : ∃ x, l[k]? = some x := ⟨_, List.getElem?_eq_getElem hkn⟩
      obtain ⟨b, off, rfl, hbl, ha⟩ := HR.out.below O0.out.bel k x hx
      have hkl : (k : Int) < (l.length : Int) := by omega
      have XOK := Lib.hid (HOK.out x (List.mem_of_getElem? hx))
      have a0 : wo.cell? ⟨b, off + k * 5, none⟩ = some (.int .i64 x.kind) := ha 0 _ rfl
      have a1 : wo.cell? ⟨b, off + k * 5 + 1, none⟩ = some (.int .i64 x.side) := ha 1 _ rfl
      have a2 : wo.cell? ⟨b, off + k * 5 + 2, none⟩ = some (.int .i64 x.id) := ha 2 _ rfl
      have a3 : wo.cell? ⟨b, off + k * 5 + 3, none⟩ = some (.int .i64 x.price) := ha 3 _ rfl
      have a4 : wo.cell? ⟨b, off + k * 5 + 4, none⟩ = some (.int .i64 x.qty) := ha 4 _ rfl
      clear ha hbl hx
      go_upto_region 8 with (fail)
      clear a0 a1 a2 a3 a4
      have hxb : Blk (wo.alloc (.cells #[.int .i64 x.kind, .int .i64 x.side, .int .i64 x.id, .int .i64 x.price, .int .i64 x.qty] 28)) wo.heap.size 28 #[.int .i64 x.kind, .int .i64 x.side, .int .i64 x.id, .int .i64 x.price, .int .i64 x.qty] := Blk.new _ _ _
      have OA := Lib.hid (O0.out.below (Below.allocN wo (.cells #[.int .i64 x.kind, .int .i64 x.side, .int .i64 x.id, .int .i64 x.price, .int .i64 x.qty] 28)))
      have HW : Hid (W.heap.size ≤ wo.heap.size) := Lib.hid O0.out.bel.size
      clear O0
      obtain ⟨gx, hgx⟩ : ∃ gx, wo.heap.size = gx := ⟨_, rfl⟩
      rw [hgx] at hxb HW ⊢
      clear hgx
      generalize wo.alloc (.cells #[.int .i64 x.kind, .int .i64 x.side, .int .i64 x.id, .int .i64 x.price, .int .i64 x.qty] 28) = w2 at *
      have XB := Lib.hid hxb
      have c2 : w2.cell? ⟨gx, 2, none⟩ = some (.int .i64 x.id) := hxb.cell 2
      have f2 : ∀ o, w2.frozen? ⟨gx, o, none⟩ = false := fun o => XB.out.frozen o
      have x2 := XOK.out.2.2.1
      unfold i64ok at x2
      clear hxb
      go_upto_region 9 with (fail)
      clear c2 f2
      obtain ⟨y, hy⟩ : ∃ y, x.id.tmod 20 = y := ⟨_, rfl⟩
      rw [hy]
      have hyb : -9223372036854775808 ≤ y ∧ y ≤ 9223372036854775807 := by
        have h1 := Int.tmod_lt_of_pos x.id (show (0 : Int) < 20 by omega)
        have h2 := Int.lt_tmod_of_pos x.id (show (0 : Int) < 20 by omega)
        omega
      have HY := Lib.hid hyb
      have OC := Lib.hid (OA.out.set_ (i := 2) XB.out.tyd (by decide) HW.out (.int .i64 y))
      have XC : Hid (Blk (w2.setCell ⟨gx, 2, none⟩ (.int .i64 y)) gx 28 #[.int .i64 x.kind, .int .i64 x.side, .int .i64 y, .int .i64 x.price, .int .i64 x.qty]) := Lib.hid (XB.out.set_ 2 (.int .i64 y))
      clear hy hyb x2 OA XB
      generalize w2.setCell ⟨gx, 2, none⟩ (.int .i64 y) = w3 at *
      go_wp2_with fail
      refine (ob_orders OC.out).mono ?_
      rintro e w4 ⟨v, rfl, hr, hb⟩
      have OD4 := Lib.hid (OC.out.below hb)
      have XD := Lib.hid (XC.out.below hb)
      have RD := Lib.hid hr
      clear hr hb OC XC
      go_upto_region 11 with (fail)
      have k0 : w4.cell? ⟨gx, 0, none⟩ = some (.int .i64 x.kind) := XD.out.cell 0
      go_upto_if 34 with (fail)
      clear k0
      go_cut [7, 34] (fun u _ wx => ∃ r L', u = .int .i64 r ∧ (r ≠ 0 → L' = L) ∧ OB W wx pb L' ∧ OD.Row wx w3.heap.size v L)
      case first =>
        have k1 : w4.cell? ⟨gx, 1, none⟩ = some (.int .i64 x.side) := XD.out.cell 1
        have k2 : w4.cell? ⟨gx, 2, none⟩ = some (.int .i64 y) := XD.out.cell 2
        have k3 : w4.cell? ⟨gx, 3, none⟩ = some (.int .i64 x.price) := XD.out.cell 3
        have k4 : w4.cell? ⟨gx, 4, none⟩ = some (.int .i64 x.qty) := XD.out.cell 4
        by_cases hkd : x.kind = 1
        · go_wp2_with fail
          refine (ob_add OD4.out y x.side x.price x.qty).mono ?_
          rintro e w5 ⟨rfl, hO, hkp⟩
          have OE := Lib.hid hO
          have RE := Lib.hid (RD.out.fb hkp (by decide))
          clear hO hkp k1 k2 k3 k4
          go_wp2_with fail
          go_meet
          exact ⟨_, _, rfl, add_refused, OE.out, RE.out⟩
        · go_wp2_with fail
          refine (ob_fill OD4.out y x.qty).mono ?_
          rintro e w5 ⟨rfl, hO, hkp⟩
          have OE := Lib.hid hO
          have RE := Lib.hid (RD.out.fb hkp (by decide))
          clear hO hkp k1 k2 k3 k4
          go_wp2_with fail
          go_meet
          exact ⟨_, _, rfl, fill_refused, OE.out, RE.out⟩
      case rest =>
      obtain ⟨r, L', rfl, hr, hO, hrow⟩ := hcut
      obtain ⟨wx, rfl⟩ : ∃ wo : World, wo = wc := ⟨_, rfl⟩
      have O5 := Lib.hid hO
      have R5 := Lib.hid hrow
      have HRR := Lib.hid hr
      clear hO hrow hr OD4 XD RD
      go_wp2_with fail
      refine (ob_orders O5.out).mono ?_
      rintro e w6 ⟨v', rfl, hr', hb⟩
      have O6 := Lib.hid (O5.out.below hb)
      have R6 := Lib.hid (R5.out.below hb)
      have S6 := Lib.hid hr'
      clear hr' hb O5 R5
      obtain ⟨sa, sc, rfl, _, hrs⟩ := S6.out.rd
      obtain ⟨ra, rc, rfl, _, hrr⟩ := R6.out.rd
      have HS := Lib.hid hrs
      have HRW := Lib.hid hrr
      clear hrs hrr R6 S6
      by_cases hr0 : r = 0
      · have hcn := ob_count O6.out
        go_wp2_with fail
        refine hcn.mono ?_
        rintro e w7 ⟨rfl, rfl⟩
        clear hcn
        go_wp2_with fail
        go_roundw
        case rel => exact ⟨k + 1, by go_num, by omega, _, O6.out⟩
        case measure => simp [intOf]; omega
      · obtain rfl := HRR.out hr0
        have hsm := same9 L' ra rc sa sc w6 HRW.out HS.out (by have := O6.out.len; omega)
        have hcn := fun w' (h : OB W w' pb L') => ob_count h
        go_wp2_with fail
        refine hsm.mono ?_
        rintro e w7 ⟨rfl, hb⟩
        have O7 := Lib.hid (O6.out.below hb)
        clear hb hsm
        go_wp2_with fail
        refine (hcn _ O7.out).mono ?_
        rintro e w8 ⟨rfl, rfl⟩
        clear hcn
        go_wp2_with fail
        go_roundw
        case rel => exact ⟨k + 1, by go_num, by omega, _, O7.out⟩
        case measure => simp [intOf]; omega
    · go_wp2_with fail
      all_goals
        refine (known_any9 _).mono ?_
        rintro e w7 ⟨rfl, hb⟩
        have HB7 := Lib.hid (O0.out.bel.trans (hb.mono O0.out.bel.size))
        clear hb
        go_wp2_with fail
        go_ret
        exact ⟨by trivial, HB7.out⟩
end Go.Proofs.Ytmhljdkhekjfmaa
