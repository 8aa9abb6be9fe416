/- The walk of cornhilllaw9.BookPlays. -/
import Derived.Test.YtmhljdkhekjfmaaL92
import Derived.Test.YtmhljdkhekjfmaaL93
import Derived.Test.YtmhljdkhekjfmaaMG
namespace Go.Proofs.Ytmhljdkhekjfmaa
open Go.RowKit

set_option maxRecDepth 100000 in
set_option maxHeartbeats 16000000 in
theorem plays9 (hAR : AddRef) (q : Option Addr) (c : Nat) (l : List Ak) (W : World) (hR : AK.Rd W q l) :
    Calls Try.prog 7 #[.slice q l.length c] W fun e w' => e = .returned (.bool true) ∧ Below W.heap.size W w' := by
  have HR := Lib.hid hR
  have HAR := Lib.hid hAR
  clear hR hAR
  go_enter Try.func7, Try.ntmps7
  go_wp2_with fail
  refine (ob_new W W (Below.refl _ _)).mono ?_
  rintro e w1 ⟨pb, rfl, h, _⟩
  have P1 := Lib.hid (pr_new h)
  clear h
  go_upto_region 3 with (fail)
  obtain ⟨pw, hpw⟩ : ∃ pw, w1.heap.size = pw := ⟨_, rfl⟩
  rw [hpw] at P1 ⊢
  clear hpw
  generalize w1.alloc (.cells #[.slice none 0 0] 50) = w2 at *
  go_wp2_with fail
  go_loopw [5] (fun i w' => ∃ k : Nat, i = .int .i64 k ∧ k ≤ 60 ∧ ∃ L, PR W w' pb pw L) (fun i _ => 60 - (intOf i).toNat)
  case atStart => exact ⟨0, rfl, by omega, _, P1.out⟩
  case round =>
    clear P1
    obtain ⟨k, rfl, hk, L, hP⟩ := hrel
    obtain ⟨wo, rfl⟩ : ∃ wo : World, wo = wr := ⟨_, rfl⟩
    have P0 := Lib.hid hP
    clear hP
    by_cases hlt : k < l.length ∧ k < 60
    · obtain ⟨hkn, hk60⟩ := hlt
      obtain ⟨x, hx⟩ : ∃ x, l[k]? = some x := ⟨_, List.getElem?_eq_getElem hkn⟩
      obtain ⟨b, off, rfl, hbl, ha⟩ := HR.out.below P0.out.ob.bel k x hx
      have hkl : (k : Int) < (l.length : Int) := by omega
      obtain ⟨x0, x1, x2, x3, x4⟩ := x
      have a0 : wo.cell? ⟨b, off + k * 5, none⟩ = some (.int .i64 x0) := ha 0 _ rfl
      have a1 : wo.cell? ⟨b, off + k * 5 + 1, none⟩ = some (.int .i64 x1) := ha 1 _ rfl
      have a2 : wo.cell? ⟨b, off + k * 5 + 2, none⟩ = some (.int .i64 x2) := ha 2 _ rfl
      have a3 : wo.cell? ⟨b, off + k * 5 + 3, none⟩ = some (.int .i64 x3) := ha 3 _ rfl
      have a4 : wo.cell? ⟨b, off + k * 5 + 4, none⟩ = some (.int .i64 x4) := ha 4 _ rfl
      clear ha hbl hx
      go_wp2_with fail
      refine (do_any HAR.out P0.out x0 x1 x2 x3 x4).mono ?_
      rintro e w3 ⟨rfl, L', hP⟩
      have P3 := Lib.hid hP
      clear hP a0 a1 a2 a3 a4
      go_wp2_with fail
      refine (alike_any P3.out).mono ?_
      rintro e w4 ⟨rfl, hb⟩
      have P4 := Lib.hid (P3.out.below hb)
      clear hb
      go_wp2_with fail
      go_roundw
      case rel => exact ⟨k + 1, by go_num, by omega, L', P4.out⟩
      case measure => simp [intOf]; omega
    · go_wp2_with fail
      all_goals
        refine (known_any9 _).mono ?_
        rintro e w7 ⟨rfl, hb⟩
        have HB7 := Lib.hid (P0.out.ob.bel.trans (hb.mono P0.out.ob.bel.size))
        clear hb
        go_wp2_with fail
        go_ret
        exact ⟨by trivial, HB7.out⟩
end Go.Proofs.Ytmhljdkhekjfmaa
