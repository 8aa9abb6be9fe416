/- The walk of cornhilllaw9.BookSmall. -/
import Derived.Test.YtmhljdkhekjfmaaL92
import Derived.Test.YtmhljdkhekjfmaaL93
import Derived.Test.YtmhljdkhekjfmaaMG
namespace Go.Proofs.Ytmhljdkhekjfmaa
open Go.RowKit

theorem PR.set_ {W w : World} {pb pw : Nat} {L : List Od} (h : PR W w pb pw L) {g i : Nat} {t : TypeId} (hg : Tyd w g t) (hn : nbT t = true) (t1 : t ≠ 50) (t2 : t ≠ 89) (hW : W.heap.size ≤ g) (u : Value) : PR W (w.setCell ⟨g, i, none⟩ u) pb pw L := by
  obtain ⟨h1, ⟨a, c, h2, h3⟩, h4, h5⟩ := h
  have hk : Keeps (fun k => k = g) w (w.setCell ⟨g, i, none⟩ u) := (Keeps.refl (fun k => k = g) w).setCell (p := ⟨g, i, none⟩) (fun _ => rfl) u
  exact ⟨h1.set_ hg hn hW u, ⟨a, c, h2.keeps hk (fun e => h2.tyd.ne hg t1.symm e), own_keep h3 hk fun k hk e => (own_tyd h3 k hk).ne hg t2.symm e⟩, h4, h5.setCell (p := ⟨g, i, none⟩) hW u⟩
set_option maxRecDepth 100000 in
set_option maxHeartbeats 16000000 in
theorem small9 (hAR : AddRef) (q : Option Addr) (c : Nat) (l : List Ak) (W : World) (hR : AK.Rd W q l) (hok : ∀ x ∈ l, x.ok) :
    Calls Try.prog 8 #[.slice q l.length c] W fun e w' => e = .returned (.bool true) ∧ Below W.heap.size W w' := by
  have HR := Lib.hid hR
  have HAR := Lib.hid hAR
  have HOK := Lib.hid hok
  clear hR hAR hok
  go_enter Try.func8, Try.ntmps8
  go_wp2_with fail
  refine (ob_new W W (Below.refl _ _)).mono ?_
  rintro e w1 ⟨pb, rfl, h, _⟩
  have P1 := Lib.hid (pr_new h)
  clear h
  go_upto_region 3 with (fail)
  obtain ⟨pw, hpw⟩ : ∃ pw, w1.heap.size = pw := ⟨_, rfl⟩
  rw [hpw] at P1 ⊢
  clear hpw
  generalize w1.alloc (.cells #[.slice none 0 0] 50) = w2 at *
  go_wp2_with fail
  go_loopw [5] (fun i w' => ∃ k : Nat, i = .int .i64 k ∧ k ≤ 60 ∧ ∃ L, PR W w' pb pw L) (fun i _ => 60 - (intOf i).toNat)
  case atStart => exact ⟨0, rfl, by omega, _, P1.out⟩
  case round =>
    clear P1
    obtain ⟨k, rfl, hk, L, hP⟩ := hrel
    obtain ⟨wo, rfl⟩ : ∃ wo : World, wo = wr := ⟨_, rfl⟩
    have P0 := Lib.hid hP
    clear hP
    by_cases hlt : k < l.length ∧ k < 60
    · obtain ⟨hkn, hk60⟩ := hlt
      obtain ⟨x, hx⟩ : ∃ x, l[k]? = some x := ⟨_, List.getElem?_eq_getElem hkn⟩
      have XOK := Lib.hid (HOK.out x (List.mem_of_getElem? hx))
      obtain ⟨b, off, rfl, hbl, ha⟩ := HR.out.below P0.out.ob.bel k x hx
      have hkl : (k : Int) < (l.length : Int) := by omega
      obtain ⟨x0, x1, x2, x3, x4⟩ := x
      have a0 : wo.cell? ⟨b, off + k * 5, none⟩ = some (.int .i64 x0) := ha 0 _ rfl
      have a1 : wo.cell? ⟨b, off + k * 5 + 1, none⟩ = some (.int .i64 x1) := ha 1 _ rfl
      have a2 : wo.cell? ⟨b, off + k * 5 + 2, none⟩ = some (.int .i64 x2) := ha 2 _ rfl
      have a3 : wo.cell? ⟨b, off + k * 5 + 3, none⟩ = some (.int .i64 x3) := ha 3 _ rfl
      have a4 : wo.cell? ⟨b, off + k * 5 + 4, none⟩ = some (.int .i64 x4) := ha 4 _ rfl
      clear ha hbl hx
      go_upto_region 9 with (fail)
      clear a0 a1 a2 a3 a4
      have hxb : Blk (wo.alloc (.cells #[.int .i64 x0, .int .i64 x1, .int .i64 x2, .int .i64 x3, .int .i64 x4] 28)) wo.heap.size 28 #[.int .i64 x0, .int .i64 x1, .int .i64 x2, .int .i64 x3, .int .i64 x4] := Blk.new _ _ _
      have PA := Lib.hid (P0.out.below (Below.allocN wo (.cells #[.int .i64 x0, .int .i64 x1, .int .i64 x2, .int .i64 x3, .int .i64 x4] 28)))
      have HW : Hid (W.heap.size ≤ wo.heap.size) := Lib.hid P0.out.ob.bel.size
      clear P0
      obtain ⟨gx, hgx⟩ : ∃ gx, wo.heap.size = gx := ⟨_, rfl⟩
      rw [hgx] at hxb HW ⊢
      clear hgx
      generalize wo.alloc (.cells #[.int .i64 x0, .int .i64 x1, .int .i64 x2, .int .i64 x3, .int .i64 x4] 28) = v0 at *
      have XA := Lib.hid hxb
      clear hxb
      have hw := within_any x1 0 1 v0 XOK.out.2.1.1 XOK.out.2.1.2 (by omega) (by omega) (by omega)
      have hbd := withI_bd x1 0 1 (by omega)
      obtain ⟨y1, hy⟩ : ∃ y, 1 + withI x1 0 1 = y := ⟨_, rfl⟩
      have hb1 : 1 ≤ y1 := by omega
      have hb2 : y1 ≤ 100 := by omega
      have HY := Lib.hid hy
      clear hy hbd
      have c1 : v0.cell? ⟨gx, 1, none⟩ = some (.int .i64 x1) := XA.out.cell 1
      have fz : ∀ o, v0.frozen? ⟨gx, o, none⟩ = false := fun o => XA.out.frozen o
      go_wp2_with fail
      refine hw.mono ?_
      rintro e w3 ⟨rfl, rfl⟩
      clear hw
      have hy := HY.out
      go_upto_region 10 with (fail)
      clear c1 fz hy HY hb1 hb2
      have hxn : Blk (v0.setCell ⟨gx, 1, none⟩ (.int .i64 y1)) gx 28 #[.int .i64 x0, .int .i64 y1, .int .i64 x2, .int .i64 x3, .int .i64 x4] := XA.out.set_ 1 (.int .i64 y1)
      have hpn := PA.out.set_ (i := 1) XA.out.tyd (by decide) (by decide) (by decide) HW.out (.int .i64 y1)
      generalize v0.setCell ⟨gx, 1, none⟩ (.int .i64 y1) = v1 at *
      replace XA := Lib.hid hxn
      replace PA := Lib.hid hpn
      clear hxn hpn
      have hw := within_any x2 0 15 v1 XOK.out.2.2.1.1 XOK.out.2.2.1.2 (by omega) (by omega) (by omega)
      have hbd := withI_bd x2 0 15 (by omega)
      obtain ⟨y2, hy⟩ : ∃ y, withI x2 0 15 = y := ⟨_, rfl⟩
      rw [hy] at hw
      clear hy hbd
      have c2 : v1.cell? ⟨gx, 2, none⟩ = some (.int .i64 x2) := XA.out.cell 2
      have fz : ∀ o, v1.frozen? ⟨gx, o, none⟩ = false := fun o => XA.out.frozen o
      go_wp2_with fail
      refine hw.mono ?_
      rintro e w3 ⟨rfl, rfl⟩
      clear hw
      go_upto_region 11 with (fail)
      clear c2 fz
      have hxn : Blk (v1.setCell ⟨gx, 2, none⟩ (.int .i64 y2)) gx 28 #[.int .i64 x0, .int .i64 y1, .int .i64 y2, .int .i64 x3, .int .i64 x4] := XA.out.set_ 2 (.int .i64 y2)
      have hpn := PA.out.set_ (i := 2) XA.out.tyd (by decide) (by decide) (by decide) HW.out (.int .i64 y2)
      generalize v1.setCell ⟨gx, 2, none⟩ (.int .i64 y2) = v2 at *
      replace XA := Lib.hid hxn
      replace PA := Lib.hid hpn
      clear hxn hpn
      have hw := within_any x3 0 4 v2 XOK.out.2.2.2.1.1 XOK.out.2.2.2.1.2 (by omega) (by omega) (by omega)
      have hbd := withI_bd x3 0 4 (by omega)
      obtain ⟨y3, hy⟩ : ∃ y, withI x3 0 4 = y := ⟨_, rfl⟩
      rw [hy] at hw
      clear hy hbd
      have c3 : v2.cell? ⟨gx, 3, none⟩ = some (.int .i64 x3) := XA.out.cell 3
      have fz : ∀ o, v2.frozen? ⟨gx, o, none⟩ = false := fun o => XA.out.frozen o
      go_wp2_with fail
      refine hw.mono ?_
      rintro e w3 ⟨rfl, rfl⟩
      clear hw
      go_upto_region 12 with (fail)
      clear c3 fz
      have hxn : Blk (v2.setCell ⟨gx, 3, none⟩ (.int .i64 y3)) gx 28 #[.int .i64 x0, .int .i64 y1, .int .i64 y2, .int .i64 y3, .int .i64 x4] := XA.out.set_ 3 (.int .i64 y3)
      have hpn := PA.out.set_ (i := 3) XA.out.tyd (by decide) (by decide) (by decide) HW.out (.int .i64 y3)
      generalize v2.setCell ⟨gx, 3, none⟩ (.int .i64 y3) = v3 at *
      replace XA := Lib.hid hxn
      replace PA := Lib.hid hpn
      clear hxn hpn
      have hw := within_any x4 0 6 v3 XOK.out.2.2.2.2.1 XOK.out.2.2.2.2.2 (by omega) (by omega) (by omega)
      have hbd := withI_bd x4 0 6 (by omega)
      obtain ⟨y4, hy⟩ : ∃ y, 1 + withI x4 0 6 = y := ⟨_, rfl⟩
      have hb1 : 1 ≤ y4 := by omega
      have hb2 : y4 ≤ 100 := by omega
      have HY := Lib.hid hy
      clear hy hbd
      have c4 : v3.cell? ⟨gx, 4, none⟩ = some (.int .i64 x4) := XA.out.cell 4
      have fz : ∀ o, v3.frozen? ⟨gx, o, none⟩ = false := fun o => XA.out.frozen o
      go_wp2_with fail
      refine hw.mono ?_
      rintro e w3 ⟨rfl, rfl⟩
      clear hw
      have hy := HY.out
      go_upto_region 13 with (fail)
      clear c4 fz hy HY hb1 hb2
      have hxn : Blk (v3.setCell ⟨gx, 4, none⟩ (.int .i64 y4)) gx 28 #[.int .i64 x0, .int .i64 y1, .int .i64 y2, .int .i64 y3, .int .i64 y4] := XA.out.set_ 4 (.int .i64 y4)
      have hpn := PA.out.set_ (i := 4) XA.out.tyd (by decide) (by decide) (by decide) HW.out (.int .i64 y4)
      generalize v3.setCell ⟨gx, 4, none⟩ (.int .i64 y4) = v4 at *
      replace XA := Lib.hid hxn
      replace PA := Lib.hid hpn
      clear hxn hpn
      have c0 : v4.cell? ⟨gx, 0, none⟩ = some (.int .i64 x0) := XA.out.cell 0
      have c1 : v4.cell? ⟨gx, 1, none⟩ = some (.int .i64 y1) := XA.out.cell 1
      have c2 : v4.cell? ⟨gx, 2, none⟩ = some (.int .i64 y2) := XA.out.cell 2
      have c3 : v4.cell? ⟨gx, 3, none⟩ = some (.int .i64 y3) := XA.out.cell 3
      have c4 : v4.cell? ⟨gx, 4, none⟩ = some (.int .i64 y4) := XA.out.cell 4
      go_wp2_with fail
      refine (do_any HAR.out PA.out x0 y1 y2 y3 y4).mono ?_
      rintro e w3 ⟨rfl, L', hP⟩
      have P3 := Lib.hid hP
      clear hP c0 c1 c2 c3 c4
      go_wp2_with fail
      refine (alike_any P3.out).mono ?_
      rintro e w4 ⟨rfl, hb⟩
      have P4 := Lib.hid (P3.out.below hb)
      clear hb
      go_wp2_with fail
      go_roundw
      case rel => exact ⟨k + 1, by go_num, by omega, L', P4.out⟩
      case measure => simp [intOf]; omega
    · go_wp2_with fail
      all_goals
        refine (known_any9 _).mono ?_
        rintro e w7 ⟨rfl, hb⟩
        have HB7 := Lib.hid (P0.out.ob.bel.trans (hb.mono P0.out.ob.bel.size))
        clear hb
        go_wp2_with fail
        go_ret
        exact ⟨by trivial, HB7.out⟩
end Go.Proofs.Ytmhljdkhekjfmaa
