/- The walk of cornhilllaw9.do, with what it keeps. -/
import Derived.Test.YtmhljdkhekjfmaaR98
import Derived.Test.YtmhljdkhekjfmaaL92
import Derived.Test.YtmhljdkhekjfmaaMG
namespace Go.Proofs.Ytmhljdkhekjfmaa
open Go.RowKit

set_option maxRecDepth 100000 in
set_option maxHeartbeats 16000000 in
theorem do_list2 (hAR : AddRef) {W w : World} {pb pw : Nat} {L : List Od} (h : PR W w pb pw L) (k s id p q : Int) :
    Calls Try.prog 21 #[.pointer (some ⟨pb, 0, none⟩), .pointer (some ⟨pw, 0, none⟩), .agg #[.int .i64 k, .int .i64 s, .int .i64 id, .int .i64 p, .int .i64 q]] w fun e w' => e = .returned (.bool true) ∧ PR W w' pb pw (doL L k s id p q) ∧ ∀ g cs, Blk w g 28 cs → Blk w' g 28 cs := by
  have HAR := Lib.hid hAR
  have hxb : Blk (w.alloc (.cells #[.int .i64 k, .int .i64 s, .int .i64 id, .int .i64 p, .int .i64 q] 28)) w.heap.size 28 #[.int .i64 k, .int .i64 s, .int .i64 id, .int .i64 p, .int .i64 q] := Blk.new _ _ _
  have P1 := Lib.hid (h.below (Below.allocN w (.cells #[.int .i64 k, .int .i64 s, .int .i64 id, .int .i64 p, .int .i64 q] 28)))
  have A1 : Hid (∀ g cs, Blk w g 28 cs → Blk (w.alloc (.cells #[.int .i64 k, .int .i64 s, .int .i64 id, .int .i64 p, .int .i64 q] 28)) g 28 cs) := Lib.hid fun g cs h => h.below (Below.allocN w (.cells #[.int .i64 k, .int .i64 s, .int .i64 id, .int .i64 p, .int .i64 q] 28))
  clear h hAR
  go_enter Try.func21, Try.ntmps21
  go_upto_region 1 with (fail)
  obtain ⟨gx, hgx⟩ : ∃ gx, w.heap.size = gx := ⟨_, rfl⟩
  rw [hgx] at hxb ⊢
  clear hgx
  generalize w.alloc (.cells #[.int .i64 k, .int .i64 s, .int .i64 id, .int .i64 p, .int .i64 q] 28) = w1 at *
  have XB := Lib.hid hxb
  have x0 : w1.cell? ⟨gx, 0, none⟩ = some (.int .i64 k) := hxb.cell 0
  have x1 : w1.cell? ⟨gx, 1, none⟩ = some (.int .i64 s) := hxb.cell 1
  have x2 : w1.cell? ⟨gx, 2, none⟩ = some (.int .i64 id) := hxb.cell 2
  have x3 : w1.cell? ⟨gx, 3, none⟩ = some (.int .i64 p) := hxb.cell 3
  have x4 : w1.cell? ⟨gx, 4, none⟩ = some (.int .i64 q) := hxb.cell 4
  clear hxb
  by_cases hk : k = 1
  · have HKK := Lib.hid hk
    go_upto_region 2 with (fail)
    clear x0 hk
    refine wp_region_E (S := fun w' => w'.cell? ⟨gx, 1, none⟩ = some (.int .i64 s) ∧ w'.cell? ⟨gx, 2, none⟩ = some (.int .i64 id) ∧ w'.cell? ⟨gx, 3, none⟩ = some (.int .i64 p) ∧ w'.cell? ⟨gx, 4, none⟩ = some (.int .i64 q)) (by kernel_rfl) ⟨x1, x2, x3, x4⟩ (fun hHeld => ?_)
    clear x1 x2 x3 x4
    refine wpE_take (i := 0) (oi := ?oi1) (v := ?v1) ?hi1 (by kernel_rfl) (by kernel_rfl) (by kernel_rfl) (by kernel_rfl) ?hQ1 ?hy1 (by assumption) ?rest1
    case hi1 => (simp only [List.getElem?_toArray]; rfl)
    case hQ1 => exact fun _ _ _ h => h
    case hy1 => exact Or.inl ⟨by rfl, by (intro w hSw; (try dsimp only at hSw); go_simp; try with_reducible rfl)⟩
    try simp only [Act.put, List.setIfInBounds_toArray, List.set_cons_zero, List.set_cons_succ]
    refine wpE_take (i := 1) (oi := ?oi2) (v := ?v2) ?hi2 (by kernel_rfl) (by kernel_rfl) (by kernel_rfl) (by kernel_rfl) ?hQ2 ?hy2 (by assumption) ?rest2
    case hi2 => (simp only [List.getElem?_toArray]; rfl)
    case hQ2 => exact fun _ _ _ h => h
    case hy2 => exact Or.inl ⟨by rfl, by (intro w hSw; (try dsimp only at hSw); go_simp; try with_reducible rfl)⟩
    try simp only [Act.put, List.setIfInBounds_toArray, List.set_cons_zero, List.set_cons_succ]
    refine wpE_take (i := 2) (oi := ?oi3) (v := ?v3) ?hi3 (by kernel_rfl) (by kernel_rfl) (by kernel_rfl) (by kernel_rfl) ?hQ3 ?hy3 (by assumption) ?rest3
    case hi3 => (simp only [List.getElem?_toArray]; rfl)
    case hQ3 => exact fun _ _ _ h => h
    case hy3 => exact Or.inl ⟨by rfl, by (intro w hSw; (try dsimp only at hSw); go_simp; try with_reducible rfl)⟩
    try simp only [Act.put, List.setIfInBounds_toArray, List.set_cons_zero, List.set_cons_succ]
    refine wpE_take (i := 3) (oi := ?oi4) (v := ?v4) ?hi4 (by kernel_rfl) (by kernel_rfl) (by kernel_rfl) (by kernel_rfl) ?hQ4 ?hy4 (by assumption) ?rest4
    case hi4 => (simp only [List.getElem?_toArray]; rfl)
    case hQ4 => exact fun _ _ _ h => h
    case hy4 => exact Or.inl ⟨by rfl, by (intro w hSw; (try dsimp only at hSw); go_simp; try with_reducible rfl)⟩
    try simp only [Act.put, List.setIfInBounds_toArray, List.set_cons_zero, List.set_cons_succ]
    refine wpE_take (i := 4) (oi := ?oi5) (v := ?v5) ?hi5 (by kernel_rfl) (by kernel_rfl) (by kernel_rfl) (by kernel_rfl) ?hQ5 ?hy5 (by assumption) ?rest5
    case hi5 => (simp only [List.getElem?_toArray]; rfl)
    case hQ5 => exact fun _ _ _ h => h
    case hy5 => exact Or.inl ⟨by rfl, by (intro w hSw; (try dsimp only at hSw); go_simp; try with_reducible rfl)⟩
    try simp only [Act.put, List.setIfInBounds_toArray, List.set_cons_zero, List.set_cons_succ]
    refine wpE_take (i := 5) (oi := ?oi6) (v := ?v6) ?hi6 (by kernel_rfl) (by kernel_rfl) (by kernel_rfl) (by kernel_rfl) ?hQ6 ?hy6 (by assumption) ?rest6
    case hi6 => (simp only [List.getElem?_toArray]; rfl)
    case hQ6 => exact fun _ _ _ h => h
    case hy6 => exact Or.inl ⟨by rfl, by (intro w hSw; (try dsimp only at hSw); go_simp; try with_reducible rfl)⟩
    try simp only [Act.put, List.setIfInBounds_toArray, List.set_cons_zero, List.set_cons_succ]
    refine wpE_take (i := 6) (oi := ?oi7) (v := ?v7) ?hi7 (by kernel_rfl) (by kernel_rfl) (by kernel_rfl) (by kernel_rfl) ?hQ7 ?hy7 (by assumption) ?rest7
    case hi7 => (simp only [List.getElem?_toArray]; rfl)
    case hQ7 => exact fun _ _ _ h => h
    case hy7 => exact Or.inl ⟨by rfl, by (intro w hSw; (try dsimp only at hSw); go_simp; try with_reducible rfl)⟩
    try simp only [Act.put, List.setIfInBounds_toArray, List.set_cons_zero, List.set_cons_succ]
    refine wpE_take (i := 7) (oi := ?oi8) (v := ?v8) ?hi8 (by kernel_rfl) (by kernel_rfl) (by kernel_rfl) (by kernel_rfl) ?hQ8 ?hy8 (by assumption) ?rest8
    case hi8 => (simp only [List.getElem?_toArray]; rfl)
    case hQ8 => exact fun _ _ _ h => h
    case hy8 => exact Or.inl ⟨by rfl, by (intro w hSw; (try dsimp only at hSw); go_simp; try with_reducible rfl)⟩
    try simp only [Act.put, List.setIfInBounds_toArray, List.set_cons_zero, List.set_cons_succ]
    refine wpE_take (i := 8) (oi := ?oi9) (v := ?v9) ?hi9 (by kernel_rfl) (by kernel_rfl) (by kernel_rfl) (by kernel_rfl) ?hQ9 ?hy9 (by assumption) ?rest9
    case hi9 => (simp only [List.getElem?_toArray]; rfl)
    case hQ9 => exact fun _ _ _ h => h
    case hy9 => exact Or.inl ⟨by rfl, by (intro w hSw; (try dsimp only at hSw); go_simp; try with_reducible rfl)⟩
    try simp only [Act.put, List.setIfInBounds_toArray, List.set_cons_zero, List.set_cons_succ]
    refine wpE_take (i := 10) (oi := ?oi10) (v := ?v10) ?hi10 (by kernel_rfl) (by kernel_rfl) (by kernel_rfl) (by kernel_rfl) ?hQ10 ?hy10 (by assumption) ?rest10
    case hi10 => (simp only [List.getElem?_toArray]; rfl)
    case hQ10 => exact fun _ _ _ h => h
    case hy10 => exact Or.inl ⟨by rfl, by (intro w hSw; (try dsimp only at hSw); go_simp; try with_reducible rfl)⟩
    try simp only [Act.put, List.setIfInBounds_toArray, List.set_cons_zero, List.set_cons_succ]
    refine wpE_take (i := 11) (oi := ?oi11) (v := ?v11) ?hi11 (by kernel_rfl) (by kernel_rfl) (by kernel_rfl) (by kernel_rfl) ?hQ11 ?hy11 (by assumption) ?rest11
    case hi11 => (simp only [List.getElem?_toArray]; rfl)
    case hQ11 => exact fun _ _ _ h => h
    case hy11 => exact Or.inl ⟨by rfl, by (intro w hSw; (try dsimp only at hSw); go_simp; try with_reducible rfl)⟩
    try simp only [Act.put, List.setIfInBounds_toArray, List.set_cons_zero, List.set_cons_succ]
    refine wpE_take (i := 12) (oi := ?oi12) (v := ?v12) ?hi12 (by kernel_rfl) (by kernel_rfl) (by kernel_rfl) (by kernel_rfl) ?hQ12 ?hy12 (by assumption) ?rest12
    case hi12 => (simp only [List.getElem?_toArray]; rfl)
    case hQ12 => exact fun _ _ _ h => h
    case hy12 => exact Or.inl ⟨by rfl, by (intro w hSw; (try dsimp only at hSw); go_simp; try with_reducible rfl)⟩
    try simp only [Act.put, List.setIfInBounds_toArray, List.set_cons_zero, List.set_cons_succ]
    refine wpE_take (i := 13) (oi := ?oi13) (v := ?v13) ?hi13 (by kernel_rfl) (by kernel_rfl) (by kernel_rfl) (by kernel_rfl) ?hQ13 ?hy13 (by assumption) ?rest13
    case hi13 => (simp only [List.getElem?_toArray]; rfl)
    case hQ13 => exact fun _ _ _ h => h
    case hy13 => exact Or.inl ⟨by rfl, by (intro w hSw; (try dsimp only at hSw); go_simp; try with_reducible rfl)⟩
    try simp only [Act.put, List.setIfInBounds_toArray, List.set_cons_zero, List.set_cons_succ]
    refine wpE_take (i := 14) (oi := ?oi14) (v := ?v14) ?hi14 (by kernel_rfl) (by kernel_rfl) (by kernel_rfl) (by kernel_rfl) ?hQ14 ?hy14 (by assumption) ?rest14
    case hi14 => (simp only [List.getElem?_toArray]; rfl)
    case hQ14 => exact fun _ _ _ h => h
    case hy14 => exact Or.inl ⟨by rfl, by (intro w hSw; (try dsimp only at hSw); go_simp; try with_reducible rfl)⟩
    try simp only [Act.put, List.setIfInBounds_toArray, List.set_cons_zero, List.set_cons_succ]
    refine wpE_take (i := 15) (oi := ?oi15) (v := ?v15) ?hi15 (by kernel_rfl) (by kernel_rfl) (by kernel_rfl) (by kernel_rfl) ?hQ15 ?hy15 (by assumption) ?rest15
    case hi15 => (simp only [List.getElem?_toArray]; rfl)
    case hQ15 => exact fun _ _ _ h => h
    case hy15 => exact Or.inl ⟨by rfl, by (intro w hSw; (try dsimp only at hSw); go_simp; try with_reducible rfl)⟩
    try simp only [Act.put, List.setIfInBounds_toArray, List.set_cons_zero, List.set_cons_succ]
    refine wpE_take (i := 16) (oi := ?oi16) (v := ?v16) ?hi16 (by kernel_rfl) (by kernel_rfl) (by kernel_rfl) (by kernel_rfl) ?hQ16 ?hy16 (by assumption) ?rest16
    case hi16 => (simp only [List.getElem?_toArray]; rfl)
    case hQ16 => exact fun _ _ _ h => h
    case hy16 => exact Or.inl ⟨by rfl, by (intro w hSw; (try dsimp only at hSw); go_simp; try with_reducible rfl)⟩
    try simp only [Act.put, List.setIfInBounds_toArray, List.set_cons_zero, List.set_cons_succ]
    refine wpE_take (i := 17) (oi := ?oi17) (v := ?v17) ?hi17 (by kernel_rfl) (by kernel_rfl) (by kernel_rfl) (by kernel_rfl) ?hQ17 ?hy17 (by assumption) ?rest17
    case hi17 => (simp only [List.getElem?_toArray]; rfl)
    case hQ17 => exact fun _ _ _ h => h
    case hy17 => exact Or.inl ⟨by rfl, by (intro w hSw; (try dsimp only at hSw); go_simp; try with_reducible rfl)⟩
    try simp only [Act.put, List.setIfInBounds_toArray, List.set_cons_zero, List.set_cons_succ]
    refine wpE_take (i := 18) (oi := ?oi18) (v := ?v18) ?hi18 (by kernel_rfl) (by kernel_rfl) (by kernel_rfl) (by kernel_rfl) ?hQ18 ?hy18 (by assumption) ?rest18
    case hi18 => (simp only [List.getElem?_toArray]; rfl)
    case hQ18 => exact fun _ _ _ h => h
    case hy18 => exact Or.inl ⟨by rfl, by (intro w hSw; (try dsimp only at hSw); go_simp; try with_reducible rfl)⟩
    try simp only [Act.put, List.setIfInBounds_toArray, List.set_cons_zero, List.set_cons_succ]
    refine wpE_one (i := 9) (o := ?o20) ?ho20 (by kernel_rfl) (fun K hK => ?_)
    case ho20 => (simp only [List.getElem?_toArray]; rfl)
    go_simp
    go_at_call 13
    have P2 : Hid (PR W w1.drew pb pw L) := Lib.hid (P1.out.below (Below.drewN_of w1 1))
    have A2 : Hid (∀ g cs, Blk w g 28 cs → Blk w1.drew g 28 cs) := Lib.hid fun g cs h => (A1.out g cs h).below (Below.drewN_of w1 1)
    have X2 : Hid (Blk w1.drew gx _ _) := Lib.hid (XB.out.below (Below.drewN_of w1 1))
    refine (ob_add P2.out.ob id s p q).mono ?_
    rintro e w2 ⟨rfl, hO, hkp⟩
    obtain ⟨hr3, hfin⟩ := P2.out.two hO hkp
    have HR3 := Lib.hid hr3
    have HFIN := Lib.hid hfin
    have X3 := Lib.hid (X2.out.fb hkp (by decide))
    have A3 : Hid (∀ g cs, Blk w g 28 cs → Blk w2 g 28 cs) := Lib.hid fun g cs h => (A2.out g cs h).fb hkp (by decide)
    clear hO hkp hr3 hfin
    refine hK.out _ _ ⟨X3.out.cell 1, X3.out.cell 2, X3.out.cell 3, X3.out.cell 4⟩ (fun hHeld => ?_)
    clear hK K
    refine wpE_one (i := 19) (o := ?o21) ?ho21 (by kernel_rfl) (fun K hK => ?_)
    case ho21 => (simp only [List.getElem?_toArray]; rfl)
    go_simp
    go_at_call 36
    refine (HAR.out W w2 pw L HR3.out P2.out.ob.len id s p q).mono ?_
    rintro e w3 ⟨rfl, hR, hkp⟩
    have HP4 := Lib.hid (HFIN.out w3 hR hkp)
    have X4 := Lib.hid (X3.out.keeps hkp (fun hg => (X3.out.tyd).ne HR3.out.tyd (by decide) hg))
    have A4 : Hid (∀ g cs, Blk w g 28 cs → Blk w3 g 28 cs) := Lib.hid fun g cs h => (A3.out g cs h).keeps hkp (fun hg => ((A3.out g cs h).tyd).ne HR3.out.tyd (by decide) hg)
    clear hR hkp
    refine hK.out _ _ ⟨X4.out.cell 1, X4.out.cell 2, X4.out.cell 3, X4.out.cell 4⟩ (fun hHeld => ?_)
    clear hK K
    refine wpE_take (i := 20) (oi := ?oi19) (v := ?v19) ?hi19 (by kernel_rfl) (by kernel_rfl) (by kernel_rfl) (by kernel_rfl) ?hQ19 ?hy19 (by assumption) ?rest19
    case hi19 => (simp only [List.getElem?_toArray]; rfl)
    case hQ19 => exact fun _ _ _ h => h
    case hy19 => exact Or.inl ⟨by rfl, by (intro w hSw; (try dsimp only at hSw); go_simp; try with_reducible rfl)⟩
    try simp only [Act.put, List.setIfInBounds_toArray, List.set_cons_zero, List.set_cons_succ]
    refine wpE_last (i := 21) (o := ?o22) ?ho22 (by kernel_rfl) (by kernel_rfl) (by kernel_rfl) (fun K hK => ?_)
    case ho22 => (simp only [List.getElem?_toArray]; rfl)
    go_simp
    refine hK.out _ _ ?_
    clear hK K hHeld
    go_wp2_with fail
    go_ret
    exact ⟨by trivial, by unfold doL; rw [if_pos HKK.out]; exact HP4.out, A4.out⟩
  · have hkb : (k == 1) = false := by rw [beq_eq_false_iff_ne]; exact hk
    have HL := Lib.hid P1.out.ob.len
    go_wp2_with fail
    refine (ob_fill P1.out.ob id q).mono ?_
    rintro e w2 ⟨rfl, hO, hkp⟩
    obtain ⟨hr3, hfin⟩ := P1.out.two hO hkp
    have HR3 := Lib.hid hr3
    have HFIN := Lib.hid hfin
    have X3 := Lib.hid (XB.out.fb hkp (by decide))
    have A3 : Hid (∀ g cs, Blk w g 28 cs → Blk w2 g 28 cs) := Lib.hid fun g cs h => (A1.out g cs h).fb hkp (by decide)
    have y2 : w2.cell? ⟨gx, 2, none⟩ = some (.int .i64 id) := X3.out.cell 2
    have y4 : w2.cell? ⟨gx, 4, none⟩ = some (.int .i64 q) := X3.out.cell 4
    clear hO hkp hr3 hfin x0 x1 x2 x3 x4
    go_wp2_with fail
    refine (fill_ref HR3.out HL.out P1.out.ob.ids (fun o ho => P1.out.ob.qty ho) id q).mono ?_
    rintro e w3 ⟨rfl, hR, hkp⟩
    have HP4 := Lib.hid (HFIN.out w3 hR hkp)
    have X4 := Lib.hid (X3.out.keeps hkp (fun hg => (X3.out.tyd).ne HR3.out.tyd (by decide) hg))
    have A4 : Hid (∀ g cs, Blk w g 28 cs → Blk w3 g 28 cs) := Lib.hid fun g cs h => (A3.out g cs h).keeps hkp (fun hg => ((A3.out g cs h).tyd).ne HR3.out.tyd (by decide) hg)
    have z2 : w3.cell? ⟨gx, 2, none⟩ = some (.int .i64 id) := X4.out.cell 2
    obtain ⟨L', hL'⟩ : ∃ L', (refFill L id q).1 = L' := ⟨_, rfl⟩
    rw [hL'] at HP4
    have HLL := Lib.hid hL'
    have HKN := Lib.hid hk
    clear hR hkp y2 y4 hL' HFIN HR3 P1
    have hfo := ob_find HP4.out.ob id
    obtain ⟨⟨⟨f0, f1, f2, f3, f4⟩, is⟩, hfd⟩ : ∃ y, findO L' id = y := ⟨_, rfl⟩
    have HFD := Lib.hid hfd
    rw [hfd] at hfo
    rw [show ((⟨f0, f1, f2, f3, f4⟩, is) : Od × Bool).1.cells.toArray = #[.int .i64 f0, .int .i64 f1, .int .i64 f2, .int .i64 f3, .bool f4] from rfl] at hfo
    clear hfd
    go_wp2_with fail
    refine hfo.mono ?_
    rintro e w4 ⟨rfl, hb⟩
    have hb5 := hb.trans ((Below.allocN w4 (.cells #[.int .i64 f0, .int .i64 f1, .int .i64 f2, .int .i64 f3, .bool f4] 39)).mono hb.size)
    have hyb : Blk (w4.alloc (.cells #[.int .i64 f0, .int .i64 f1, .int .i64 f2, .int .i64 f3, .bool f4] 39)) w4.heap.size 39 #[.int .i64 f0, .int .i64 f1, .int .i64 f2, .int .i64 f3, .bool f4] := Blk.new _ _ _
    go_upto_region 6 with (fail)
    clear hfo z2
    obtain ⟨gy, hgy⟩ : ∃ gy, w4.heap.size = gy := ⟨_, rfl⟩
    rw [hgy] at hyb ⊢
    clear hgy
    generalize w4.alloc (.cells #[.int .i64 f0, .int .i64 f1, .int .i64 f2, .int .i64 f3, .bool f4] 39) = w5 at *
    have Y5 := Lib.hid hyb
    have HP5 := Lib.hid (HP4.out.below hb5)
    have X5 := Lib.hid (X4.out.below hb5)
    have A5 : Hid (∀ g cs, Blk w g 28 cs → Blk w5 g 28 cs) := Lib.hid fun g cs h => (A4.out g cs h).below hb5
    have z2 : w5.cell? ⟨gx, 2, none⟩ = some (.int .i64 id) := X5.out.cell 2
    clear hb hb5 hyb HP4 X4
    have hfo := findo_ref HP5.out.rb HP5.out.ob.len id
    rw [HFD.out] at hfo
    rw [show ((⟨f0, f1, f2, f3, f4⟩, is) : Od × Bool).1.cells.toArray = #[.int .i64 f0, .int .i64 f1, .int .i64 f2, .int .i64 f3, .bool f4] from rfl] at hfo
    go_wp2_with fail
    refine hfo.mono ?_
    rintro e w6 ⟨rfl, hb⟩
    have hb7 := hb.trans ((Below.allocN w6 (.cells #[.int .i64 f0, .int .i64 f1, .int .i64 f2, .int .i64 f3, .bool f4] 89)).mono hb.size)
    have hzb : Blk (w6.alloc (.cells #[.int .i64 f0, .int .i64 f1, .int .i64 f2, .int .i64 f3, .bool f4] 89)) w6.heap.size 89 #[.int .i64 f0, .int .i64 f1, .int .i64 f2, .int .i64 f3, .bool f4] := Blk.new _ _ _
    go_upto_region 7 with (fail)
    clear hfo z2
    obtain ⟨gz, hgz⟩ : ∃ gz, w6.heap.size = gz := ⟨_, rfl⟩
    rw [hgz] at hzb ⊢
    clear hgz
    generalize w6.alloc (.cells #[.int .i64 f0, .int .i64 f1, .int .i64 f2, .int .i64 f3, .bool f4] 89) = w7 at *
    have Z7 := Lib.hid hzb
    have HP7 := Lib.hid (HP5.out.below hb7)
    have Y7 := Lib.hid (Y5.out.below hb7)
    have A7 : Hid (∀ g cs, Blk w g 28 cs → Blk w7 g 28 cs) := Lib.hid fun g cs h => (A5.out g cs h).below hb7
    clear hb hb7 hzb HP5 X5 Y5
    have q0 : w7.cell? ⟨gy, 0, none⟩ = some (.int .i64 f0) := Y7.out.cell 0
    have q1 : w7.cell? ⟨gy, 1, none⟩ = some (.int .i64 f1) := Y7.out.cell 1
    have q2 : w7.cell? ⟨gy, 2, none⟩ = some (.int .i64 f2) := Y7.out.cell 2
    have q3 : w7.cell? ⟨gy, 3, none⟩ = some (.int .i64 f3) := Y7.out.cell 3
    have q4 : w7.cell? ⟨gy, 4, none⟩ = some (.bool f4) := Y7.out.cell 4
    have r0 : w7.cell? ⟨gz, 0, none⟩ = some (.int .i64 f0) := Z7.out.cell 0
    have r1 : w7.cell? ⟨gz, 1, none⟩ = some (.int .i64 f1) := Z7.out.cell 1
    have r2 : w7.cell? ⟨gz, 2, none⟩ = some (.int .i64 f2) := Z7.out.cell 2
    have r3 : w7.cell? ⟨gz, 3, none⟩ = some (.int .i64 f3) := Z7.out.cell 3
    have r4 : w7.cell? ⟨gz, 4, none⟩ = some (.bool f4) := Z7.out.cell 4
    go_wp2_with fail
    refine (order_self f0 f1 f2 f3 f4 _).mono ?_
    rintro e w8 ⟨rfl, hb⟩
    have HP8 := Lib.hid (HP7.out.below hb)
    have A8 : Hid (∀ g cs, Blk w g 28 cs → Blk w8 g 28 cs) := Lib.hid fun g cs h => (A7.out g cs h).below hb
    clear hb q0 q1 q2 q3 q4 r0 r1 r2 r3 r4
    cases is
    · go_wp2_with fail
      go_ret
      exact ⟨by trivial, by unfold doL; rw [if_neg HKN.out, HLL.out]; exact HP8.out, A8.out⟩
    · go_wp2_with fail
      go_ret
      exact ⟨by trivial, by unfold doL; rw [if_neg HKN.out, HLL.out]; exact HP8.out, A8.out⟩
theorem do_any2 (hAR : AddRef) {W w : World} {pb pw : Nat} {L : List Od} (h : PR W w pb pw L) (k s id p q : Int) :
    Calls Try.prog 21 #[.pointer (some ⟨pb, 0, none⟩), .pointer (some ⟨pw, 0, none⟩), .agg #[.int .i64 k, .int .i64 s, .int .i64 id, .int .i64 p, .int .i64 q]] w fun e w' => e = .returned (.bool true) ∧ ∃ L', PR W w' pb pw L' :=
  (do_list2 hAR h k s id p q).mono fun _ _ ⟨h1, h2, _⟩ => ⟨h1, _, h2⟩
end Go.Proofs.Ytmhljdkhekjfmaa
