/- The walk of cornhilllaw5.RefdataLimits. -/
import Derived.Test.YtjjddlfbadahhaaLim2
namespace Go.Proofs.Ytjjddlfbadahhaa
open Go.RowKit

set_option maxRecDepth 100000 in
set_option maxHeartbeats 16000000 in
theorem limits_any (qa : Option Addr) (L : List Int) (qc : Nat) (tick low wide : Int) (w : World) (hI : Ints w qa L) (ht1 : -9223372036854775808 ≤ tick) (ht2 : tick ≤ 9223372036854775807) (hl1 : -9223372036854775808 ≤ low) (hl2 : low ≤ 9223372036854775807) (hw1 : -9223372036854775808 ≤ wide) (hw2 : wide ≤ 9223372036854775807) :
    Calls Try.prog 3 #[.slice qa L.length qc, .int .i64 tick, .int .i64 low, .int .i64 wide] w fun e w' => e = .returned (.bool true) ∧ Below w.heap.size w w' := by
  have s1 : ∀ (w : World) (o : Obj), (w.alloc o).heap.size = w.heap.size + 1 := fun w o => by simp
  have HI := Lib.hid hI
  clear hI
  go_enter Try.func3, Try.ntmps3
  go_wp2_with fail
  refine (three_any 3 _).mono ?_
  rintro e w1 ⟨a0, b0, rfl, hp, hb1⟩
  have HB1 := Lib.hid hb1
  have HI1 := Lib.hid (HI.out.below hb1)
  clear hp hb1 HI
  unfold Prod.agg Prod.cells
  simp only [threeP, List.length_cons, List.length_nil, Nat.reduceAdd]
  go_upto_region 5 with (fail)
  have hP : Blk (w1.alloc (.cells (lc 5 0 1000 200 none 0 0 none 0 0) 25)) w1.heap.size 25 (lc 5 0 1000 200 none 0 0 none 0 0) := Blk.new w1 _ _
  have hB : Below w1.heap.size w1 (w1.alloc (.cells (lc 5 0 1000 200 none 0 0 none 0 0) 25)) := Below.allocN _ _
  unfold lc at hP hB
  generalize (w1.alloc (.cells #[.string ⟨#[67, 76]⟩, .slice none 0 0, .int .i64 5, .int .i64 0, .int .i64 1000, .int .i64 200, .int .i64 3, .int .i64 4, .int .i64 2, .int .i64 40, .slice none 0 0] 25)) = wa at *
  have HP0 := Lib.hid hP
  have HBA := Lib.hid hB
  clear hP hB
  go_wp2_with fail
  go_loopw [10, 11] (fun l i w' => ∃ k : Nat, i = .int .i64 k ∧ k ≤ 6 ∧ ∃ z : Int, l = .int .i64 z ∧ ∃ (M : List Int) (ma : Option Addr) (mc : Nat), M.length = k ∧ Rise M z ∧ Blk w' w1.heap.size 25 (lc 5 0 1000 200 ma k mc none 0 0) ∧ RowI w' w1.heap.size 3 (.slice ma k mc) M ∧ Below w1.heap.size w1 w') (fun _ i _ => 6 - (intOf i).toNat)
  case atStart => exact ⟨0, rfl, by omega, -1, rfl, [], none, 0, rfl, Rise.nil, HP0.out, World.ownsRow_nil _ _ _ _, HBA.out⟩
  case round =>
    clear HP0 HBA
    obtain ⟨k, rfl, hk, z, rfl, M, ma, mc, hM, hR, hP, hS, hB⟩ := hrel
    obtain ⟨wo, rfl⟩ : ∃ wo : World, wo = wr := ⟨_, rfl⟩
    have HP := Lib.hid hP
    have HS := Lib.hid hS
    have HB := Lib.hid hB
    have HR := Lib.hid hR
    have HM := Lib.hid hM
    have hzb : -1 ≤ z ∧ z ≤ 191 * k - 1 := ⟨hR.lo, by have := hR.hi; rw [hM] at this; exact this⟩
    clear hP hS hB hR hM
    by_cases hlt : k < L.length ∧ k < 6
    · obtain ⟨hkl, hk6⟩ := hlt
      have hkl' : (k : Int) < (L.length : Int) := by omega
      obtain ⟨x, hx⟩ : ∃ x, L[k]? = some x := ⟨_, List.getElem?_eq_getElem hkl⟩
      obtain ⟨hok, b, off, hqa, hbl, c0⟩ := HI1.out k x hx
      have c0o : wo.cell? ⟨b, off + k, none⟩ = some (.int .i64 x) := (HB.out.cell (p := ⟨b, off + k, none⟩) hbl).trans c0
      have hok' : -9223372036854775808 ≤ x ∧ x ≤ 9223372036854775807 := hok
      subst hqa
      have hgb := withI_bd x 0 190 (by omega)
      have HW := Lib.hid fun w => within_any x 0 190 w hok'.1 hok'.2 (by omega) (by omega) (by omega)
      generalize withI x 0 190 = g at *
      have c1 : wo.cell? ⟨w1.heap.size, 1, none⟩ = some (.slice ma k mc) := by rw [HP.out.cell]; rfl
      clear hx hok c0
      go_wp2_with fail
      refine (HW.out _).mono ?_
      rintro e w5 ⟨rfl, rfl⟩
      have y1 : IntKind.i64.wrap (z + 1) = z + 1 := IntWalk.i64_in _ (by omega)
      have y2 : IntKind.i64.wrap (z + 1 + g) = z + 1 + g := IntWalk.i64_in _ (by omega)
      have hzz := HB.out.size
      go_wp2_with (first
        | (at_builtin; refine push_int rfl (.tmp 37) (.tmp 39) rfl w1.heap.size ma mc k M HM.out rfl (own_below HS.out (Below.allocN _ _)) wo.heap.size (z + 1 + g) rfl (by rw [(Blk.new wo 3 #[.int .i64 (z + 1 + g)]).cell]; rfl) (by omega) (by rw [s1]; omega) ?_))
      intro g1 cap1 w6 hr6 hg6 _
      have hp6 := grow_blk HS.out hg6 HP.out (by decide)
      have hb6 := grow_below HS.out hg6 HB.out
      have c16 : w6.cell? ⟨w1.heap.size, 1, none⟩ = some (.slice ma k mc) := by rw [hp6.cell]; rfl
      have f16 : w6.frozen? ⟨w1.heap.size, 1, none⟩ = false := hp6.frozen 1
      have HP7 : Hid (Blk (w6.setCell ⟨w1.heap.size, 1, none⟩ (.slice (some ⟨g1, 0, none⟩) (k + 1) cap1)) w1.heap.size 25 (lc 5 0 1000 200 (some ⟨g1, 0, none⟩) (k + 1) cap1 none 0 0)) := Lib.hid (hp6.set_ 1 (.slice (some ⟨g1, 0, none⟩) (k + 1) cap1))
      have HS7 : Hid (RowI (w6.setCell ⟨w1.heap.size, 1, none⟩ (.slice (some ⟨g1, 0, none⟩) (k + 1) cap1)) w1.heap.size 3 (.slice (some ⟨g1, 0, none⟩) (k + 1) cap1) (M ++ [z + 1 + g])) := Lib.hid (store_own hr6 hp6 (by decide) 1 _)
      have HB7 := Lib.hid (hb6.setCell (p := ⟨w1.heap.size, 1, none⟩) (Nat.le_refl _) (.slice (some ⟨g1, 0, none⟩) (k + 1) cap1))
      have HR7 := Lib.hid (HR.out.push (by rw [HM.out]; exact hk6) hgb)
      have HM7 : Hid ((M ++ [z + 1 + g]).length = k + 1) := Lib.hid (by rw [List.length_append, HM.out]; rfl)
      clear hr6 hg6 hp6 hb6 c1 c0o y1 y2 hzz
      go_wp2_with fail
      go_roundw
      case rel => exact ⟨k + 1, by go_num, by omega, z + 1 + g, rfl, M ++ [z + 1 + g], _, _, HM7.out, HR7.out, HP7.out, HS7.out, HB7.out⟩
      case measure => simp [intOf]; omega
    · have hyn : ¬ k < L.length ∨ (k < L.length ∧ ¬ k < 6) := by omega
      clear hlt
      have hwt := withI_bd tick 0 999 (by omega)
      have HWT := Lib.hid fun w => within_any tick 0 999 w ht1 ht2 (by omega) (by omega) (by omega)
      generalize withI tick 0 999 = vt at *
      have hwl := withI_bd low 0 900 (by omega)
      have HWL := Lib.hid fun w => within_any low 0 900 w hl1 hl2 (by omega) (by omega) (by omega)
      generalize withI low 0 900 = vl at *
      have hww := withI_bd wide 0 90 (by omega)
      have HWW := Lib.hid fun w => within_any wide 0 90 w hw1 hw2 (by omega) (by omega) (by omega)
      generalize withI wide 0 90 = vw at *
      obtain ⟨T, hT⟩ : ∃ T : Int, 1 + vt = T := ⟨_, rfl⟩
      have hTb : 1 ≤ T ∧ T ≤ 1000 := by omega
      have HTT := Lib.hid hT
      clear hT
      rcases hyn with hyn | ⟨hyn, hyn2⟩
      · have c2 : wo.cell? ⟨w1.heap.size, 2, none⟩ = some (.int .i64 5) := by rw [HP.out.cell]; rfl
        have f2 : wo.frozen? ⟨w1.heap.size, 2, none⟩ = false := HP.out.frozen 2
        have y1 : IntKind.i64.wrap (1 + vt) = T := by rw [HTT.out]; exact IntWalk.i64_in _ (by omega)
        go_wp2_with fail
        refine (HWT.out _).mono ?_
        rintro e w5 ⟨rfl, rfl⟩
        go_wp2_with fail
        have hk2 : Keeps (fun g => g = w1.heap.size) wo (wo.setCell ⟨w1.heap.size, 2, none⟩ (.int .i64 T)) := (Keeps.refl (fun g => g = w1.heap.size) wo).setCell (p := ⟨w1.heap.size, 2, none⟩) (fun _ => rfl) _
        have hp2 : Blk (wo.setCell ⟨w1.heap.size, 2, none⟩ (.int .i64 T)) w1.heap.size 25 (lc T 0 1000 200 ma k mc none 0 0) := HP.out.set_ 2 (.int .i64 T)
        have hs2 : RowI (wo.setCell ⟨w1.heap.size, 2, none⟩ (.int .i64 T)) w1.heap.size 3 (.slice ma k mc) M := store_own HS.out HP.out (by decide) 2 _
        have hb2 := HB.out.trans (hk2.below (fun g hg => by have hg' : g = w1.heap.size := hg; omega) HB.out.size)
        clear c2 f2 y1 hk2
        generalize wo.setCell ⟨w1.heap.size, 2, none⟩ (.int .i64 T) = wb at *
        have HP2 := Lib.hid hp2
        have HS2 := Lib.hid hs2
        have HB2 := Lib.hid hb2
        clear hp2 hs2 hb2
        obtain ⟨lo, hlo⟩ : ∃ lo : Int, T * (-vl) = lo := ⟨_, rfl⟩
        have hlm := mul_bd hTb.1 (i := -vl) (a := -900) (b := 0) (by omega) (by omega)
        have hlb : -900000 ≤ lo ∧ lo ≤ 0 := by omega
        have dlo : T ∣ lo := ⟨_, hlo.symm⟩
        have y3 : IntKind.i64.wrap (-vl) = -vl := IntWalk.i64_in _ (by omega)
        have y4 : IntKind.i64.wrap (T * -vl) = lo := by rw [hlo]; exact IntWalk.i64_in _ (by omega)
        have c2 : wb.cell? ⟨w1.heap.size, 2, none⟩ = some (.int .i64 T) := by rw [HP2.out.cell]; rfl
        have c3 : wb.cell? ⟨w1.heap.size, 3, none⟩ = some (.int .i64 0) := by rw [HP2.out.cell]; rfl
        have f3 : wb.frozen? ⟨w1.heap.size, 3, none⟩ = false := HP2.out.frozen 3
        have DLO := Lib.hid dlo
        clear hlo dlo
        refine wp_region_E (S := fun w' => w'.cell? ⟨w1.heap.size, 2, none⟩ = some (.int .i64 T)) (by kernel_rfl) c2 (fun hHeld => ?_)
        refine wpE_take (i := 0) (oi := ?oi1) (v := ?v1) ?hi1 (by kernel_rfl) (by kernel_rfl) (by kernel_rfl) (by kernel_rfl) ?hQ1 ?hy1 (by assumption) ?rest1
        case hi1 => (simp only [List.getElem?_toArray, List.getElem?_cons_zero]; rfl)
        case hQ1 => exact fun _ _ _ h => h
        case hy1 => exact Or.inl ⟨by rfl, by (intro w hSw; (try dsimp only at hSw); go_simp; try with_reducible rfl)⟩
        try simp only [Act.put, List.setIfInBounds_toArray, List.set_cons_zero, List.set_cons_succ]
        refine wpE_take (i := 1) (oi := ?oi2) (v := ?v2) ?hi2 (by kernel_rfl) (by kernel_rfl) (by kernel_rfl) (by kernel_rfl) ?hQ2 ?hy2 (by assumption) ?rest2
        case hi2 => (simp only [List.getElem?_toArray, List.getElem?_cons_succ, List.getElem?_cons_zero]; rfl)
        case hQ2 => exact fun _ _ _ h => h
        case hy2 => exact Or.inl ⟨by rfl, by (intro w hSw; (try dsimp only at hSw); go_simp; try with_reducible rfl)⟩
        try simp only [Act.put, List.setIfInBounds_toArray, List.set_cons_zero, List.set_cons_succ]
        refine wpE_take (i := 2) (oi := ?oi3) (v := ?v3) ?hi3 (by kernel_rfl) (by kernel_rfl) (by kernel_rfl) (by kernel_rfl) ?hQ3 ?hy3 (by assumption) ?rest3
        case hi3 => (simp only [List.getElem?_toArray, List.getElem?_cons_succ, List.getElem?_cons_zero]; rfl)
        case hQ3 => exact fun _ _ _ h => h
        case hy3 => exact Or.inl ⟨by rfl, by (intro w hSw; (try dsimp only at hSw); go_simp; try with_reducible rfl)⟩
        try simp only [Act.put, List.setIfInBounds_toArray, List.set_cons_zero, List.set_cons_succ]
        refine wpE_one (i := 3) (o := ?o31) ?ho31 (by kernel_rfl) (fun K hK => ?_)
        case ho31 => (simp only [List.getElem?_toArray, List.getElem?_cons_succ, List.getElem?_cons_zero]; rfl)
        go_simp
        go_at_call 13
        refine (HWL.out _).mono ?_
        rintro e w5 ⟨rfl, rfl⟩
        refine hK.out _ _ c2 (fun hHeld => ?_)
        clear hK K
        refine wpE_take (i := 4) (oi := ?oi4) (v := ?v4) ?hi4 (by kernel_rfl) (by kernel_rfl) (by kernel_rfl) (by kernel_rfl) ?hQ4 ?hy4 (by assumption) ?rest4
        case hi4 => (simp only [List.getElem?_toArray, List.getElem?_cons_succ, List.getElem?_cons_zero]; rfl)
        case hQ4 => exact fun _ _ _ h => h
        case hy4 => exact Or.inl ⟨by rfl, by (intro w hSw; (try dsimp only at hSw); go_simp; try with_reducible rfl)⟩
        try simp only [Act.put, List.setIfInBounds_toArray, List.set_cons_zero, List.set_cons_succ]
        refine wpE_take (i := 5) (oi := ?oi5) (v := ?v5) ?hi5 (by kernel_rfl) (by kernel_rfl) (by kernel_rfl) (by kernel_rfl) ?hQ5 ?hy5 (by assumption) ?rest5
        case hi5 => (simp only [List.getElem?_toArray, List.getElem?_cons_succ, List.getElem?_cons_zero]; rfl)
        case hQ5 => exact fun _ _ _ h => h
        case hy5 => exact Or.inl ⟨by rfl, by (intro w hSw; (try dsimp only at hSw); go_simp; try with_reducible rfl)⟩
        try simp only [Act.put, List.setIfInBounds_toArray, List.set_cons_zero, List.set_cons_succ]
        refine wpE_take (i := 6) (oi := ?oi6) (v := ?v6) ?hi6 (by kernel_rfl) (by kernel_rfl) (by kernel_rfl) (by kernel_rfl) ?hQ6 ?hy6 (by assumption) ?rest6
        case hi6 => (simp only [List.getElem?_toArray, List.getElem?_cons_succ, List.getElem?_cons_zero]; rfl)
        case hQ6 => exact fun _ _ _ h => h
        case hy6 => exact Or.inl ⟨by rfl, by (intro w hSw; (try dsimp only at hSw); go_simp; try with_reducible rfl)⟩
        try simp only [Act.put, List.setIfInBounds_toArray, List.set_cons_zero, List.set_cons_succ]
        refine wpE_last (i := 7) (o := ?o35) ?ho35 (by kernel_rfl) (by kernel_rfl) (by kernel_rfl) (fun K hK => ?_)
        case ho35 => (simp only [List.getElem?_toArray, List.getElem?_cons_succ, List.getElem?_cons_zero]; rfl)
        go_simp
        refine hK.out _ _ ?_
        clear hK K hHeld
        clear y3 y4 c2 c3 f3
        have hk3 : Keeps (fun g => g = w1.heap.size) wb (wb.setCell ⟨w1.heap.size, 3, none⟩ (.int .i64 lo)).drew := ((Keeps.refl (fun g => g = w1.heap.size) wb).setCell (p := ⟨w1.heap.size, 3, none⟩) (fun _ => rfl) _).drew
        have hp3 : Blk (wb.setCell ⟨w1.heap.size, 3, none⟩ (.int .i64 lo)).drew w1.heap.size 25 (lc T lo 1000 200 ma k mc none 0 0) := HP2.out.set_ 3 (.int .i64 lo)
        have hs3 : RowI (wb.setCell ⟨w1.heap.size, 3, none⟩ (.int .i64 lo)).drew w1.heap.size 3 (.slice ma k mc) M := own_below (store_own HS2.out HP2.out (by decide) 3 _) (Below.drewN_of _ 1)
        have hb3 := HB2.out.trans (hk3.below (fun g hg => by have hg' : g = w1.heap.size := hg; omega) HB2.out.size)
        clear hk3 HP2 HS2 HB2
        generalize (wb.setCell ⟨w1.heap.size, 3, none⟩ (.int .i64 lo)).drew = wc at *
        have HP3 := Lib.hid hp3
        have HS3 := Lib.hid hs3
        have HB3 := Lib.hid hb3
        clear hp3 hs3 hb3
        obtain ⟨v, hv⟩ : ∃ v : Int, 1 + vw = v := ⟨_, rfl⟩
        have hvb : 1 ≤ v ∧ v ≤ 91 := by omega
        obtain ⟨bw, hbw⟩ : ∃ bw : Int, T * v = bw := ⟨_, rfl⟩
        have hbm := mul_bd hTb.1 (i := v) (a := 1) (b := 91) (by omega) (by omega)
        have hbb : 1 ≤ bw ∧ bw ≤ 91000 ∧ T ≤ bw := by omega
        have DBW : Hid (T ∣ bw) := Lib.hid ⟨_, hbw.symm⟩
        have y3 : IntKind.i64.wrap (1 + vw) = v := by rw [hv]; exact IntWalk.i64_in _ (by omega)
        have y4 : IntKind.i64.wrap (T * v) = bw := by rw [hbw]; exact IntWalk.i64_in _ (by omega)
        have y5 : IntKind.i64.wrap (lo + bw) = lo + bw := IntWalk.i64_in _ (by omega)
        have c2 : wc.cell? ⟨w1.heap.size, 2, none⟩ = some (.int .i64 T) := by rw [HP3.out.cell]; rfl
        have c3 : wc.cell? ⟨w1.heap.size, 3, none⟩ = some (.int .i64 lo) := by rw [HP3.out.cell]; rfl
        have c4 : wc.cell? ⟨w1.heap.size, 4, none⟩ = some (.int .i64 1000) := by rw [HP3.out.cell]; rfl
        have f4 : wc.frozen? ⟨w1.heap.size, 4, none⟩ = false := HP3.out.frozen 4
        clear hv hbw hlm hbm
        go_wp2_with fail
        refine wp_region_E (S := fun w' => w'.cell? ⟨w1.heap.size, 2, none⟩ = some (.int .i64 T) ∧ w'.cell? ⟨w1.heap.size, 3, none⟩ = some (.int .i64 lo)) (by kernel_rfl) ⟨c2, c3⟩ (fun hHeld => ?_)
        refine wpE_take (i := 0) (oi := ?oi7) (v := ?v7) ?hi7 (by kernel_rfl) (by kernel_rfl) (by kernel_rfl) (by kernel_rfl) ?hQ7 ?hy7 (by assumption) ?rest7
        case hi7 => (simp only [List.getElem?_toArray, List.getElem?_cons_zero]; rfl)
        case hQ7 => exact fun _ _ _ h => h
        case hy7 => exact Or.inl ⟨by rfl, by (intro w hSw; (try dsimp only at hSw); go_simp; try with_reducible rfl)⟩
        try simp only [Act.put, List.setIfInBounds_toArray, List.set_cons_zero, List.set_cons_succ]
        refine wpE_take (i := 1) (oi := ?oi8) (v := ?v8) ?hi8 (by kernel_rfl) (by kernel_rfl) (by kernel_rfl) (by kernel_rfl) ?hQ8 ?hy8 (by assumption) ?rest8
        case hi8 => (simp only [List.getElem?_toArray, List.getElem?_cons_succ, List.getElem?_cons_zero]; rfl)
        case hQ8 => exact fun _ _ _ h => h
        case hy8 => exact Or.inl ⟨by rfl, by (intro w hSw; (try dsimp only at hSw); go_simp; try with_reducible rfl)⟩
        try simp only [Act.put, List.setIfInBounds_toArray, List.set_cons_zero, List.set_cons_succ]
        refine wpE_take (i := 2) (oi := ?oi9) (v := ?v9) ?hi9 (by kernel_rfl) (by kernel_rfl) (by kernel_rfl) (by kernel_rfl) ?hQ9 ?hy9 (by assumption) ?rest9
        case hi9 => (simp only [List.getElem?_toArray, List.getElem?_cons_succ, List.getElem?_cons_zero]; rfl)
        case hQ9 => exact fun _ _ _ h => h
        case hy9 => exact Or.inl ⟨by rfl, by (intro w hSw; (try dsimp only at hSw); go_simp; try with_reducible rfl)⟩
        try simp only [Act.put, List.setIfInBounds_toArray, List.set_cons_zero, List.set_cons_succ]
        refine wpE_take (i := 3) (oi := ?oi10) (v := ?v10) ?hi10 (by kernel_rfl) (by kernel_rfl) (by kernel_rfl) (by kernel_rfl) ?hQ10 ?hy10 (by assumption) ?rest10
        case hi10 => (simp only [List.getElem?_toArray, List.getElem?_cons_succ, List.getElem?_cons_zero]; rfl)
        case hQ10 => exact fun _ _ _ h => h
        case hy10 => exact Or.inl ⟨by rfl, by (intro w hSw; (try dsimp only at hSw); go_simp; try with_reducible rfl)⟩
        try simp only [Act.put, List.setIfInBounds_toArray, List.set_cons_zero, List.set_cons_succ]
        refine wpE_take (i := 4) (oi := ?oi11) (v := ?v11) ?hi11 (by kernel_rfl) (by kernel_rfl) (by kernel_rfl) (by kernel_rfl) ?hQ11 ?hy11 (by assumption) ?rest11
        case hi11 => (simp only [List.getElem?_toArray, List.getElem?_cons_succ, List.getElem?_cons_zero]; rfl)
        case hQ11 => exact fun _ _ _ h => h
        case hy11 => exact Or.inl ⟨by rfl, by (intro w hSw; (try dsimp only at hSw); go_simp; try with_reducible rfl)⟩
        try simp only [Act.put, List.setIfInBounds_toArray, List.set_cons_zero, List.set_cons_succ]
        refine wpE_one (i := 5) (o := ?o32) ?ho32 (by kernel_rfl) (fun K hK => ?_)
        case ho32 => (simp only [List.getElem?_toArray, List.getElem?_cons_succ, List.getElem?_cons_zero]; rfl)
        go_simp
        go_at_call 13
        refine (HWW.out _).mono ?_
        rintro e w5 ⟨rfl, rfl⟩
        refine hK.out _ _ ⟨c2, c3⟩ (fun hHeld => ?_)
        clear hK K
        refine wpE_take (i := 6) (oi := ?oi12) (v := ?v12) ?hi12 (by kernel_rfl) (by kernel_rfl) (by kernel_rfl) (by kernel_rfl) ?hQ12 ?hy12 (by assumption) ?rest12
        case hi12 => (simp only [List.getElem?_toArray, List.getElem?_cons_succ, List.getElem?_cons_zero]; rfl)
        case hQ12 => exact fun _ _ _ h => h
        case hy12 => exact Or.inl ⟨by rfl, by (intro w hSw; (try dsimp only at hSw); go_simp; try with_reducible rfl)⟩
        try simp only [Act.put, List.setIfInBounds_toArray, List.set_cons_zero, List.set_cons_succ]
        refine wpE_take (i := 7) (oi := ?oi13) (v := ?v13) ?hi13 (by kernel_rfl) (by kernel_rfl) (by kernel_rfl) (by kernel_rfl) ?hQ13 ?hy13 (by assumption) ?rest13
        case hi13 => (simp only [List.getElem?_toArray, List.getElem?_cons_succ, List.getElem?_cons_zero]; rfl)
        case hQ13 => exact fun _ _ _ h => h
        case hy13 => exact Or.inl ⟨by rfl, by (intro w hSw; (try dsimp only at hSw); go_simp; try with_reducible rfl)⟩
        try simp only [Act.put, List.setIfInBounds_toArray, List.set_cons_zero, List.set_cons_succ]
        refine wpE_take (i := 8) (oi := ?oi14) (v := ?v14) ?hi14 (by kernel_rfl) (by kernel_rfl) (by kernel_rfl) (by kernel_rfl) ?hQ14 ?hy14 (by assumption) ?rest14
        case hi14 => (simp only [List.getElem?_toArray, List.getElem?_cons_succ, List.getElem?_cons_zero]; rfl)
        case hQ14 => exact fun _ _ _ h => h
        case hy14 => exact Or.inl ⟨by rfl, by (intro w hSw; (try dsimp only at hSw); go_simp; try with_reducible rfl)⟩
        try simp only [Act.put, List.setIfInBounds_toArray, List.set_cons_zero, List.set_cons_succ]
        refine wpE_take (i := 9) (oi := ?oi15) (v := ?v15) ?hi15 (by kernel_rfl) (by kernel_rfl) (by kernel_rfl) (by kernel_rfl) ?hQ15 ?hy15 (by assumption) ?rest15
        case hi15 => (simp only [List.getElem?_toArray, List.getElem?_cons_succ, List.getElem?_cons_zero]; rfl)
        case hQ15 => exact fun _ _ _ h => h
        case hy15 => exact Or.inl ⟨by rfl, by (intro w hSw; (try dsimp only at hSw); go_simp; try with_reducible rfl)⟩
        try simp only [Act.put, List.setIfInBounds_toArray, List.set_cons_zero, List.set_cons_succ]
        refine wpE_last (i := 10) (o := ?o36) ?ho36 (by kernel_rfl) (by kernel_rfl) (by kernel_rfl) (fun K hK => ?_)
        case ho36 => (simp only [List.getElem?_toArray, List.getElem?_cons_succ, List.getElem?_cons_zero]; rfl)
        go_simp
        refine hK.out _ _ ?_
        clear hK K hHeld
        clear y3 y4 y5 c2 c3 c4 f4
        have hk4 : Keeps (fun g => g = w1.heap.size) wc (wc.setCell ⟨w1.heap.size, 4, none⟩ (.int .i64 (lo + bw))).drew := ((Keeps.refl (fun g => g = w1.heap.size) wc).setCell (p := ⟨w1.heap.size, 4, none⟩) (fun _ => rfl) _).drew
        have hp4 : Blk (wc.setCell ⟨w1.heap.size, 4, none⟩ (.int .i64 (lo + bw))).drew w1.heap.size 25 (lc T lo (lo + bw) 200 ma k mc none 0 0) := HP3.out.set_ 4 (.int .i64 (lo + bw))
        have hs4 : RowI (wc.setCell ⟨w1.heap.size, 4, none⟩ (.int .i64 (lo + bw))).drew w1.heap.size 3 (.slice ma k mc) M := own_below (store_own HS3.out HP3.out (by decide) 4 _) (Below.drewN_of _ 1)
        have hb4 := HB3.out.trans (hk4.below (fun g hg => by have hg' : g = w1.heap.size := hg; omega) HB3.out.size)
        clear hk4 HP3 HS3 HB3
        generalize (wc.setCell ⟨w1.heap.size, 4, none⟩ (.int .i64 (lo + bw))).drew = wd at *
        have HP4 := Lib.hid hp4
        have HS4 := Lib.hid hs4
        have HB4 := Lib.hid hb4
        clear hp4 hs4 hb4
        have c3 : wd.cell? ⟨w1.heap.size, 3, none⟩ = some (.int .i64 lo) := by rw [HP4.out.cell]; rfl
        have c4 : wd.cell? ⟨w1.heap.size, 4, none⟩ = some (.int .i64 (lo + bw)) := by rw [HP4.out.cell]; rfl
        have c5 : wd.cell? ⟨w1.heap.size, 5, none⟩ = some (.int .i64 200) := by rw [HP4.out.cell]; rfl
        have f5 : wd.frozen? ⟨w1.heap.size, 5, none⟩ = false := HP4.out.frozen 5
        have y6 : IntKind.i64.wrap (lo + bw - lo) = bw := by rw [show lo + bw - lo = bw by omega]; exact IntWalk.i64_in _ (by omega)
        go_upto_region 14 with (fail)
        have hk5 : Keeps (fun g => g = w1.heap.size) wd (wd.setCell ⟨w1.heap.size, 5, none⟩ (.int .i64 bw)) := (Keeps.refl (fun g => g = w1.heap.size) wd).setCell (p := ⟨w1.heap.size, 5, none⟩) (fun _ => rfl) _
        have hp5 : Blk (wd.setCell ⟨w1.heap.size, 5, none⟩ (.int .i64 bw)) w1.heap.size 25 (lc T lo (lo + bw) bw ma k mc none 0 0) := HP4.out.set_ 5 (.int .i64 bw)
        have hs5 : RowI (wd.setCell ⟨w1.heap.size, 5, none⟩ (.int .i64 bw)) w1.heap.size 3 (.slice ma k mc) M := store_own HS4.out HP4.out (by decide) 5 _
        have hb5 := HB4.out.trans (hk5.below (fun g hg => by have hg' : g = w1.heap.size := hg; omega) HB4.out.size)
        clear hk5 HP4 HS4 HB4 c3 c4 c5 f5 y6
        generalize wd.setCell ⟨w1.heap.size, 5, none⟩ (.int .i64 bw) = wi at *
        have HP5 := Lib.hid hp5
        have HS5 := Lib.hid hs5
        have HB5 := Lib.hid hb5
        clear hp5 hs5 hb5
        go_wp2_with fail
        go_loopw [12] (fun i w' => ∃ j : Nat, i = .int .i64 j ∧ j ≤ k ∧ ∃ (sa : Option Addr) (sc : Nat), Blk w' w1.heap.size 25 (lc T lo (lo + bw) bw ma k mc sa j sc) ∧ RowI w' w1.heap.size 3 (.slice ma k mc) M ∧ RowI w' w1.heap.size 2 (.slice sa j sc) (List.replicate j lo) ∧ Below w1.heap.size w1 w') (fun i _ => k - (intOf i).toNat)
        case atStart => exact ⟨0, rfl, Nat.zero_le _, none, 0, HP5.out, HS5.out, World.ownsRow_nil _ _ _ _, HB5.out⟩
        case round =>
          clear HP5 HS5 HB5
          obtain ⟨j, rfl, hj, sa, sc, hP, hS, hT, hB⟩ := hrel
          obtain ⟨wn, rfl⟩ : ∃ wn : World, wn = wr := ⟨_, rfl⟩
          have HP := Lib.hid hP
          have HS := Lib.hid hS
          have HT := Lib.hid hT
          have HB := Lib.hid hB
          clear hP hS hT hB
          by_cases hjk : j < k
          · have hjk' : (j : Int) < (k : Int) := by omega
            have c1 : wn.cell? ⟨w1.heap.size, 1, none⟩ = some (.slice ma k mc) := by rw [HP.out.cell]; rfl
            have c3 : wn.cell? ⟨w1.heap.size, 3, none⟩ = some (.int .i64 lo) := by rw [HP.out.cell]; rfl
            have c10 : wn.cell? ⟨w1.heap.size, 10, none⟩ = some (.slice sa j sc) := by rw [HP.out.cell]; rfl
            have hzz := HB.out.size
            go_wp2_with (first
              | (at_builtin; refine push_int64 rfl (.tmp 77) (.tmp 80) rfl w1.heap.size sa sc j (List.replicate j lo) (List.length_replicate) rfl (own_below HT.out (Below.allocN _ _)) wn.heap.size lo rfl (by rw [(Blk.new wn 2 #[.int .i64 lo]).cell]; rfl) (by omega) (by rw [s1]; omega) ?_))
            intro g1 cap1 w6 hr6 hg6 _
            have hp6 := grow_blk HT.out hg6 HP.out (by decide)
            have hm6 := grow_own HT.out hg6 HS.out (by decide)
            have hb6 := grow_below HT.out hg6 HB.out
            have c16 : w6.cell? ⟨w1.heap.size, 10, none⟩ = some (.slice sa j sc) := by rw [hp6.cell]; rfl
            have f16 : w6.frozen? ⟨w1.heap.size, 10, none⟩ = false := hp6.frozen 10
            have HP7 : Hid (Blk (w6.setCell ⟨w1.heap.size, 10, none⟩ (.slice (some ⟨g1, 0, none⟩) (j + 1) cap1)) w1.heap.size 25 (lc T lo (lo + bw) bw ma k mc (some ⟨g1, 0, none⟩) (j + 1) cap1)) := Lib.hid (hp6.set_ 10 (.slice (some ⟨g1, 0, none⟩) (j + 1) cap1))
            have HS7 : Hid (RowI (w6.setCell ⟨w1.heap.size, 10, none⟩ (.slice (some ⟨g1, 0, none⟩) (j + 1) cap1)) w1.heap.size 3 (.slice ma k mc) M) := Lib.hid (store_own hm6 hp6 (by decide) 10 _)
            have HT7 : Hid (RowI (w6.setCell ⟨w1.heap.size, 10, none⟩ (.slice (some ⟨g1, 0, none⟩) (j + 1) cap1)) w1.heap.size 2 (.slice (some ⟨g1, 0, none⟩) (j + 1) cap1) (List.replicate (j + 1) lo)) := Lib.hid (by rw [List.replicate_succ']; exact store_own hr6 hp6 (by decide) 10 _)
            have HB7 := Lib.hid (hb6.setCell (p := ⟨w1.heap.size, 10, none⟩) (Nat.le_refl _) (.slice (some ⟨g1, 0, none⟩) (j + 1) cap1))
            clear hr6 hg6 hp6 hm6 hb6 c1 c3 c10 hzz
            go_wp2_with fail
            go_roundw
            case rel => exact ⟨j + 1, by go_num, by omega, _, _, HP7.out, HS7.out, HT7.out, HB7.out⟩
            case measure => simp [intOf]; omega
          · obtain rfl : j = k := by omega
            have c1 : wn.cell? ⟨w1.heap.size, 1, none⟩ = some (.slice ma j mc) := by rw [HP.out.cell]; rfl
            have hpv := lim_pv (w := wn) (ma := ma) (sa := sa) (mc := mc) (sc := sc) HM.out (by omega) HR.out HS.out HT.out hTb hlb ⟨hbb.1, hbb.2.1⟩
            have HPV := Lib.hid hpv
            have HPC : Hid (PC wn w1.heap.size (limP M (List.replicate j lo) T lo (lo + bw) bw ma mc sa sc)) := Lib.hid (PC.of5 (by unfold limP Prod.cells; simp only [HM.out, List.length_replicate]; exact HP.out))
            have HLT : Hid (w1.heap.size < wn.heap.size) := Lib.hid HP.out.lt
            clear hpv
            have HPL : Hid ((limP M (List.replicate j lo) T lo (lo + bw) bw ma mc sa sc).months.length = j) := Lib.hid HM.out
            by_cases h2 : j < 2
            -- SHORT(
            · have h2' : (j : Int) < 2 := by omega
              have HCK := Lib.hid (lim_short (M := M) (S := List.replicate j lo) (T := T) (lo := lo) (hi := lo + bw) (wd := bw) (by rw [HM.out]; exact h2) ma mc sa sc)
              clear HP HS HT HR HM
              generalize limP M (List.replicate j lo) T lo (lo + bw) bw ma mc sa sc = p at *
              have F2 := Lib.hid fun wz (h : PV wz p) => check_any p wz h
              rw [HCK.out] at F2
              unfold Prod.agg Prod.cells at F2
              rw [HPL.out] at F2
              clear c1 HCK
              obtain ⟨b0, b1, b2, b3, b4, b5, b6, b7, b8, b9, b10⟩ := HPC.out
              rw [HPL.out] at b1
              go_wp2_with fail
              refine (F2.out _ HPV.out).mono ?_
              rintro e w3 ⟨rfl, hb3⟩
              have HB3 := Lib.hid (HB.out.trans (hb3.mono HB.out.size))
              clear b0 b1 b2 b3 b4 b5 b6 b7 b8 b9 b10 hb3 HPC HPV HLT HB
              go_wp2_with fail
              refine (known5_any _).mono ?_
              rintro e w4 ⟨rfl, hb4⟩
              have HB4 := Lib.hid (HB1.out.trans ((HB3.out.trans (hb4.mono HB3.out.size)).mono HB1.out.size))
              clear hb4 HB3
              go_wp2_with fail
              go_ret
              exact ⟨by trivial, HB4.out⟩
            -- SHORT)
            · have HLP : Hid (LimP (limP M (List.replicate j lo) T lo (lo + bw) bw ma mc sa sc)) := Lib.hid (by
                have := lim_all (M := M) (T := T) (lo := lo) (bw := bw) HR.out (by rw [HM.out]; omega) (by rw [HM.out]; omega) hTb DLO.out DBW.out hlb ⟨hbb.1, hbb.2.1⟩ ma mc sa sc
                rw [HM.out] at this
                exact this)
              have HMR : Hid (RowI wn w1.heap.size 3 (.slice ma (limP M (List.replicate j lo) T lo (lo + bw) bw ma mc sa sc).months.length mc) M) := Lib.hid (by rw [HPL.out]; exact HS.out)
              have HSR : Hid (RowI wn w1.heap.size 2 (.slice sa (limP M (List.replicate j lo) T lo (lo + bw) bw ma mc sa sc).settle.length sc) (limP M (List.replicate j lo) T lo (lo + bw) bw ma mc sa sc).settle) := Lib.hid (by unfold limP; simp only [List.length_replicate]; exact HT.out)
              have HBL : Hid (Blk wn w1.heap.size 25 (limP M (List.replicate j lo) T lo (lo + bw) bw ma mc sa sc).cells) := Lib.hid (by unfold limP Prod.cells; simp only [HM.out, List.length_replicate]; exact HP.out)
              clear HP HS HT HR HM c1
              obtain ⟨p, hp⟩ : ∃ p, p = limP M (List.replicate j lo) T lo (lo + bw) bw ma mc sa sc := ⟨_, rfl⟩
              have hpa : p.sa = sa := by rw [hp]; rfl
              have hpc : p.sc = sc := by rw [hp]; rfl
              have hps : p.settle = List.replicate j lo := by rw [hp]; rfl
              have hpm : p.months = M := by rw [hp]; rfl
              have hpx : p.ma = ma := by rw [hp]; rfl
              have hpy : p.mc = mc := by rw [hp]; rfl
              rw [← hp] at HPV HPC HPL HLP HMR HSR HBL
              rw [← hpa, ← hpc] at HSR
              rw [← hpx, ← hpy, ← hpm] at HMR
              clear hp hpa hpc hps hpm hpx hpy
              obtain ⟨q, hq⟩ : ∃ q : Prod, q = { p with wide := p.wide + p.tick } := ⟨_, rfl⟩
              have HQ := Lib.hid hq
              clear hq
              have hwd := HLP.out.wide
              have hhi := HLP.out.high
              have F2 := Lib.hid fun wz (h : PV wz p) => check_any p wz h
              rw [HLP.out.check] at F2
              unfold Prod.agg Prod.cells at F2
              rw [HPL.out] at F2
              obtain ⟨b0, b1, b2, b3, b4, b5, b6, b7, b8, b9, b10⟩ := HPC.out
              rw [HPL.out] at b1
              go_wp2_with fail
              refine (F2.out _ HPV.out).mono ?_
              rintro e w3 ⟨rfl, hb3⟩
              have HB3 := Lib.hid (HB.out.trans (hb3.mono HB.out.size))
              have HPC3 := Lib.hid (HPC.out.below hb3 HLT.out)
              have HMR3 : Hid (RowI w3 w1.heap.size 3 (.slice p.ma p.months.length p.mc) p.months) := Lib.hid (own_below HMR.out hb3)
              have HSR3 : Hid (RowI w3 w1.heap.size 2 (.slice p.sa p.settle.length p.sc) p.settle) := Lib.hid (own_below HSR.out hb3)
              have HBL3 : Hid (Blk w3 w1.heap.size 25 p.cells) := Lib.hid (HBL.out.keeps (Below.keeps (F := fun _ => False) hb3) (fun x => x))
              have hcode := HPV.out.code
              have hpml := HPV.out.mlen
              have hpsl := HPV.out.slen
              have HPT := Lib.hid (⟨HPV.out.tick, HPV.out.low, HPV.out.high, HPV.out.wide⟩ : i64ok p.tick ∧ i64ok p.low ∧ i64ok p.high ∧ i64ok p.wide)
              have HOK := Lib.hid (ints_ok HPV.out.set_)
              have HOM := Lib.hid (ints_ok HPV.out.mon)
              clear b0 b1 b2 b3 b4 b5 b6 b7 b8 b9 b10 hb3 HPC HPV HLT HB HMR HSR HBL F2
              obtain ⟨b0, b1, b2, b3, b4, b5, b6, b7, b8, b9, b10⟩ := HPC3.out
              go_upto_region 23 with (fail)
              have hq4 : Blk (w3.alloc (.cells #[.string p.code, .slice p.ma p.months.length p.mc, .int .i64 p.tick, .int .i64 p.low, .int .i64 p.high, .int .i64 p.wide, .int .i64 p.rule, .int .i64 p.top, .int .i64 p.least, .int .i64 p.part, .slice p.sa p.settle.length p.sc] 25)) w3.heap.size 25 p.cells := Blk.new _ _ _
              have hp4 : Blk (w3.alloc (.cells #[.string p.code, .slice p.ma p.months.length p.mc, .int .i64 p.tick, .int .i64 p.low, .int .i64 p.high, .int .i64 p.wide, .int .i64 p.rule, .int .i64 p.top, .int .i64 p.least, .int .i64 p.part, .slice p.sa p.settle.length p.sc] 25)) w1.heap.size 25 p.cells := HBL3.out.alloc _
              have hm4 : RowI (w3.alloc (.cells #[.string p.code, .slice p.ma p.months.length p.mc, .int .i64 p.tick, .int .i64 p.low, .int .i64 p.high, .int .i64 p.wide, .int .i64 p.rule, .int .i64 p.top, .int .i64 p.least, .int .i64 p.part, .slice p.sa p.settle.length p.sc] 25)) w1.heap.size 3 (.slice p.ma p.months.length p.mc) p.months := own_below HMR3.out (Below.allocN _ _)
              have hs4 : RowI (w3.alloc (.cells #[.string p.code, .slice p.ma p.months.length p.mc, .int .i64 p.tick, .int .i64 p.low, .int .i64 p.high, .int .i64 p.wide, .int .i64 p.rule, .int .i64 p.top, .int .i64 p.least, .int .i64 p.part, .slice p.sa p.settle.length p.sc] 25)) w1.heap.size 2 (.slice p.sa p.settle.length p.sc) p.settle := own_below HSR3.out (Below.allocN _ _)
              have hb4 : Below w1.heap.size w1 (w3.alloc (.cells #[.string p.code, .slice p.ma p.months.length p.mc, .int .i64 p.tick, .int .i64 p.low, .int .i64 p.high, .int .i64 p.wide, .int .i64 p.rule, .int .i64 p.top, .int .i64 p.least, .int .i64 p.part, .slice p.sa p.settle.length p.sc] 25)) := HB3.out.trans ((Below.allocN _ _).mono HB3.out.size)
              have hlt3 : w1.heap.size < w3.heap.size := HBL3.out.lt
              clear b0 b1 b2 b3 b4 b5 b6 b7 b8 b9 b10 HPC3 HB3 HMR3 HSR3 HBL3
              unfold Prod.cells at hq4 hp4
              generalize (w3.alloc (.cells #[.string p.code, .slice p.ma p.months.length p.mc, .int .i64 p.tick, .int .i64 p.low, .int .i64 p.high, .int .i64 p.wide, .int .i64 p.rule, .int .i64 p.top, .int .i64 p.least, .int .i64 p.part, .slice p.sa p.settle.length p.sc] 25)) = w4 at *
              have c2 : w4.cell? ⟨w1.heap.size, 2, none⟩ = some (.int .i64 p.tick) := by rw [hp4.cell]; rfl
              have c5 : w4.cell? ⟨w1.heap.size, 5, none⟩ = some (.int .i64 p.wide) := by rw [hp4.cell]; rfl
              have q5 : w4.cell? ⟨w3.heap.size, 5, none⟩ = some (.int .i64 p.wide) := by rw [hq4.cell]; rfl
              have f5 : w4.frozen? ⟨w3.heap.size, 5, none⟩ = false := hq4.frozen 5
              have y7 : IntKind.i64.wrap (p.wide + p.tick) = p.wide + p.tick := IntWalk.i64_in _ (by omega)
              have HP4 := Lib.hid hp4
              have HQ4 := Lib.hid hq4
              have HM4 := Lib.hid hm4
              have HS4 := Lib.hid hs4
              have HB4 := Lib.hid hb4
              clear hp4 hq4 hm4 hs4 hb4
              go_upto_region 24 with (fail)
              have hk5 : Keeps (fun g => g = w3.heap.size) w4 (w4.setCell ⟨w3.heap.size, 5, none⟩ (.int .i64 (p.wide + p.tick))) := (Keeps.refl (fun g => g = w3.heap.size) w4).setCell (p := ⟨w3.heap.size, 5, none⟩) (fun _ => rfl) _
              have hq5 : Blk (w4.setCell ⟨w3.heap.size, 5, none⟩ (.int .i64 (p.wide + p.tick))) w3.heap.size 25 q.cells := by rw [HQ.out]; exact HQ4.out.set_ 5 (.int .i64 (p.wide + p.tick))
              have hp5 : Blk (w4.setCell ⟨w3.heap.size, 5, none⟩ (.int .i64 (p.wide + p.tick))) w1.heap.size 25 p.cells := HP4.out.keeps hk5 (by show ¬ w1.heap.size = w3.heap.size; omega)
              have hm5 : RowI (w4.setCell ⟨w3.heap.size, 5, none⟩ (.int .i64 (p.wide + p.tick))) w1.heap.size 3 (.slice p.ma p.months.length p.mc) p.months := store_own HM4.out HQ4.out (by decide) 5 _
              have hs5 : RowI (w4.setCell ⟨w3.heap.size, 5, none⟩ (.int .i64 (p.wide + p.tick))) w1.heap.size 2 (.slice p.sa p.settle.length p.sc) p.settle := store_own HS4.out HQ4.out (by decide) 5 _
              have hb5 : Below w1.heap.size w1 (w4.setCell ⟨w3.heap.size, 5, none⟩ (.int .i64 (p.wide + p.tick))) := HB4.out.trans (hk5.below (fun g hg => by have hg' : g = w3.heap.size := hg; omega) HB4.out.size)
              clear hk5 HP4 HQ4 HM4 HS4 HB4 c2 c5 q5 f5 y7
              generalize w4.setCell ⟨w3.heap.size, 5, none⟩ (.int .i64 (p.wide + p.tick)) = w5 at *
              have HP5 := Lib.hid hp5
              have HQ5 := Lib.hid hq5
              have HM5 := Lib.hid hm5
              have HS5 := Lib.hid hs5
              have HB5 := Lib.hid hb5
              have HPC5 := Lib.hid (PC.of5 hp5)
              clear hp5 hq5 hm5 hs5 hb5
              obtain ⟨b0, b1, b2, b3, b4, b5, b6, b7, b8, b9, b10⟩ := HPC5.out
              go_upto_region 25 with (fail)
              have hr6 : Blk (w5.alloc (.cells #[.string p.code, .slice p.ma p.months.length p.mc, .int .i64 p.tick, .int .i64 p.low, .int .i64 p.high, .int .i64 p.wide, .int .i64 p.rule, .int .i64 p.top, .int .i64 p.least, .int .i64 p.part, .slice p.sa p.settle.length p.sc] 25)) w5.heap.size 25 p.cells := Blk.new _ _ _
              have hp6 : Blk (w5.alloc (.cells #[.string p.code, .slice p.ma p.months.length p.mc, .int .i64 p.tick, .int .i64 p.low, .int .i64 p.high, .int .i64 p.wide, .int .i64 p.rule, .int .i64 p.top, .int .i64 p.least, .int .i64 p.part, .slice p.sa p.settle.length p.sc] 25)) w1.heap.size 25 p.cells := HP5.out.alloc _
              have hq6 : Blk (w5.alloc (.cells #[.string p.code, .slice p.ma p.months.length p.mc, .int .i64 p.tick, .int .i64 p.low, .int .i64 p.high, .int .i64 p.wide, .int .i64 p.rule, .int .i64 p.top, .int .i64 p.least, .int .i64 p.part, .slice p.sa p.settle.length p.sc] 25)) w3.heap.size 25 q.cells := HQ5.out.alloc _
              have hm6 : RowI (w5.alloc (.cells #[.string p.code, .slice p.ma p.months.length p.mc, .int .i64 p.tick, .int .i64 p.low, .int .i64 p.high, .int .i64 p.wide, .int .i64 p.rule, .int .i64 p.top, .int .i64 p.least, .int .i64 p.part, .slice p.sa p.settle.length p.sc] 25)) w1.heap.size 3 (.slice p.ma p.months.length p.mc) p.months := own_below HM5.out (Below.allocN _ _)
              have hs6 : RowI (w5.alloc (.cells #[.string p.code, .slice p.ma p.months.length p.mc, .int .i64 p.tick, .int .i64 p.low, .int .i64 p.high, .int .i64 p.wide, .int .i64 p.rule, .int .i64 p.top, .int .i64 p.least, .int .i64 p.part, .slice p.sa p.settle.length p.sc] 25)) w1.heap.size 2 (.slice p.sa p.settle.length p.sc) p.settle := own_below HS5.out (Below.allocN _ _)
              have hb6 : Below w1.heap.size w1 (w5.alloc (.cells #[.string p.code, .slice p.ma p.months.length p.mc, .int .i64 p.tick, .int .i64 p.low, .int .i64 p.high, .int .i64 p.wide, .int .i64 p.rule, .int .i64 p.top, .int .i64 p.least, .int .i64 p.part, .slice p.sa p.settle.length p.sc] 25)) := HB5.out.trans ((Below.allocN _ _).mono HB5.out.size)
              have hlt5 : w3.heap.size < w5.heap.size := HQ5.out.lt
              clear b0 b1 b2 b3 b4 b5 b6 b7 b8 b9 b10 HPC5 HB5 HM5 HS5 HP5 HQ5
              unfold Prod.cells at hp6 hr6
              generalize (w5.alloc (.cells #[.string p.code, .slice p.ma p.months.length p.mc, .int .i64 p.tick, .int .i64 p.low, .int .i64 p.high, .int .i64 p.wide, .int .i64 p.rule, .int .i64 p.top, .int .i64 p.least, .int .i64 p.part, .slice p.sa p.settle.length p.sc] 25)) = w6 at *
              have c10 : w6.cell? ⟨w1.heap.size, 10, none⟩ = some (.slice p.sa p.settle.length p.sc) := by rw [hp6.cell]; rfl
              have r10 : w6.cell? ⟨w5.heap.size, 10, none⟩ = some (.slice p.sa p.settle.length p.sc) := by rw [hr6.cell]; rfl
              have HP6 := Lib.hid hp6
              have HQ6 := Lib.hid hq6
              have HR6 := Lib.hid hr6
              have HM6 := Lib.hid hm6
              have HS6 := Lib.hid hs6
              have HB6 := Lib.hid hb6
              clear hp6 hq6 hr6 hm6 hs6 hb6
              have hs0 : 0 < p.settle.length := by have := HLP.out.some_; omega
              have hs0' : (0 : Int) < (p.settle.length : Int) := by omega
              have hlt6 : w5.heap.size < w6.heap.size := HR6.out.lt
              have HLM := Lib.hid (own_lt HM6.out)
              have HLS := Lib.hid (own_lt HS6.out)
              have hown : RowI (w6.alloc (.cells #[] 2)) w6.heap.size 2 (.slice (some ⟨w6.heap.size, 0, none⟩) 0 0) [] := ⟨rfl, .inr ⟨w6.heap.size, 0, #[], rfl, Nat.le_refl _, Blk.new w6 2 #[], Nat.le_refl _, Nat.zero_le _, rfl, rfl⟩⟩
              have d10 : (w6.alloc (.cells #[] 2)).cell? ⟨w1.heap.size, 10, none⟩ = some (.slice p.sa p.settle.length p.sc) := by rw [(HP6.out.alloc _).cell]; rfl
              have HI6 := Lib.hid ((RowI.ints (own_below HS6.out (Below.allocN w6 (.cells #[] 2))) HOK.out))
              go_wp2_with (first
                | (at_builtin; refine append_row64 rfl (.tmp 104) (.tmp 106) rfl w6.heap.size w6.heap.size rfl hown p.sa p.sc p.settle rfl HI6.out hs0 hpsl (by rw [s1]; omega) ?_))
              intro g1 cap1 w7 hr7 hg7
              have hb7 : Below w6.heap.size w6 w7 := grown_below hg7 (Below.allocN w6 _) (fun g hg => by injection hg with hg; omega)
              have hk7 := Below.keeps (F := fun _ => False) hb7
              have hp7 := HP6.out.keeps hk7 (fun x => x)
              have hq7 := HQ6.out.keeps hk7 (fun x => x)
              have hrr7 := HR6.out.keeps hk7 (fun x => x)
              have hm7 : RowI w7 w1.heap.size 3 (.slice p.ma p.months.length p.mc) p.months := own_below HM6.out hb7
              have hs7 : RowI w7 w1.heap.size 2 (.slice p.sa p.settle.length p.sc) p.settle := own_below HS6.out hb7
              have e10 : w7.cell? ⟨w5.heap.size, 10, none⟩ = some (.slice p.sa p.settle.length p.sc) := by rw [hrr7.cell]; rfl
              have f10 : w7.frozen? ⟨w5.heap.size, 10, none⟩ = false := hrr7.frozen 10
              have hk8 : Keeps (fun g => g = w5.heap.size) w7 (w7.setCell ⟨w5.heap.size, 10, none⟩ (.slice (some ⟨g1, 0, none⟩) p.settle.length cap1)) := (Keeps.refl (fun g => g = w5.heap.size) w7).setCell (p := ⟨w5.heap.size, 10, none⟩) (fun _ => rfl) _
              have HP8 := Lib.hid (hp7.keeps hk8 (by show ¬ w1.heap.size = w5.heap.size; omega))
              have HQ8 := Lib.hid (hq7.keeps hk8 (by show ¬ w3.heap.size = w5.heap.size; omega))
              have HR8 : Hid (Blk (w7.setCell ⟨w5.heap.size, 10, none⟩ (.slice (some ⟨g1, 0, none⟩) p.settle.length cap1)) w5.heap.size 25 #[.string p.code, .slice p.ma p.months.length p.mc, .int .i64 p.tick, .int .i64 p.low, .int .i64 p.high, .int .i64 p.wide, .int .i64 p.rule, .int .i64 p.top, .int .i64 p.least, .int .i64 p.part, .slice (some ⟨g1, 0, none⟩) p.settle.length cap1]) := Lib.hid (hrr7.set_ 10 (.slice (some ⟨g1, 0, none⟩) p.settle.length cap1))
              have HG8 : Hid (RowI (w7.setCell ⟨w5.heap.size, 10, none⟩ (.slice (some ⟨g1, 0, none⟩) p.settle.length cap1)) w6.heap.size 2 (.slice (some ⟨g1, 0, none⟩) p.settle.length cap1) p.settle) := Lib.hid (store_own hr7 hrr7 (by decide) 10 _)
              have HM8 : Hid (RowI (w7.setCell ⟨w5.heap.size, 10, none⟩ (.slice (some ⟨g1, 0, none⟩) p.settle.length cap1)) w1.heap.size 3 (.slice p.ma p.months.length p.mc) p.months) := Lib.hid (store_own hm7 hrr7 (by decide) 10 _)
              have HS8 : Hid (RowI (w7.setCell ⟨w5.heap.size, 10, none⟩ (.slice (some ⟨g1, 0, none⟩) p.settle.length cap1)) w1.heap.size 2 (.slice p.sa p.settle.length p.sc) p.settle) := Lib.hid (store_own hs7 hrr7 (by decide) 10 _)
              have HB8 := Lib.hid (HB6.out.trans ((hb7.mono HB6.out.size).trans (hk8.below (fun g hg => by have hg' : g = w5.heap.size := hg; omega) (Nat.le_trans HB6.out.size hb7.size))))
              clear hr7 hg7 hb7 hk7 hp7 hq7 hrr7 hm7 hs7 hk8 c10 r10 d10 hown HI6 HP6 HQ6 HR6 HM6 HS6 HB6
              go_upto_region 26 with (fail)
              clear e10 f10
              generalize w7.setCell ⟨w5.heap.size, 10, none⟩ (.slice (some ⟨g1, 0, none⟩) p.settle.length cap1) = w8 at *
              have e2 : w8.cell? ⟨w1.heap.size, 2, none⟩ = some (.int .i64 p.tick) := by rw [HP8.out.cell]; rfl
              have e4 : w8.cell? ⟨w1.heap.size, 4, none⟩ = some (.int .i64 p.high) := by rw [HP8.out.cell]; rfl
              have e10 : w8.cell? ⟨w5.heap.size, 10, none⟩ = some (.slice (some ⟨g1, 0, none⟩) p.settle.length cap1) := by rw [HR8.out.cell]; rfl
              obtain ⟨⟨v0, hv0⟩, fv0, hg1, hg1b, hi9⟩ := HG8.out.set0 hs0 HOK.out (p.high + p.tick) (by unfold i64ok; omega)
              have y8 : IntKind.i64.wrap (p.high + p.tick) = p.high + p.tick := IntWalk.i64_in _ (by omega)
              have HI9 := Lib.hid hi9
              clear hi9
              go_upto_region 27 with (fail)
              have hk9 : Keeps (fun g => g = g1) w8 (w8.setCell ⟨g1, 0, none⟩ (.int .i64 (p.high + p.tick))) := (Keeps.refl (fun g => g = g1) w8).setCell (p := ⟨g1, 0, none⟩) (fun _ => rfl) _
              have hq9 := HQ8.out.keeps hk9 (by show ¬ w3.heap.size = g1; omega)
              have hr9 := HR8.out.keeps hk9 (by show ¬ w5.heap.size = g1; omega)
              have hm9 : RowI (w8.setCell ⟨g1, 0, none⟩ (.int .i64 (p.high + p.tick))) w1.heap.size 3 (.slice p.ma p.months.length p.mc) p.months := own_keep HM8.out hk9 (fun g hg h => by have h' : g = g1 := h; have := HLM.out g hg; omega)
              have hs9 : RowI (w8.setCell ⟨g1, 0, none⟩ (.int .i64 (p.high + p.tick))) w1.heap.size 2 (.slice p.sa p.settle.length p.sc) p.settle := own_keep HS8.out hk9 (fun g hg h => by have h' : g = g1 := h; have := HLS.out g hg; omega)
              have hb9 := HB8.out.trans (hk9.below (fun g hg => by have hg' : g = g1 := hg; have := HB8.out.size; omega) HB8.out.size)
              obtain ⟨r, hr⟩ : ∃ r : Prod, r = { p with settle := (p.high + p.tick) :: p.settle.tail, sa := some ⟨g1, 0, none⟩, sc := cap1 } := ⟨_, rfl⟩
              have hrl : ((p.high + p.tick) :: p.settle.tail).length = p.settle.length := by rw [List.length_cons, List.length_tail]; omega
              have HRC : Hid (PC (w8.setCell ⟨g1, 0, none⟩ (.int .i64 (p.high + p.tick))) w5.heap.size r) := Lib.hid (PC.of5 (by rw [hr]; unfold Prod.cells; simp only [hrl]; exact hr9))
              have HRV : Hid (PV (w8.setCell ⟨g1, 0, none⟩ (.int .i64 (p.high + p.tick))) r) := Lib.hid (by rw [hr]; exact ⟨hcode, hm9.ints HOM.out, HI9.out, hpml, by show ((p.high + p.tick) :: p.settle.tail).length ≤ 1000000; rw [hrl]; exact hpsl, HPT.out.1, HPT.out.2.1, HPT.out.2.2.1, HPT.out.2.2.2⟩)
              have HQC : Hid (PC (w8.setCell ⟨g1, 0, none⟩ (.int .i64 (p.high + p.tick))) w3.heap.size q) := Lib.hid (PC.of5 hq9)
              have HQV : Hid (PV (w8.setCell ⟨g1, 0, none⟩ (.int .i64 (p.high + p.tick))) q) := Lib.hid (by rw [HQ.out]; exact ⟨hcode, hm9.ints HOM.out, hs9.ints HOK.out, hpml, hpsl, HPT.out.1, HPT.out.2.1, HPT.out.2.2.1, by unfold i64ok; simp only; omega⟩)
              have HLQ : Hid (w3.heap.size < (w8.setCell ⟨g1, 0, none⟩ (.int .i64 (p.high + p.tick))).heap.size) := Lib.hid hq9.lt
              have HLR : Hid (w5.heap.size < (w8.setCell ⟨g1, 0, none⟩ (.int .i64 (p.high + p.tick))).heap.size) := Lib.hid hr9.lt
              have HB9 := Lib.hid hb9
              have F4 := Lib.hid fun wz (h : PV wz r) => check_any r wz h
              have F5 := Lib.hid fun wz (h : PV wz q) => count_inst_any q wz h
              have hc0 : countP q = 0 := by unfold countP; rw [HQ.out, HLP.out.q]; rfl
              have hc1 : checkP r = 1 := by rw [hr]; exact HLP.out.r _ _
              have hc2 : checkP q = 23 := by rw [HQ.out]; exact HLP.out.q
              have F3 := Lib.hid fun wz (h : PV wz q) => check_any q wz h
              rw [hc0] at F5
              rw [hc1] at F4
              rw [hc2] at F3
              unfold Prod.agg Prod.cells at F3 F4 F5
              clear hk9 hq9 hr9 hm9 hs9 hb9 hr hrl e2 e4 e10 hv0 fv0 y8 HI9 HP8 HQ8 HR8 HG8 HM8 HS8 HB8 hc0 hc1 hc2 hs0 hs0' HLM HLS
              generalize w8.setCell ⟨g1, 0, none⟩ (.int .i64 (p.high + p.tick)) = w9 at *
              obtain ⟨b0, b1, b2, b3, b4, b5, b6, b7, b8, b9, b10⟩ := HQC.out
              go_wp2_with fail
              refine (F3.out _ HQV.out).mono ?_
              rintro e wa1 ⟨rfl, hba⟩
              have HRCa := Lib.hid (HRC.out.below hba HLR.out)
              have HRVa := Lib.hid (HRV.out.below hba)
              have HQCa := Lib.hid (HQC.out.below hba HLQ.out)
              have HQVa := Lib.hid (HQV.out.below hba)
              have HLQa : Hid (w3.heap.size < wa1.heap.size) := Lib.hid (Nat.lt_of_lt_of_le HLQ.out hba.size)
              have HBa := Lib.hid (HB9.out.trans (hba.mono HB9.out.size))
              clear b0 b1 b2 b3 b4 b5 b6 b7 b8 b9 b10 hba HRC HRV HQC HQV HLQ HLR HB9
              obtain ⟨b0, b1, b2, b3, b4, b5, b6, b7, b8, b9, b10⟩ := HRCa.out
              go_wp2_with fail
              refine (F4.out _ HRVa.out).mono ?_
              rintro e wa2 ⟨rfl, hba⟩
              have HQCb := Lib.hid (HQCa.out.below hba HLQa.out)
              have HQVb := Lib.hid (HQVa.out.below hba)
              have HBb := Lib.hid (HBa.out.trans (hba.mono HBa.out.size))
              clear b0 b1 b2 b3 b4 b5 b6 b7 b8 b9 b10 hba HRCa HRVa HQCa HQVa HLQa HBa
              obtain ⟨b0, b1, b2, b3, b4, b5, b6, b7, b8, b9, b10⟩ := HQCb.out
              go_wp2_with fail
              refine (F5.out _ HQVb.out).mono ?_
              rintro e wa3 ⟨rfl, hba⟩
              have HBc := Lib.hid (HBb.out.trans (hba.mono HBb.out.size))
              clear b0 b1 b2 b3 b4 b5 b6 b7 b8 b9 b10 hba HQCb HQVb HBb
              go_wp2_with fail
              refine (known5_any _).mono ?_
              rintro e wa4 ⟨rfl, hba⟩
              have HBd := Lib.hid (HB1.out.trans ((HBc.out.trans (hba.mono HBc.out.size)).mono HB1.out.size))
              clear hba HBc
              go_wp2_with fail
              go_ret
              exact ⟨by trivial, HBd.out⟩
      · have c2 : wo.cell? ⟨w1.heap.size, 2, none⟩ = some (.int .i64 5) := by rw [HP.out.cell]; rfl
        have f2 : wo.frozen? ⟨w1.heap.size, 2, none⟩ = false := HP.out.frozen 2
        have y1 : IntKind.i64.wrap (1 + vt) = T := by rw [HTT.out]; exact IntWalk.i64_in _ (by omega)
        go_wp2_with fail
        refine (HWT.out _).mono ?_
        rintro e w5 ⟨rfl, rfl⟩
        go_wp2_with fail
        have hk2 : Keeps (fun g => g = w1.heap.size) wo (wo.setCell ⟨w1.heap.size, 2, none⟩ (.int .i64 T)) := (Keeps.refl (fun g => g = w1.heap.size) wo).setCell (p := ⟨w1.heap.size, 2, none⟩) (fun _ => rfl) _
        have hp2 : Blk (wo.setCell ⟨w1.heap.size, 2, none⟩ (.int .i64 T)) w1.heap.size 25 (lc T 0 1000 200 ma k mc none 0 0) := HP.out.set_ 2 (.int .i64 T)
        have hs2 : RowI (wo.setCell ⟨w1.heap.size, 2, none⟩ (.int .i64 T)) w1.heap.size 3 (.slice ma k mc) M := store_own HS.out HP.out (by decide) 2 _
        have hb2 := HB.out.trans (hk2.below (fun g hg => by have hg' : g = w1.heap.size := hg; omega) HB.out.size)
        clear c2 f2 y1 hk2
        generalize wo.setCell ⟨w1.heap.size, 2, none⟩ (.int .i64 T) = wb at *
        have HP2 := Lib.hid hp2
        have HS2 := Lib.hid hs2
        have HB2 := Lib.hid hb2
        clear hp2 hs2 hb2
        obtain ⟨lo, hlo⟩ : ∃ lo : Int, T * (-vl) = lo := ⟨_, rfl⟩
        have hlm := mul_bd hTb.1 (i := -vl) (a := -900) (b := 0) (by omega) (by omega)
        have hlb : -900000 ≤ lo ∧ lo ≤ 0 := by omega
        have dlo : T ∣ lo := ⟨_, hlo.symm⟩
        have y3 : IntKind.i64.wrap (-vl) = -vl := IntWalk.i64_in _ (by omega)
        have y4 : IntKind.i64.wrap (T * -vl) = lo := by rw [hlo]; exact IntWalk.i64_in _ (by omega)
        have c2 : wb.cell? ⟨w1.heap.size, 2, none⟩ = some (.int .i64 T) := by rw [HP2.out.cell]; rfl
        have c3 : wb.cell? ⟨w1.heap.size, 3, none⟩ = some (.int .i64 0) := by rw [HP2.out.cell]; rfl
        have f3 : wb.frozen? ⟨w1.heap.size, 3, none⟩ = false := HP2.out.frozen 3
        have DLO := Lib.hid dlo
        clear hlo dlo
        refine wp_region_E (S := fun w' => w'.cell? ⟨w1.heap.size, 2, none⟩ = some (.int .i64 T)) (by kernel_rfl) c2 (fun hHeld => ?_)
        refine wpE_take (i := 0) (oi := ?oi16) (v := ?v16) ?hi16 (by kernel_rfl) (by kernel_rfl) (by kernel_rfl) (by kernel_rfl) ?hQ16 ?hy16 (by assumption) ?rest16
        case hi16 => (simp only [List.getElem?_toArray, List.getElem?_cons_zero]; rfl)
        case hQ16 => exact fun _ _ _ h => h
        case hy16 => exact Or.inl ⟨by rfl, by (intro w hSw; (try dsimp only at hSw); go_simp; try with_reducible rfl)⟩
        try simp only [Act.put, List.setIfInBounds_toArray, List.set_cons_zero, List.set_cons_succ]
        refine wpE_take (i := 1) (oi := ?oi17) (v := ?v17) ?hi17 (by kernel_rfl) (by kernel_rfl) (by kernel_rfl) (by kernel_rfl) ?hQ17 ?hy17 (by assumption) ?rest17
        case hi17 => (simp only [List.getElem?_toArray, List.getElem?_cons_succ, List.getElem?_cons_zero]; rfl)
        case hQ17 => exact fun _ _ _ h => h
        case hy17 => exact Or.inl ⟨by rfl, by (intro w hSw; (try dsimp only at hSw); go_simp; try with_reducible rfl)⟩
        try simp only [Act.put, List.setIfInBounds_toArray, List.set_cons_zero, List.set_cons_succ]
        refine wpE_take (i := 2) (oi := ?oi18) (v := ?v18) ?hi18 (by kernel_rfl) (by kernel_rfl) (by kernel_rfl) (by kernel_rfl) ?hQ18 ?hy18 (by assumption) ?rest18
        case hi18 => (simp only [List.getElem?_toArray, List.getElem?_cons_succ, List.getElem?_cons_zero]; rfl)
        case hQ18 => exact fun _ _ _ h => h
        case hy18 => exact Or.inl ⟨by rfl, by (intro w hSw; (try dsimp only at hSw); go_simp; try with_reducible rfl)⟩
        try simp only [Act.put, List.setIfInBounds_toArray, List.set_cons_zero, List.set_cons_succ]
        refine wpE_one (i := 3) (o := ?o33) ?ho33 (by kernel_rfl) (fun K hK => ?_)
        case ho33 => (simp only [List.getElem?_toArray, List.getElem?_cons_succ, List.getElem?_cons_zero]; rfl)
        go_simp
        go_at_call 13
        refine (HWL.out _).mono ?_
        rintro e w5 ⟨rfl, rfl⟩
        refine hK.out _ _ c2 (fun hHeld => ?_)
        clear hK K
        refine wpE_take (i := 4) (oi := ?oi19) (v := ?v19) ?hi19 (by kernel_rfl) (by kernel_rfl) (by kernel_rfl) (by kernel_rfl) ?hQ19 ?hy19 (by assumption) ?rest19
        case hi19 => (simp only [List.getElem?_toArray, List.getElem?_cons_succ, List.getElem?_cons_zero]; rfl)
        case hQ19 => exact fun _ _ _ h => h
        case hy19 => exact Or.inl ⟨by rfl, by (intro w hSw; (try dsimp only at hSw); go_simp; try with_reducible rfl)⟩
        try simp only [Act.put, List.setIfInBounds_toArray, List.set_cons_zero, List.set_cons_succ]
        refine wpE_take (i := 5) (oi := ?oi20) (v := ?v20) ?hi20 (by kernel_rfl) (by kernel_rfl) (by kernel_rfl) (by kernel_rfl) ?hQ20 ?hy20 (by assumption) ?rest20
        case hi20 => (simp only [List.getElem?_toArray, List.getElem?_cons_succ, List.getElem?_cons_zero]; rfl)
        case hQ20 => exact fun _ _ _ h => h
        case hy20 => exact Or.inl ⟨by rfl, by (intro w hSw; (try dsimp only at hSw); go_simp; try with_reducible rfl)⟩
        try simp only [Act.put, List.setIfInBounds_toArray, List.set_cons_zero, List.set_cons_succ]
        refine wpE_take (i := 6) (oi := ?oi21) (v := ?v21) ?hi21 (by kernel_rfl) (by kernel_rfl) (by kernel_rfl) (by kernel_rfl) ?hQ21 ?hy21 (by assumption) ?rest21
        case hi21 => (simp only [List.getElem?_toArray, List.getElem?_cons_succ, List.getElem?_cons_zero]; rfl)
        case hQ21 => exact fun _ _ _ h => h
        case hy21 => exact Or.inl ⟨by rfl, by (intro w hSw; (try dsimp only at hSw); go_simp; try with_reducible rfl)⟩
        try simp only [Act.put, List.setIfInBounds_toArray, List.set_cons_zero, List.set_cons_succ]
        refine wpE_last (i := 7) (o := ?o37) ?ho37 (by kernel_rfl) (by kernel_rfl) (by kernel_rfl) (fun K hK => ?_)
        case ho37 => (simp only [List.getElem?_toArray, List.getElem?_cons_succ, List.getElem?_cons_zero]; rfl)
        go_simp
        refine hK.out _ _ ?_
        clear hK K hHeld
        clear y3 y4 c2 c3 f3
        have hk3 : Keeps (fun g => g = w1.heap.size) wb (wb.setCell ⟨w1.heap.size, 3, none⟩ (.int .i64 lo)).drew := ((Keeps.refl (fun g => g = w1.heap.size) wb).setCell (p := ⟨w1.heap.size, 3, none⟩) (fun _ => rfl) _).drew
        have hp3 : Blk (wb.setCell ⟨w1.heap.size, 3, none⟩ (.int .i64 lo)).drew w1.heap.size 25 (lc T lo 1000 200 ma k mc none 0 0) := HP2.out.set_ 3 (.int .i64 lo)
        have hs3 : RowI (wb.setCell ⟨w1.heap.size, 3, none⟩ (.int .i64 lo)).drew w1.heap.size 3 (.slice ma k mc) M := own_below (store_own HS2.out HP2.out (by decide) 3 _) (Below.drewN_of _ 1)
        have hb3 := HB2.out.trans (hk3.below (fun g hg => by have hg' : g = w1.heap.size := hg; omega) HB2.out.size)
        clear hk3 HP2 HS2 HB2
        generalize (wb.setCell ⟨w1.heap.size, 3, none⟩ (.int .i64 lo)).drew = wc at *
        have HP3 := Lib.hid hp3
        have HS3 := Lib.hid hs3
        have HB3 := Lib.hid hb3
        clear hp3 hs3 hb3
        obtain ⟨v, hv⟩ : ∃ v : Int, 1 + vw = v := ⟨_, rfl⟩
        have hvb : 1 ≤ v ∧ v ≤ 91 := by omega
        obtain ⟨bw, hbw⟩ : ∃ bw : Int, T * v = bw := ⟨_, rfl⟩
        have hbm := mul_bd hTb.1 (i := v) (a := 1) (b := 91) (by omega) (by omega)
        have hbb : 1 ≤ bw ∧ bw ≤ 91000 ∧ T ≤ bw := by omega
        have DBW : Hid (T ∣ bw) := Lib.hid ⟨_, hbw.symm⟩
        have y3 : IntKind.i64.wrap (1 + vw) = v := by rw [hv]; exact IntWalk.i64_in _ (by omega)
        have y4 : IntKind.i64.wrap (T * v) = bw := by rw [hbw]; exact IntWalk.i64_in _ (by omega)
        have y5 : IntKind.i64.wrap (lo + bw) = lo + bw := IntWalk.i64_in _ (by omega)
        have c2 : wc.cell? ⟨w1.heap.size, 2, none⟩ = some (.int .i64 T) := by rw [HP3.out.cell]; rfl
        have c3 : wc.cell? ⟨w1.heap.size, 3, none⟩ = some (.int .i64 lo) := by rw [HP3.out.cell]; rfl
        have c4 : wc.cell? ⟨w1.heap.size, 4, none⟩ = some (.int .i64 1000) := by rw [HP3.out.cell]; rfl
        have f4 : wc.frozen? ⟨w1.heap.size, 4, none⟩ = false := HP3.out.frozen 4
        clear hv hbw hlm hbm
        go_wp2_with fail
        refine wp_region_E (S := fun w' => w'.cell? ⟨w1.heap.size, 2, none⟩ = some (.int .i64 T) ∧ w'.cell? ⟨w1.heap.size, 3, none⟩ = some (.int .i64 lo)) (by kernel_rfl) ⟨c2, c3⟩ (fun hHeld => ?_)
        refine wpE_take (i := 0) (oi := ?oi22) (v := ?v22) ?hi22 (by kernel_rfl) (by kernel_rfl) (by kernel_rfl) (by kernel_rfl) ?hQ22 ?hy22 (by assumption) ?rest22
        case hi22 => (simp only [List.getElem?_toArray, List.getElem?_cons_zero]; rfl)
        case hQ22 => exact fun _ _ _ h => h
        case hy22 => exact Or.inl ⟨by rfl, by (intro w hSw; (try dsimp only at hSw); go_simp; try with_reducible rfl)⟩
        try simp only [Act.put, List.setIfInBounds_toArray, List.set_cons_zero, List.set_cons_succ]
        refine wpE_take (i := 1) (oi := ?oi23) (v := ?v23) ?hi23 (by kernel_rfl) (by kernel_rfl) (by kernel_rfl) (by kernel_rfl) ?hQ23 ?hy23 (by assumption) ?rest23
        case hi23 => (simp only [List.getElem?_toArray, List.getElem?_cons_succ, List.getElem?_cons_zero]; rfl)
        case hQ23 => exact fun _ _ _ h => h
        case hy23 => exact Or.inl ⟨by rfl, by (intro w hSw; (try dsimp only at hSw); go_simp; try with_reducible rfl)⟩
        try simp only [Act.put, List.setIfInBounds_toArray, List.set_cons_zero, List.set_cons_succ]
        refine wpE_take (i := 2) (oi := ?oi24) (v := ?v24) ?hi24 (by kernel_rfl) (by kernel_rfl) (by kernel_rfl) (by kernel_rfl) ?hQ24 ?hy24 (by assumption) ?rest24
        case hi24 => (simp only [List.getElem?_toArray, List.getElem?_cons_succ, List.getElem?_cons_zero]; rfl)
        case hQ24 => exact fun _ _ _ h => h
        case hy24 => exact Or.inl ⟨by rfl, by (intro w hSw; (try dsimp only at hSw); go_simp; try with_reducible rfl)⟩
        try simp only [Act.put, List.setIfInBounds_toArray, List.set_cons_zero, List.set_cons_succ]
        refine wpE_take (i := 3) (oi := ?oi25) (v := ?v25) ?hi25 (by kernel_rfl) (by kernel_rfl) (by kernel_rfl) (by kernel_rfl) ?hQ25 ?hy25 (by assumption) ?rest25
        case hi25 => (simp only [List.getElem?_toArray, List.getElem?_cons_succ, List.getElem?_cons_zero]; rfl)
        case hQ25 => exact fun _ _ _ h => h
        case hy25 => exact Or.inl ⟨by rfl, by (intro w hSw; (try dsimp only at hSw); go_simp; try with_reducible rfl)⟩
        try simp only [Act.put, List.setIfInBounds_toArray, List.set_cons_zero, List.set_cons_succ]
        refine wpE_take (i := 4) (oi := ?oi26) (v := ?v26) ?hi26 (by kernel_rfl) (by kernel_rfl) (by kernel_rfl) (by kernel_rfl) ?hQ26 ?hy26 (by assumption) ?rest26
        case hi26 => (simp only [List.getElem?_toArray, List.getElem?_cons_succ, List.getElem?_cons_zero]; rfl)
        case hQ26 => exact fun _ _ _ h => h
        case hy26 => exact Or.inl ⟨by rfl, by (intro w hSw; (try dsimp only at hSw); go_simp; try with_reducible rfl)⟩
        try simp only [Act.put, List.setIfInBounds_toArray, List.set_cons_zero, List.set_cons_succ]
        refine wpE_one (i := 5) (o := ?o34) ?ho34 (by kernel_rfl) (fun K hK => ?_)
        case ho34 => (simp only [List.getElem?_toArray, List.getElem?_cons_succ, List.getElem?_cons_zero]; rfl)
        go_simp
        go_at_call 13
        refine (HWW.out _).mono ?_
        rintro e w5 ⟨rfl, rfl⟩
        refine hK.out _ _ ⟨c2, c3⟩ (fun hHeld => ?_)
        clear hK K
        refine wpE_take (i := 6) (oi := ?oi27) (v := ?v27) ?hi27 (by kernel_rfl) (by kernel_rfl) (by kernel_rfl) (by kernel_rfl) ?hQ27 ?hy27 (by assumption) ?rest27
        case hi27 => (simp only [List.getElem?_toArray, List.getElem?_cons_succ, List.getElem?_cons_zero]; rfl)
        case hQ27 => exact fun _ _ _ h => h
        case hy27 => exact Or.inl ⟨by rfl, by (intro w hSw; (try dsimp only at hSw); go_simp; try with_reducible rfl)⟩
        try simp only [Act.put, List.setIfInBounds_toArray, List.set_cons_zero, List.set_cons_succ]
        refine wpE_take (i := 7) (oi := ?oi28) (v := ?v28) ?hi28 (by kernel_rfl) (by kernel_rfl) (by kernel_rfl) (by kernel_rfl) ?hQ28 ?hy28 (by assumption) ?rest28
        case hi28 => (simp only [List.getElem?_toArray, List.getElem?_cons_succ, List.getElem?_cons_zero]; rfl)
        case hQ28 => exact fun _ _ _ h => h
        case hy28 => exact Or.inl ⟨by rfl, by (intro w hSw; (try dsimp only at hSw); go_simp; try with_reducible rfl)⟩
        try simp only [Act.put, List.setIfInBounds_toArray, List.set_cons_zero, List.set_cons_succ]
        refine wpE_take (i := 8) (oi := ?oi29) (v := ?v29) ?hi29 (by kernel_rfl) (by kernel_rfl) (by kernel_rfl) (by kernel_rfl) ?hQ29 ?hy29 (by assumption) ?rest29
        case hi29 => (simp only [List.getElem?_toArray, List.getElem?_cons_succ, List.getElem?_cons_zero]; rfl)
        case hQ29 => exact fun _ _ _ h => h
        case hy29 => exact Or.inl ⟨by rfl, by (intro w hSw; (try dsimp only at hSw); go_simp; try with_reducible rfl)⟩
        try simp only [Act.put, List.setIfInBounds_toArray, List.set_cons_zero, List.set_cons_succ]
        refine wpE_take (i := 9) (oi := ?oi30) (v := ?v30) ?hi30 (by kernel_rfl) (by kernel_rfl) (by kernel_rfl) (by kernel_rfl) ?hQ30 ?hy30 (by assumption) ?rest30
        case hi30 => (simp only [List.getElem?_toArray, List.getElem?_cons_succ, List.getElem?_cons_zero]; rfl)
        case hQ30 => exact fun _ _ _ h => h
        case hy30 => exact Or.inl ⟨by rfl, by (intro w hSw; (try dsimp only at hSw); go_simp; try with_reducible rfl)⟩
        try simp only [Act.put, List.setIfInBounds_toArray, List.set_cons_zero, List.set_cons_succ]
        refine wpE_last (i := 10) (o := ?o38) ?ho38 (by kernel_rfl) (by kernel_rfl) (by kernel_rfl) (fun K hK => ?_)
        case ho38 => (simp only [List.getElem?_toArray, List.getElem?_cons_succ, List.getElem?_cons_zero]; rfl)
        go_simp
        refine hK.out _ _ ?_
        clear hK K hHeld
        clear y3 y4 y5 c2 c3 c4 f4
        have hk4 : Keeps (fun g => g = w1.heap.size) wc (wc.setCell ⟨w1.heap.size, 4, none⟩ (.int .i64 (lo + bw))).drew := ((Keeps.refl (fun g => g = w1.heap.size) wc).setCell (p := ⟨w1.heap.size, 4, none⟩) (fun _ => rfl) _).drew
        have hp4 : Blk (wc.setCell ⟨w1.heap.size, 4, none⟩ (.int .i64 (lo + bw))).drew w1.heap.size 25 (lc T lo (lo + bw) 200 ma k mc none 0 0) := HP3.out.set_ 4 (.int .i64 (lo + bw))
        have hs4 : RowI (wc.setCell ⟨w1.heap.size, 4, none⟩ (.int .i64 (lo + bw))).drew w1.heap.size 3 (.slice ma k mc) M := own_below (store_own HS3.out HP3.out (by decide) 4 _) (Below.drewN_of _ 1)
        have hb4 := HB3.out.trans (hk4.below (fun g hg => by have hg' : g = w1.heap.size := hg; omega) HB3.out.size)
        clear hk4 HP3 HS3 HB3
        generalize (wc.setCell ⟨w1.heap.size, 4, none⟩ (.int .i64 (lo + bw))).drew = wd at *
        have HP4 := Lib.hid hp4
        have HS4 := Lib.hid hs4
        have HB4 := Lib.hid hb4
        clear hp4 hs4 hb4
        have c3 : wd.cell? ⟨w1.heap.size, 3, none⟩ = some (.int .i64 lo) := by rw [HP4.out.cell]; rfl
        have c4 : wd.cell? ⟨w1.heap.size, 4, none⟩ = some (.int .i64 (lo + bw)) := by rw [HP4.out.cell]; rfl
        have c5 : wd.cell? ⟨w1.heap.size, 5, none⟩ = some (.int .i64 200) := by rw [HP4.out.cell]; rfl
        have f5 : wd.frozen? ⟨w1.heap.size, 5, none⟩ = false := HP4.out.frozen 5
        have y6 : IntKind.i64.wrap (lo + bw - lo) = bw := by rw [show lo + bw - lo = bw by omega]; exact IntWalk.i64_in _ (by omega)
        go_upto_region 14 with (fail)
        have hk5 : Keeps (fun g => g = w1.heap.size) wd (wd.setCell ⟨w1.heap.size, 5, none⟩ (.int .i64 bw)) := (Keeps.refl (fun g => g = w1.heap.size) wd).setCell (p := ⟨w1.heap.size, 5, none⟩) (fun _ => rfl) _
        have hp5 : Blk (wd.setCell ⟨w1.heap.size, 5, none⟩ (.int .i64 bw)) w1.heap.size 25 (lc T lo (lo + bw) bw ma k mc none 0 0) := HP4.out.set_ 5 (.int .i64 bw)
        have hs5 : RowI (wd.setCell ⟨w1.heap.size, 5, none⟩ (.int .i64 bw)) w1.heap.size 3 (.slice ma k mc) M := store_own HS4.out HP4.out (by decide) 5 _
        have hb5 := HB4.out.trans (hk5.below (fun g hg => by have hg' : g = w1.heap.size := hg; omega) HB4.out.size)
        clear hk5 HP4 HS4 HB4 c3 c4 c5 f5 y6
        generalize wd.setCell ⟨w1.heap.size, 5, none⟩ (.int .i64 bw) = wi at *
        have HP5 := Lib.hid hp5
        have HS5 := Lib.hid hs5
        have HB5 := Lib.hid hb5
        clear hp5 hs5 hb5
        go_wp2_with fail
        go_loopw [12] (fun i w' => ∃ j : Nat, i = .int .i64 j ∧ j ≤ k ∧ ∃ (sa : Option Addr) (sc : Nat), Blk w' w1.heap.size 25 (lc T lo (lo + bw) bw ma k mc sa j sc) ∧ RowI w' w1.heap.size 3 (.slice ma k mc) M ∧ RowI w' w1.heap.size 2 (.slice sa j sc) (List.replicate j lo) ∧ Below w1.heap.size w1 w') (fun i _ => k - (intOf i).toNat)
        case atStart => exact ⟨0, rfl, Nat.zero_le _, none, 0, HP5.out, HS5.out, World.ownsRow_nil _ _ _ _, HB5.out⟩
        case round =>
          clear HP5 HS5 HB5
          obtain ⟨j, rfl, hj, sa, sc, hP, hS, hT, hB⟩ := hrel
          obtain ⟨wn, rfl⟩ : ∃ wn : World, wn = wr := ⟨_, rfl⟩
          have HP := Lib.hid hP
          have HS := Lib.hid hS
          have HT := Lib.hid hT
          have HB := Lib.hid hB
          clear hP hS hT hB
          by_cases hjk : j < k
          · have hjk' : (j : Int) < (k : Int) := by omega
            have c1 : wn.cell? ⟨w1.heap.size, 1, none⟩ = some (.slice ma k mc) := by rw [HP.out.cell]; rfl
            have c3 : wn.cell? ⟨w1.heap.size, 3, none⟩ = some (.int .i64 lo) := by rw [HP.out.cell]; rfl
            have c10 : wn.cell? ⟨w1.heap.size, 10, none⟩ = some (.slice sa j sc) := by rw [HP.out.cell]; rfl
            have hzz := HB.out.size
            go_wp2_with (first
              | (at_builtin; refine push_int64 rfl (.tmp 77) (.tmp 80) rfl w1.heap.size sa sc j (List.replicate j lo) (List.length_replicate) rfl (own_below HT.out (Below.allocN _ _)) wn.heap.size lo rfl (by rw [(Blk.new wn 2 #[.int .i64 lo]).cell]; rfl) (by omega) (by rw [s1]; omega) ?_))
            intro g1 cap1 w6 hr6 hg6 _
            have hp6 := grow_blk HT.out hg6 HP.out (by decide)
            have hm6 := grow_own HT.out hg6 HS.out (by decide)
            have hb6 := grow_below HT.out hg6 HB.out
            have c16 : w6.cell? ⟨w1.heap.size, 10, none⟩ = some (.slice sa j sc) := by rw [hp6.cell]; rfl
            have f16 : w6.frozen? ⟨w1.heap.size, 10, none⟩ = false := hp6.frozen 10
            have HP7 : Hid (Blk (w6.setCell ⟨w1.heap.size, 10, none⟩ (.slice (some ⟨g1, 0, none⟩) (j + 1) cap1)) w1.heap.size 25 (lc T lo (lo + bw) bw ma k mc (some ⟨g1, 0, none⟩) (j + 1) cap1)) := Lib.hid (hp6.set_ 10 (.slice (some ⟨g1, 0, none⟩) (j + 1) cap1))
            have HS7 : Hid (RowI (w6.setCell ⟨w1.heap.size, 10, none⟩ (.slice (some ⟨g1, 0, none⟩) (j + 1) cap1)) w1.heap.size 3 (.slice ma k mc) M) := Lib.hid (store_own hm6 hp6 (by decide) 10 _)
            have HT7 : Hid (RowI (w6.setCell ⟨w1.heap.size, 10, none⟩ (.slice (some ⟨g1, 0, none⟩) (j + 1) cap1)) w1.heap.size 2 (.slice (some ⟨g1, 0, none⟩) (j + 1) cap1) (List.replicate (j + 1) lo)) := Lib.hid (by rw [List.replicate_succ']; exact store_own hr6 hp6 (by decide) 10 _)
            have HB7 := Lib.hid (hb6.setCell (p := ⟨w1.heap.size, 10, none⟩) (Nat.le_refl _) (.slice (some ⟨g1, 0, none⟩) (j + 1) cap1))
            clear hr6 hg6 hp6 hm6 hb6 c1 c3 c10 hzz
            go_wp2_with fail
            go_roundw
            case rel => exact ⟨j + 1, by go_num, by omega, _, _, HP7.out, HS7.out, HT7.out, HB7.out⟩
            case measure => simp [intOf]; omega
          · obtain rfl : j = k := by omega
            have c1 : wn.cell? ⟨w1.heap.size, 1, none⟩ = some (.slice ma j mc) := by rw [HP.out.cell]; rfl
            have hpv := lim_pv (w := wn) (ma := ma) (sa := sa) (mc := mc) (sc := sc) HM.out (by omega) HR.out HS.out HT.out hTb hlb ⟨hbb.1, hbb.2.1⟩
            have HPV := Lib.hid hpv
            have HPC : Hid (PC wn w1.heap.size (limP M (List.replicate j lo) T lo (lo + bw) bw ma mc sa sc)) := Lib.hid (PC.of5 (by unfold limP Prod.cells; simp only [HM.out, List.length_replicate]; exact HP.out))
            have HLT : Hid (w1.heap.size < wn.heap.size) := Lib.hid HP.out.lt
            clear hpv
            have HPL : Hid ((limP M (List.replicate j lo) T lo (lo + bw) bw ma mc sa sc).months.length = j) := Lib.hid HM.out
            by_cases h2 : j < 2
            · exact absurd h2 (by omega)
            -- SHORT)
            · have HLP : Hid (LimP (limP M (List.replicate j lo) T lo (lo + bw) bw ma mc sa sc)) := Lib.hid (by
                have := lim_all (M := M) (T := T) (lo := lo) (bw := bw) HR.out (by rw [HM.out]; omega) (by rw [HM.out]; omega) hTb DLO.out DBW.out hlb ⟨hbb.1, hbb.2.1⟩ ma mc sa sc
                rw [HM.out] at this
                exact this)
              have HMR : Hid (RowI wn w1.heap.size 3 (.slice ma (limP M (List.replicate j lo) T lo (lo + bw) bw ma mc sa sc).months.length mc) M) := Lib.hid (by rw [HPL.out]; exact HS.out)
              have HSR : Hid (RowI wn w1.heap.size 2 (.slice sa (limP M (List.replicate j lo) T lo (lo + bw) bw ma mc sa sc).settle.length sc) (limP M (List.replicate j lo) T lo (lo + bw) bw ma mc sa sc).settle) := Lib.hid (by unfold limP; simp only [List.length_replicate]; exact HT.out)
              have HBL : Hid (Blk wn w1.heap.size 25 (limP M (List.replicate j lo) T lo (lo + bw) bw ma mc sa sc).cells) := Lib.hid (by unfold limP Prod.cells; simp only [HM.out, List.length_replicate]; exact HP.out)
              clear HP HS HT HR HM c1
              obtain ⟨p, hp⟩ : ∃ p, p = limP M (List.replicate j lo) T lo (lo + bw) bw ma mc sa sc := ⟨_, rfl⟩
              have hpa : p.sa = sa := by rw [hp]; rfl
              have hpc : p.sc = sc := by rw [hp]; rfl
              have hps : p.settle = List.replicate j lo := by rw [hp]; rfl
              have hpm : p.months = M := by rw [hp]; rfl
              have hpx : p.ma = ma := by rw [hp]; rfl
              have hpy : p.mc = mc := by rw [hp]; rfl
              rw [← hp] at HPV HPC HPL HLP HMR HSR HBL
              rw [← hpa, ← hpc] at HSR
              rw [← hpx, ← hpy, ← hpm] at HMR
              clear hp hpa hpc hps hpm hpx hpy
              obtain ⟨q, hq⟩ : ∃ q : Prod, q = { p with wide := p.wide + p.tick } := ⟨_, rfl⟩
              have HQ := Lib.hid hq
              clear hq
              have hwd := HLP.out.wide
              have hhi := HLP.out.high
              have F2 := Lib.hid fun wz (h : PV wz p) => check_any p wz h
              rw [HLP.out.check] at F2
              unfold Prod.agg Prod.cells at F2
              rw [HPL.out] at F2
              obtain ⟨b0, b1, b2, b3, b4, b5, b6, b7, b8, b9, b10⟩ := HPC.out
              rw [HPL.out] at b1
              go_wp2_with fail
              refine (F2.out _ HPV.out).mono ?_
              rintro e w3 ⟨rfl, hb3⟩
              have HB3 := Lib.hid (HB.out.trans (hb3.mono HB.out.size))
              have HPC3 := Lib.hid (HPC.out.below hb3 HLT.out)
              have HMR3 : Hid (RowI w3 w1.heap.size 3 (.slice p.ma p.months.length p.mc) p.months) := Lib.hid (own_below HMR.out hb3)
              have HSR3 : Hid (RowI w3 w1.heap.size 2 (.slice p.sa p.settle.length p.sc) p.settle) := Lib.hid (own_below HSR.out hb3)
              have HBL3 : Hid (Blk w3 w1.heap.size 25 p.cells) := Lib.hid (HBL.out.keeps (Below.keeps (F := fun _ => False) hb3) (fun x => x))
              have hcode := HPV.out.code
              have hpml := HPV.out.mlen
              have hpsl := HPV.out.slen
              have HPT := Lib.hid (⟨HPV.out.tick, HPV.out.low, HPV.out.high, HPV.out.wide⟩ : i64ok p.tick ∧ i64ok p.low ∧ i64ok p.high ∧ i64ok p.wide)
              have HOK := Lib.hid (ints_ok HPV.out.set_)
              have HOM := Lib.hid (ints_ok HPV.out.mon)
              clear b0 b1 b2 b3 b4 b5 b6 b7 b8 b9 b10 hb3 HPC HPV HLT HB HMR HSR HBL F2
              obtain ⟨b0, b1, b2, b3, b4, b5, b6, b7, b8, b9, b10⟩ := HPC3.out
              go_upto_region 23 with (fail)
              have hq4 : Blk (w3.alloc (.cells #[.string p.code, .slice p.ma p.months.length p.mc, .int .i64 p.tick, .int .i64 p.low, .int .i64 p.high, .int .i64 p.wide, .int .i64 p.rule, .int .i64 p.top, .int .i64 p.least, .int .i64 p.part, .slice p.sa p.settle.length p.sc] 25)) w3.heap.size 25 p.cells := Blk.new _ _ _
              have hp4 : Blk (w3.alloc (.cells #[.string p.code, .slice p.ma p.months.length p.mc, .int .i64 p.tick, .int .i64 p.low, .int .i64 p.high, .int .i64 p.wide, .int .i64 p.rule, .int .i64 p.top, .int .i64 p.least, .int .i64 p.part, .slice p.sa p.settle.length p.sc] 25)) w1.heap.size 25 p.cells := HBL3.out.alloc _
              have hm4 : RowI (w3.alloc (.cells #[.string p.code, .slice p.ma p.months.length p.mc, .int .i64 p.tick, .int .i64 p.low, .int .i64 p.high, .int .i64 p.wide, .int .i64 p.rule, .int .i64 p.top, .int .i64 p.least, .int .i64 p.part, .slice p.sa p.settle.length p.sc] 25)) w1.heap.size 3 (.slice p.ma p.months.length p.mc) p.months := own_below HMR3.out (Below.allocN _ _)
              have hs4 : RowI (w3.alloc (.cells #[.string p.code, .slice p.ma p.months.length p.mc, .int .i64 p.tick, .int .i64 p.low, .int .i64 p.high, .int .i64 p.wide, .int .i64 p.rule, .int .i64 p.top, .int .i64 p.least, .int .i64 p.part, .slice p.sa p.settle.length p.sc] 25)) w1.heap.size 2 (.slice p.sa p.settle.length p.sc) p.settle := own_below HSR3.out (Below.allocN _ _)
              have hb4 : Below w1.heap.size w1 (w3.alloc (.cells #[.string p.code, .slice p.ma p.months.length p.mc, .int .i64 p.tick, .int .i64 p.low, .int .i64 p.high, .int .i64 p.wide, .int .i64 p.rule, .int .i64 p.top, .int .i64 p.least, .int .i64 p.part, .slice p.sa p.settle.length p.sc] 25)) := HB3.out.trans ((Below.allocN _ _).mono HB3.out.size)
              have hlt3 : w1.heap.size < w3.heap.size := HBL3.out.lt
              clear b0 b1 b2 b3 b4 b5 b6 b7 b8 b9 b10 HPC3 HB3 HMR3 HSR3 HBL3
              unfold Prod.cells at hq4 hp4
              generalize (w3.alloc (.cells #[.string p.code, .slice p.ma p.months.length p.mc, .int .i64 p.tick, .int .i64 p.low, .int .i64 p.high, .int .i64 p.wide, .int .i64 p.rule, .int .i64 p.top, .int .i64 p.least, .int .i64 p.part, .slice p.sa p.settle.length p.sc] 25)) = w4 at *
              have c2 : w4.cell? ⟨w1.heap.size, 2, none⟩ = some (.int .i64 p.tick) := by rw [hp4.cell]; rfl
              have c5 : w4.cell? ⟨w1.heap.size, 5, none⟩ = some (.int .i64 p.wide) := by rw [hp4.cell]; rfl
              have q5 : w4.cell? ⟨w3.heap.size, 5, none⟩ = some (.int .i64 p.wide) := by rw [hq4.cell]; rfl
              have f5 : w4.frozen? ⟨w3.heap.size, 5, none⟩ = false := hq4.frozen 5
              have y7 : IntKind.i64.wrap (p.wide + p.tick) = p.wide + p.tick := IntWalk.i64_in _ (by omega)
              have HP4 := Lib.hid hp4
              have HQ4 := Lib.hid hq4
              have HM4 := Lib.hid hm4
              have HS4 := Lib.hid hs4
              have HB4 := Lib.hid hb4
              clear hp4 hq4 hm4 hs4 hb4
              go_upto_region 24 with (fail)
              have hk5 : Keeps (fun g => g = w3.heap.size) w4 (w4.setCell ⟨w3.heap.size, 5, none⟩ (.int .i64 (p.wide + p.tick))) := (Keeps.refl (fun g => g = w3.heap.size) w4).setCell (p := ⟨w3.heap.size, 5, none⟩) (fun _ => rfl) _
              have hq5 : Blk (w4.setCell ⟨w3.heap.size, 5, none⟩ (.int .i64 (p.wide + p.tick))) w3.heap.size 25 q.cells := by rw [HQ.out]; exact HQ4.out.set_ 5 (.int .i64 (p.wide + p.tick))
              have hp5 : Blk (w4.setCell ⟨w3.heap.size, 5, none⟩ (.int .i64 (p.wide + p.tick))) w1.heap.size 25 p.cells := HP4.out.keeps hk5 (by show ¬ w1.heap.size = w3.heap.size; omega)
              have hm5 : RowI (w4.setCell ⟨w3.heap.size, 5, none⟩ (.int .i64 (p.wide + p.tick))) w1.heap.size 3 (.slice p.ma p.months.length p.mc) p.months := store_own HM4.out HQ4.out (by decide) 5 _
              have hs5 : RowI (w4.setCell ⟨w3.heap.size, 5, none⟩ (.int .i64 (p.wide + p.tick))) w1.heap.size 2 (.slice p.sa p.settle.length p.sc) p.settle := store_own HS4.out HQ4.out (by decide) 5 _
              have hb5 : Below w1.heap.size w1 (w4.setCell ⟨w3.heap.size, 5, none⟩ (.int .i64 (p.wide + p.tick))) := HB4.out.trans (hk5.below (fun g hg => by have hg' : g = w3.heap.size := hg; omega) HB4.out.size)
              clear hk5 HP4 HQ4 HM4 HS4 HB4 c2 c5 q5 f5 y7
              generalize w4.setCell ⟨w3.heap.size, 5, none⟩ (.int .i64 (p.wide + p.tick)) = w5 at *
              have HP5 := Lib.hid hp5
              have HQ5 := Lib.hid hq5
              have HM5 := Lib.hid hm5
              have HS5 := Lib.hid hs5
              have HB5 := Lib.hid hb5
              have HPC5 := Lib.hid (PC.of5 hp5)
              clear hp5 hq5 hm5 hs5 hb5
              obtain ⟨b0, b1, b2, b3, b4, b5, b6, b7, b8, b9, b10⟩ := HPC5.out
              go_upto_region 25 with (fail)
              have hr6 : Blk (w5.alloc (.cells #[.string p.code, .slice p.ma p.months.length p.mc, .int .i64 p.tick, .int .i64 p.low, .int .i64 p.high, .int .i64 p.wide, .int .i64 p.rule, .int .i64 p.top, .int .i64 p.least, .int .i64 p.part, .slice p.sa p.settle.length p.sc] 25)) w5.heap.size 25 p.cells := Blk.new _ _ _
              have hp6 : Blk (w5.alloc (.cells #[.string p.code, .slice p.ma p.months.length p.mc, .int .i64 p.tick, .int .i64 p.low, .int .i64 p.high, .int .i64 p.wide, .int .i64 p.rule, .int .i64 p.top, .int .i64 p.least, .int .i64 p.part, .slice p.sa p.settle.length p.sc] 25)) w1.heap.size 25 p.cells := HP5.out.alloc _
              have hq6 : Blk (w5.alloc (.cells #[.string p.code, .slice p.ma p.months.length p.mc, .int .i64 p.tick, .int .i64 p.low, .int .i64 p.high, .int .i64 p.wide, .int .i64 p.rule, .int .i64 p.top, .int .i64 p.least, .int .i64 p.part, .slice p.sa p.settle.length p.sc] 25)) w3.heap.size 25 q.cells := HQ5.out.alloc _
              have hm6 : RowI (w5.alloc (.cells #[.string p.code, .slice p.ma p.months.length p.mc, .int .i64 p.tick, .int .i64 p.low, .int .i64 p.high, .int .i64 p.wide, .int .i64 p.rule, .int .i64 p.top, .int .i64 p.least, .int .i64 p.part, .slice p.sa p.settle.length p.sc] 25)) w1.heap.size 3 (.slice p.ma p.months.length p.mc) p.months := own_below HM5.out (Below.allocN _ _)
              have hs6 : RowI (w5.alloc (.cells #[.string p.code, .slice p.ma p.months.length p.mc, .int .i64 p.tick, .int .i64 p.low, .int .i64 p.high, .int .i64 p.wide, .int .i64 p.rule, .int .i64 p.top, .int .i64 p.least, .int .i64 p.part, .slice p.sa p.settle.length p.sc] 25)) w1.heap.size 2 (.slice p.sa p.settle.length p.sc) p.settle := own_below HS5.out (Below.allocN _ _)
              have hb6 : Below w1.heap.size w1 (w5.alloc (.cells #[.string p.code, .slice p.ma p.months.length p.mc, .int .i64 p.tick, .int .i64 p.low, .int .i64 p.high, .int .i64 p.wide, .int .i64 p.rule, .int .i64 p.top, .int .i64 p.least, .int .i64 p.part, .slice p.sa p.settle.length p.sc] 25)) := HB5.out.trans ((Below.allocN _ _).mono HB5.out.size)
              have hlt5 : w3.heap.size < w5.heap.size := HQ5.out.lt
              clear b0 b1 b2 b3 b4 b5 b6 b7 b8 b9 b10 HPC5 HB5 HM5 HS5 HP5 HQ5
              unfold Prod.cells at hp6 hr6
              generalize (w5.alloc (.cells #[.string p.code, .slice p.ma p.months.length p.mc, .int .i64 p.tick, .int .i64 p.low, .int .i64 p.high, .int .i64 p.wide, .int .i64 p.rule, .int .i64 p.top, .int .i64 p.least, .int .i64 p.part, .slice p.sa p.settle.length p.sc] 25)) = w6 at *
              have c10 : w6.cell? ⟨w1.heap.size, 10, none⟩ = some (.slice p.sa p.settle.length p.sc) := by rw [hp6.cell]; rfl
              have r10 : w6.cell? ⟨w5.heap.size, 10, none⟩ = some (.slice p.sa p.settle.length p.sc) := by rw [hr6.cell]; rfl
              have HP6 := Lib.hid hp6
              have HQ6 := Lib.hid hq6
              have HR6 := Lib.hid hr6
              have HM6 := Lib.hid hm6
              have HS6 := Lib.hid hs6
              have HB6 := Lib.hid hb6
              clear hp6 hq6 hr6 hm6 hs6 hb6
              have hs0 : 0 < p.settle.length := by have := HLP.out.some_; omega
              have hs0' : (0 : Int) < (p.settle.length : Int) := by omega
              have hlt6 : w5.heap.size < w6.heap.size := HR6.out.lt
              have HLM := Lib.hid (own_lt HM6.out)
              have HLS := Lib.hid (own_lt HS6.out)
              have hown : RowI (w6.alloc (.cells #[] 2)) w6.heap.size 2 (.slice (some ⟨w6.heap.size, 0, none⟩) 0 0) [] := ⟨rfl, .inr ⟨w6.heap.size, 0, #[], rfl, Nat.le_refl _, Blk.new w6 2 #[], Nat.le_refl _, Nat.zero_le _, rfl, rfl⟩⟩
              have d10 : (w6.alloc (.cells #[] 2)).cell? ⟨w1.heap.size, 10, none⟩ = some (.slice p.sa p.settle.length p.sc) := by rw [(HP6.out.alloc _).cell]; rfl
              have HI6 := Lib.hid ((RowI.ints (own_below HS6.out (Below.allocN w6 (.cells #[] 2))) HOK.out))
              go_wp2_with (first
                | (at_builtin; refine append_row64 rfl (.tmp 104) (.tmp 106) rfl w6.heap.size w6.heap.size rfl hown p.sa p.sc p.settle rfl HI6.out hs0 hpsl (by rw [s1]; omega) ?_))
              intro g1 cap1 w7 hr7 hg7
              have hb7 : Below w6.heap.size w6 w7 := grown_below hg7 (Below.allocN w6 _) (fun g hg => by injection hg with hg; omega)
              have hk7 := Below.keeps (F := fun _ => False) hb7
              have hp7 := HP6.out.keeps hk7 (fun x => x)
              have hq7 := HQ6.out.keeps hk7 (fun x => x)
              have hrr7 := HR6.out.keeps hk7 (fun x => x)
              have hm7 : RowI w7 w1.heap.size 3 (.slice p.ma p.months.length p.mc) p.months := own_below HM6.out hb7
              have hs7 : RowI w7 w1.heap.size 2 (.slice p.sa p.settle.length p.sc) p.settle := own_below HS6.out hb7
              have e10 : w7.cell? ⟨w5.heap.size, 10, none⟩ = some (.slice p.sa p.settle.length p.sc) := by rw [hrr7.cell]; rfl
              have f10 : w7.frozen? ⟨w5.heap.size, 10, none⟩ = false := hrr7.frozen 10
              have hk8 : Keeps (fun g => g = w5.heap.size) w7 (w7.setCell ⟨w5.heap.size, 10, none⟩ (.slice (some ⟨g1, 0, none⟩) p.settle.length cap1)) := (Keeps.refl (fun g => g = w5.heap.size) w7).setCell (p := ⟨w5.heap.size, 10, none⟩) (fun _ => rfl) _
              have HP8 := Lib.hid (hp7.keeps hk8 (by show ¬ w1.heap.size = w5.heap.size; omega))
              have HQ8 := Lib.hid (hq7.keeps hk8 (by show ¬ w3.heap.size = w5.heap.size; omega))
              have HR8 : Hid (Blk (w7.setCell ⟨w5.heap.size, 10, none⟩ (.slice (some ⟨g1, 0, none⟩) p.settle.length cap1)) w5.heap.size 25 #[.string p.code, .slice p.ma p.months.length p.mc, .int .i64 p.tick, .int .i64 p.low, .int .i64 p.high, .int .i64 p.wide, .int .i64 p.rule, .int .i64 p.top, .int .i64 p.least, .int .i64 p.part, .slice (some ⟨g1, 0, none⟩) p.settle.length cap1]) := Lib.hid (hrr7.set_ 10 (.slice (some ⟨g1, 0, none⟩) p.settle.length cap1))
              have HG8 : Hid (RowI (w7.setCell ⟨w5.heap.size, 10, none⟩ (.slice (some ⟨g1, 0, none⟩) p.settle.length cap1)) w6.heap.size 2 (.slice (some ⟨g1, 0, none⟩) p.settle.length cap1) p.settle) := Lib.hid (store_own hr7 hrr7 (by decide) 10 _)
              have HM8 : Hid (RowI (w7.setCell ⟨w5.heap.size, 10, none⟩ (.slice (some ⟨g1, 0, none⟩) p.settle.length cap1)) w1.heap.size 3 (.slice p.ma p.months.length p.mc) p.months) := Lib.hid (store_own hm7 hrr7 (by decide) 10 _)
              have HS8 : Hid (RowI (w7.setCell ⟨w5.heap.size, 10, none⟩ (.slice (some ⟨g1, 0, none⟩) p.settle.length cap1)) w1.heap.size 2 (.slice p.sa p.settle.length p.sc) p.settle) := Lib.hid (store_own hs7 hrr7 (by decide) 10 _)
              have HB8 := Lib.hid (HB6.out.trans ((hb7.mono HB6.out.size).trans (hk8.below (fun g hg => by have hg' : g = w5.heap.size := hg; omega) (Nat.le_trans HB6.out.size hb7.size))))
              clear hr7 hg7 hb7 hk7 hp7 hq7 hrr7 hm7 hs7 hk8 c10 r10 d10 hown HI6 HP6 HQ6 HR6 HM6 HS6 HB6
              go_upto_region 26 with (fail)
              clear e10 f10
              generalize w7.setCell ⟨w5.heap.size, 10, none⟩ (.slice (some ⟨g1, 0, none⟩) p.settle.length cap1) = w8 at *
              have e2 : w8.cell? ⟨w1.heap.size, 2, none⟩ = some (.int .i64 p.tick) := by rw [HP8.out.cell]; rfl
              have e4 : w8.cell? ⟨w1.heap.size, 4, none⟩ = some (.int .i64 p.high) := by rw [HP8.out.cell]; rfl
              have e10 : w8.cell? ⟨w5.heap.size, 10, none⟩ = some (.slice (some ⟨g1, 0, none⟩) p.settle.length cap1) := by rw [HR8.out.cell]; rfl
              obtain ⟨⟨v0, hv0⟩, fv0, hg1, hg1b, hi9⟩ := HG8.out.set0 hs0 HOK.out (p.high + p.tick) (by unfold i64ok; omega)
              have y8 : IntKind.i64.wrap (p.high + p.tick) = p.high + p.tick := IntWalk.i64_in _ (by omega)
              have HI9 := Lib.hid hi9
              clear hi9
              go_upto_region 27 with (fail)
              have hk9 : Keeps (fun g => g = g1) w8 (w8.setCell ⟨g1, 0, none⟩ (.int .i64 (p.high + p.tick))) := (Keeps.refl (fun g => g = g1) w8).setCell (p := ⟨g1, 0, none⟩) (fun _ => rfl) _
              have hq9 := HQ8.out.keeps hk9 (by show ¬ w3.heap.size = g1; omega)
              have hr9 := HR8.out.keeps hk9 (by show ¬ w5.heap.size = g1; omega)
              have hm9 : RowI (w8.setCell ⟨g1, 0, none⟩ (.int .i64 (p.high + p.tick))) w1.heap.size 3 (.slice p.ma p.months.length p.mc) p.months := own_keep HM8.out hk9 (fun g hg h => by have h' : g = g1 := h; have := HLM.out g hg; omega)
              have hs9 : RowI (w8.setCell ⟨g1, 0, none⟩ (.int .i64 (p.high + p.tick))) w1.heap.size 2 (.slice p.sa p.settle.length p.sc) p.settle := own_keep HS8.out hk9 (fun g hg h => by have h' : g = g1 := h; have := HLS.out g hg; omega)
              have hb9 := HB8.out.trans (hk9.below (fun g hg => by have hg' : g = g1 := hg; have := HB8.out.size; omega) HB8.out.size)
              obtain ⟨r, hr⟩ : ∃ r : Prod, r = { p with settle := (p.high + p.tick) :: p.settle.tail, sa := some ⟨g1, 0, none⟩, sc := cap1 } := ⟨_, rfl⟩
              have hrl : ((p.high + p.tick) :: p.settle.tail).length = p.settle.length := by rw [List.length_cons, List.length_tail]; omega
              have HRC : Hid (PC (w8.setCell ⟨g1, 0, none⟩ (.int .i64 (p.high + p.tick))) w5.heap.size r) := Lib.hid (PC.of5 (by rw [hr]; unfold Prod.cells; simp only [hrl]; exact hr9))
              have HRV : Hid (PV (w8.setCell ⟨g1, 0, none⟩ (.int .i64 (p.high + p.tick))) r) := Lib.hid (by rw [hr]; exact ⟨hcode, hm9.ints HOM.out, HI9.out, hpml, by show ((p.high + p.tick) :: p.settle.tail).length ≤ 1000000; rw [hrl]; exact hpsl, HPT.out.1, HPT.out.2.1, HPT.out.2.2.1, HPT.out.2.2.2⟩)
              have HQC : Hid (PC (w8.setCell ⟨g1, 0, none⟩ (.int .i64 (p.high + p.tick))) w3.heap.size q) := Lib.hid (PC.of5 hq9)
              have HQV : Hid (PV (w8.setCell ⟨g1, 0, none⟩ (.int .i64 (p.high + p.tick))) q) := Lib.hid (by rw [HQ.out]; exact ⟨hcode, hm9.ints HOM.out, hs9.ints HOK.out, hpml, hpsl, HPT.out.1, HPT.out.2.1, HPT.out.2.2.1, by unfold i64ok; simp only; omega⟩)
              have HLQ : Hid (w3.heap.size < (w8.setCell ⟨g1, 0, none⟩ (.int .i64 (p.high + p.tick))).heap.size) := Lib.hid hq9.lt
              have HLR : Hid (w5.heap.size < (w8.setCell ⟨g1, 0, none⟩ (.int .i64 (p.high + p.tick))).heap.size) := Lib.hid hr9.lt
              have HB9 := Lib.hid hb9
              have F4 := Lib.hid fun wz (h : PV wz r) => check_any r wz h
              have F5 := Lib.hid fun wz (h : PV wz q) => count_inst_any q wz h
              have hc0 : countP q = 0 := by unfold countP; rw [HQ.out, HLP.out.q]; rfl
              have hc1 : checkP r = 1 := by rw [hr]; exact HLP.out.r _ _
              have hc2 : checkP q = 23 := by rw [HQ.out]; exact HLP.out.q
              have F3 := Lib.hid fun wz (h : PV wz q) => check_any q wz h
              rw [hc0] at F5
              rw [hc1] at F4
              rw [hc2] at F3
              unfold Prod.agg Prod.cells at F3 F4 F5
              clear hk9 hq9 hr9 hm9 hs9 hb9 hr hrl e2 e4 e10 hv0 fv0 y8 HI9 HP8 HQ8 HR8 HG8 HM8 HS8 HB8 hc0 hc1 hc2 hs0 hs0' HLM HLS
              generalize w8.setCell ⟨g1, 0, none⟩ (.int .i64 (p.high + p.tick)) = w9 at *
              obtain ⟨b0, b1, b2, b3, b4, b5, b6, b7, b8, b9, b10⟩ := HQC.out
              go_wp2_with fail
              refine (F3.out _ HQV.out).mono ?_
              rintro e wa1 ⟨rfl, hba⟩
              have HRCa := Lib.hid (HRC.out.below hba HLR.out)
              have HRVa := Lib.hid (HRV.out.below hba)
              have HQCa := Lib.hid (HQC.out.below hba HLQ.out)
              have HQVa := Lib.hid (HQV.out.below hba)
              have HLQa : Hid (w3.heap.size < wa1.heap.size) := Lib.hid (Nat.lt_of_lt_of_le HLQ.out hba.size)
              have HBa := Lib.hid (HB9.out.trans (hba.mono HB9.out.size))
              clear b0 b1 b2 b3 b4 b5 b6 b7 b8 b9 b10 hba HRC HRV HQC HQV HLQ HLR HB9
              obtain ⟨b0, b1, b2, b3, b4, b5, b6, b7, b8, b9, b10⟩ := HRCa.out
              go_wp2_with fail
              refine (F4.out _ HRVa.out).mono ?_
              rintro e wa2 ⟨rfl, hba⟩
              have HQCb := Lib.hid (HQCa.out.below hba HLQa.out)
              have HQVb := Lib.hid (HQVa.out.below hba)
              have HBb := Lib.hid (HBa.out.trans (hba.mono HBa.out.size))
              clear b0 b1 b2 b3 b4 b5 b6 b7 b8 b9 b10 hba HRCa HRVa HQCa HQVa HLQa HBa
              obtain ⟨b0, b1, b2, b3, b4, b5, b6, b7, b8, b9, b10⟩ := HQCb.out
              go_wp2_with fail
              refine (F5.out _ HQVb.out).mono ?_
              rintro e wa3 ⟨rfl, hba⟩
              have HBc := Lib.hid (HBb.out.trans (hba.mono HBb.out.size))
              clear b0 b1 b2 b3 b4 b5 b6 b7 b8 b9 b10 hba HQCb HQVb HBb
              go_wp2_with fail
              refine (known5_any _).mono ?_
              rintro e wa4 ⟨rfl, hba⟩
              have HBd := Lib.hid (HB1.out.trans ((HBc.out.trans (hba.mono HBc.out.size)).mono HB1.out.size))
              clear hba HBc
              go_wp2_with fail
              go_ret
              exact ⟨by trivial, HBd.out⟩
end Go.Proofs.Ytjjddlfbadahhaa
