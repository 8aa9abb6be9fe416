/- The walk of cornhilllaw9.alike. -/
import Derived.Test.YtmhljdkhekjfmaaR98
import Derived.Test.YtmhljdkhekjfmaaL91
namespace Go.Proofs.Ytmhljdkhekjfmaa
open Go.RowKit

theorem lad_len (L : List Od) (s : Int) : (ladO L s).length ≤ L.length := Nat.le_trans (grp_len _) (List.length_filter_le _ _)
theorem at_len (L : List Od) (s p : Int) : (atO L s p).length ≤ L.length := List.length_filter_le _ _
theorem one_rd {α : Type} {Y : Lay α} {w : World} {g : Nat} {t : TypeId} {e : α} (h : Blk w g t (Y.cells e).toArray) : Y.Rd w (some ⟨g, 0, none⟩) [e] := CellsAt.rd h.lt (Blk.cellsAt h)
set_option maxRecDepth 100000 in
set_option maxHeartbeats 16000000 in
theorem alike_any {W w : World} {pb pw : Nat} {L : List Od} (h : PR W w pb pw L) :
    Calls Try.prog 22 #[.pointer (some ⟨pb, 0, none⟩), .pointer (some ⟨pw, 0, none⟩)] w fun e w' => e = .returned (.bool true) ∧ Below w.heap.size w w' := by
  have P0 := Lib.hid h
  have hl250 := h.ob.len
  have HQ := Lib.hid (fun (o : Od) (ho : o ∈ L) => h.ob.qty ho)
  clear h
  go_enter Try.func22, Try.ntmps22
  go_wp2_with fail
  go_loopw [5] (fun i w' => ∃ j : Nat, i = .int .i64 j ∧ j ≤ 4 ∧ Below w.heap.size w w') (fun i _ => 4 - (intOf i).toNat)
  case atStart => exact ⟨0, rfl, by omega, Below.refl _ _⟩
  case round =>
    obtain ⟨j, rfl, hj, hb⟩ := hrel
    obtain ⟨wu, rfl⟩ : ∃ wo : World, wo = wr := ⟨_, rfl⟩
    have BU := Lib.hid hb
    clear hb
    by_cases hj4 : j < 4
    · as_aux_lemma =>
      have hj4' : (j : Int) < 4 := by omega
      have PU := Lib.hid (P0.out.below BU.out)
      obtain ⟨⟨⟨b0, b1, b2⟩, any⟩, hbo⟩ : ∃ y, bestO L (j : Int) = y := ⟨_, rfl⟩
      have HBO := Lib.hid hbo
      have hbe := ob_best PU.out.ob (j : Int)
      rw [hbo] at hbe
      rw [show ((⟨b0, b1, b2⟩, any) : Lv × Bool).1.cells.toArray = #[.int .i64 b0, .int .i64 b1, .int .i64 b2] from rfl] at hbe
      clear hbo
      go_wp2_with fail
      refine hbe.mono ?_
      rintro e w1 ⟨rfl, hb⟩
      clear hbe
      have hb2 := hb.trans ((Below.allocN w1 (.cells #[.int .i64 b0, .int .i64 b1, .int .i64 b2] 30)).mono hb.size)
      have hx : Blk (w1.alloc (.cells #[.int .i64 b0, .int .i64 b1, .int .i64 b2] 30)) w1.heap.size 30 #[.int .i64 b0, .int .i64 b1, .int .i64 b2] := Blk.new _ _ _
      go_upto_region 5 with (fail)
      obtain ⟨gx, hgx⟩ : ∃ gx, w1.heap.size = gx := ⟨_, rfl⟩
      rw [hgx] at hx ⊢
      clear hgx
      generalize w1.alloc (.cells #[.int .i64 b0, .int .i64 b1, .int .i64 b2] 30) = w2 at *
      have X2 := Lib.hid hx
      have P2 := Lib.hid (PU.out.below hb2)
      have B2 := Lib.hid (BU.out.trans (hb2.mono BU.out.size))
      clear hx hb hb2 PU BU
      have hbe := best_ref P2.out.rb hl250 HQ.out (j : Int)
      rw [HBO.out] at hbe
      rw [show ((⟨b0, b1, b2⟩, any) : Lv × Bool).1.cells.toArray = #[.int .i64 b0, .int .i64 b1, .int .i64 b2] from rfl] at hbe
      go_wp2_with fail
      refine hbe.mono ?_
      rintro e w3 ⟨rfl, hb⟩
      clear hbe
      have hb4 := hb.trans ((Below.allocN w3 (.cells #[.int .i64 b0, .int .i64 b1, .int .i64 b2] 93)).mono hb.size)
      have hy : Blk (w3.alloc (.cells #[.int .i64 b0, .int .i64 b1, .int .i64 b2] 93)) w3.heap.size 93 #[.int .i64 b0, .int .i64 b1, .int .i64 b2] := Blk.new _ _ _
      go_upto_region 6 with (fail)
      obtain ⟨gy, hgy⟩ : ∃ gy, w3.heap.size = gy := ⟨_, rfl⟩
      rw [hgy] at hy ⊢
      clear hgy
      generalize w3.alloc (.cells #[.int .i64 b0, .int .i64 b1, .int .i64 b2] 93) = w4 at *
      have Y4 := Lib.hid hy
      have X4 := Lib.hid (X2.out.below hb4)
      have P4 := Lib.hid (P2.out.below hb4)
      have B4 := Lib.hid (B2.out.trans (hb4.mono B2.out.size))
      have x0 : w4.cell? ⟨gx, 0, none⟩ = some (.int .i64 b0) := X4.out.cell 0
      have x1 : w4.cell? ⟨gx, 1, none⟩ = some (.int .i64 b1) := X4.out.cell 1
      have x2 : w4.cell? ⟨gx, 2, none⟩ = some (.int .i64 b2) := X4.out.cell 2
      have hba := Below.allocN w4 (.cells #[.int .i64 b0, .int .i64 b1, .int .i64 b2] 30)
      have hna : Blk (w4.alloc (.cells #[.int .i64 b0, .int .i64 b1, .int .i64 b2] 30)) w4.heap.size 30 (LV.cells ⟨b0, b1, b2⟩).toArray := Blk.new _ _ _
      have Y5 := Y4.out.below hba
      have y0 : (w4.alloc (.cells #[.int .i64 b0, .int .i64 b1, .int .i64 b2] 30)).cell? ⟨gy, 0, none⟩ = some (.int .i64 b0) := Y5.cell 0
      have y1 : (w4.alloc (.cells #[.int .i64 b0, .int .i64 b1, .int .i64 b2] 30)).cell? ⟨gy, 1, none⟩ = some (.int .i64 b1) := Y5.cell 1
      have y2 : (w4.alloc (.cells #[.int .i64 b0, .int .i64 b1, .int .i64 b2] 30)).cell? ⟨gy, 2, none⟩ = some (.int .i64 b2) := Y5.cell 2
      have hbb := Below.allocN (w4.alloc (.cells #[.int .i64 b0, .int .i64 b1, .int .i64 b2] 30)) (.cells #[.int .i64 b0, .int .i64 b1, .int .i64 b2] 93)
      have hnb : Blk ((w4.alloc (.cells #[.int .i64 b0, .int .i64 b1, .int .i64 b2] 30)).alloc (.cells #[.int .i64 b0, .int .i64 b1, .int .i64 b2] 93)) (w4.alloc (.cells #[.int .i64 b0, .int .i64 b1, .int .i64 b2] 30)).heap.size 93 (RLV.cells ⟨b0, b1, b2⟩).toArray := Blk.new _ _ _
      have HLA := Lib.hid (levels_same [⟨b0, b1, b2⟩] (some ⟨w4.heap.size, 0, none⟩) (some ⟨(w4.alloc (.cells #[.int .i64 b0, .int .i64 b1, .int .i64 b2] 30)).heap.size, 0, none⟩) 1 1 _ (one_rd (hna.below hbb)) (one_rd hnb) (show 1 ≤ 250 by omega))
      have hb6 := hba.trans (hbb.mono hba.size)
      have P6 := Lib.hid (P4.out.below hb6)
      have B6 := Lib.hid (B4.out.trans (hb6.mono B4.out.size))
      have HS4 : (w4.alloc (.cells #[.int .i64 b0, .int .i64 b1, .int .i64 b2] 30)).heap.size = w4.heap.size + 1 := by simp
      rw [HS4] at HLA
      clear hy hb hb4 hba hna hbb hnb hb6 Y5 P2 B2 X2 HS4
      go_cut [47] (fun v wx => v = .bool false ∧ Below w.heap.size w wx)
      case first =>
        have hlb := fun w' (P : PR W w' pb pw L) => ob_lad P.ob (j : Int)
        have HLB := Lib.hid hlb
        clear hlb
        cases any
        all_goals
          go_wp2_with fail
          refine HLA.out.mono ?_
          rintro e w7 ⟨rfl, hb⟩
          have P7 := Lib.hid (P6.out.below hb)
          have B7 := Lib.hid (B6.out.trans (hb.mono B6.out.size))
          clear hb x0 x1 x2 y0 y1 y2
          go_wp2_with fail
          refine (HLB.out w7 P7.out).mono ?_
          rintro e w8 ⟨v, rfl, hr, hb⟩
          obtain ⟨ra, rc, rfl, _, hrd⟩ := hr.rd
          have P8 := Lib.hid (P7.out.below hb)
          have B8 := Lib.hid (B7.out.trans (hb.mono B7.out.size))
          have R8 := Lib.hid hrd
          clear hb hr hrd
          go_wp2_with fail
          refine (ladder_ref P8.out.rb hl250 HQ.out (j : Int)).mono ?_
          rintro e w9 ⟨v, rfl, hr, hb⟩
          obtain ⟨sa, sc, rfl, _, hrd⟩ := hr.rd
          have B9 := Lib.hid (B8.out.trans (hb.mono B8.out.size))
          have HLS := Lib.hid (levels_same (ladO L (j : Int)) ra sa rc sc w9 (R8.out.below hb) hrd (Nat.le_trans (lad_len _ _) hl250))
          clear hb hr hrd
          go_wp2_with fail
          refine HLS.out.mono ?_
          rintro e w10 ⟨rfl, hb⟩
          have B10 := Lib.hid (B9.out.trans (hb.mono B9.out.size))
          clear hb
          go_wp2_with fail
          go_meet
          exact ⟨rfl, B10.out⟩
      case rest =>
      obtain ⟨rfl, hb⟩ := hcut
      obtain ⟨wv, rfl⟩ : ∃ wo : World, wo = wc := ⟨_, rfl⟩
      have BV := Lib.hid hb
      clear hb x0 x1 x2 y0 y1 y2 P6 B6 HLA P4 B4 X4 Y4
      go_wp2_with fail
      as_aux_lemma =>
      go_loopw [10] (fun i w' => ∃ k : Nat, i = .int .i64 k ∧ k ≤ 10 ∧ Below w.heap.size w w') (fun i _ => 10 - (intOf i).toNat)
      case atStart => exact ⟨0, rfl, by omega, BV.out⟩
      case round =>
        clear BV
        obtain ⟨k, rfl, hk, hb⟩ := hrel
        obtain ⟨wy, rfl⟩ : ∃ wo : World, wo = wr := ⟨_, rfl⟩
        have BY := Lib.hid hb
        have PY := Lib.hid (P0.out.below hb)
        clear hb
        obtain ⟨a, c, hbx, hrw⟩ := PY.out.rb.box
        obtain ⟨_, _, he, _, hrd⟩ := hrw.rd
        injection he with he1 _ he2
        subst he1 he2
        have HBX := Lib.hid hbx
        have bx : wy.cell? ⟨pw, 0, none⟩ = some (.slice a L.length c) := hbx.cell 0
        have HRD := Lib.hid hrd
        clear hbx hrw hrd
        by_cases hlt : k < L.length ∧ k < 10
        · obtain ⟨hkn, hk10⟩ := hlt
          have hkl : (k : Int) < (L.length : Int) := by omega
          obtain ⟨o, ho⟩ : ∃ o, L[k]? = some o := ⟨_, List.getElem?_eq_getElem hkn⟩
          obtain ⟨g, off, rfl, hg, hc⟩ := HRD.out k o ho
          obtain ⟨p, hp⟩ : ∃ y, o.price = y := ⟨_, rfl⟩
          have c2 : wy.cell? ⟨g, off + k * 5 + 2, none⟩ = some (.int .i64 p) := hp ▸ hc 2 _ rfl
          have HSS : Hid (∀ w', Below wy.heap.size wy w' → w'.cell? ⟨pw, 0, none⟩ = some (.slice (some ⟨g, off, none⟩) L.length c) ∧ w'.cell? ⟨g, off + k * 5 + 2, none⟩ = some (.int .i64 p)) := Lib.hid fun w' hb => ⟨(HBX.out.below hb).cell 0, (hb.cell (p := ⟨g, _, none⟩) hg).trans c2⟩
          clear hc ho hp hg
          go_upto_region 11 with (fail)
          refine wp_region_E (S := fun w' => w'.cell? ⟨pw, 0, none⟩ = some (.slice (some ⟨g, off, none⟩) L.length c) ∧ w'.cell? ⟨g, off + k * 5 + 2, none⟩ = some (.int .i64 p)) (by kernel_rfl) (HSS.out _ (Below.drewN_of wy 1)) (fun hHeld => ?_)
          clear bx c2
          refine wpE_take (i := 0) (oi := ?oi1) (v := ?v1) ?hi1 (by kernel_rfl) (by kernel_rfl) (by kernel_rfl) (by kernel_rfl) ?hQ1 ?hy1 (by assumption) ?rest1
          case hi1 => (simp only [List.getElem?_toArray]; rfl)
          case hQ1 => exact fun _ _ _ h => h
          case hy1 => exact Or.inl ⟨by rfl, by (intro w hSw; (try dsimp only at hSw); go_simp; try with_reducible rfl)⟩
          try simp only [Act.put, List.setIfInBounds_toArray, List.set_cons_zero, List.set_cons_succ]
          refine wpE_take (i := 1) (oi := ?oi2) (v := ?v2) ?hi2 (by kernel_rfl) (by kernel_rfl) (by kernel_rfl) (by kernel_rfl) ?hQ2 ?hy2 (by assumption) ?rest2
          case hi2 => (simp only [List.getElem?_toArray]; rfl)
          case hQ2 => exact fun _ _ _ h => h
          case hy2 => exact Or.inl ⟨by rfl, by (intro w hSw; (try dsimp only at hSw); go_simp; try with_reducible rfl)⟩
          try simp only [Act.put, List.setIfInBounds_toArray, List.set_cons_zero, List.set_cons_succ]
          refine wpE_take (i := 2) (oi := ?oi3) (v := ?v3) ?hi3 (by kernel_rfl) (by kernel_rfl) (by kernel_rfl) (by kernel_rfl) ?hQ3 ?hy3 (by assumption) ?rest3
          case hi3 => (simp only [List.getElem?_toArray]; rfl)
          case hQ3 => exact fun _ _ _ h => h
          case hy3 => exact Or.inl ⟨by rfl, by (intro w hSw; (try dsimp only at hSw); go_simp; try with_reducible rfl)⟩
          try simp only [Act.put, List.setIfInBounds_toArray, List.set_cons_zero, List.set_cons_succ]
          refine wpE_take (i := 3) (oi := ?oi4) (v := ?v4) ?hi4 (by kernel_rfl) (by kernel_rfl) (by kernel_rfl) (by kernel_rfl) ?hQ4 ?hy4 (by assumption) ?rest4
          case hi4 => (simp only [List.getElem?_toArray]; rfl)
          case hQ4 => exact fun _ _ _ h => h
          case hy4 => exact Or.inl ⟨by rfl, by (intro w hSw; (try dsimp only at hSw); go_simp; try with_reducible rfl)⟩
          try simp only [Act.put, List.setIfInBounds_toArray, List.set_cons_zero, List.set_cons_succ]
          refine wpE_take (i := 4) (oi := ?oi5) (v := ?v5) ?hi5 (by kernel_rfl) (by kernel_rfl) (by kernel_rfl) (by kernel_rfl) ?hQ5 ?hy5 (by assumption) ?rest5
          case hi5 => (simp only [List.getElem?_toArray]; rfl)
          case hQ5 => exact fun _ _ _ h => h
          case hy5 => exact Or.inl ⟨by rfl, by (intro w hSw; (try dsimp only at hSw); go_simp; try with_reducible rfl)⟩
          try simp only [Act.put, List.setIfInBounds_toArray, List.set_cons_zero, List.set_cons_succ]
          refine wpE_take (i := 5) (oi := ?oi6) (v := ?v6) ?hi6 (by kernel_rfl) (by kernel_rfl) (by kernel_rfl) (by kernel_rfl) ?hQ6 ?hy6 (by assumption) ?rest6
          case hi6 => (simp only [List.getElem?_toArray]; rfl)
          case hQ6 => exact fun _ _ _ h => h
          case hy6 => exact Or.inl ⟨by rfl, by (intro w hSw; (try dsimp only at hSw); go_simp; try with_reducible rfl)⟩
          try simp only [Act.put, List.setIfInBounds_toArray, List.set_cons_zero, List.set_cons_succ]
          refine wpE_take (i := 6) (oi := ?oi7) (v := ?v7) ?hi7 (by kernel_rfl) (by kernel_rfl) (by kernel_rfl) (by kernel_rfl) ?hQ7 ?hy7 (by assumption) ?rest7
          case hi7 => (simp only [List.getElem?_toArray]; rfl)
          case hQ7 => exact fun _ _ _ h => h
          case hy7 => exact Or.inl ⟨by rfl, by (intro w hSw; (try dsimp only at hSw); go_simp; try with_reducible rfl)⟩
          try simp only [Act.put, List.setIfInBounds_toArray, List.set_cons_zero, List.set_cons_succ]
          refine wpE_take (i := 7) (oi := ?oi8) (v := ?v8) ?hi8 (by kernel_rfl) (by kernel_rfl) (by kernel_rfl) (by kernel_rfl) ?hQ8 ?hy8 (by assumption) ?rest8
          case hi8 => (simp only [List.getElem?_toArray]; rfl)
          case hQ8 => exact fun _ _ _ h => h
          case hy8 => exact Or.inl ⟨by rfl, by (intro w hSw; (try dsimp only at hSw); go_simp; try with_reducible rfl)⟩
          try simp only [Act.put, List.setIfInBounds_toArray, List.set_cons_zero, List.set_cons_succ]
          refine wpE_take (i := 8) (oi := ?oi9) (v := ?v9) ?hi9 (by kernel_rfl) (by kernel_rfl) (by kernel_rfl) (by kernel_rfl) ?hQ9 ?hy9 (by assumption) ?rest9
          case hi9 => (simp only [List.getElem?_toArray]; rfl)
          case hQ9 => exact fun _ _ _ h => h
          case hy9 => exact Or.inl ⟨by rfl, by (intro w hSw; (try dsimp only at hSw); go_simp; try with_reducible rfl)⟩
          try simp only [Act.put, List.setIfInBounds_toArray, List.set_cons_zero, List.set_cons_succ]
          refine wpE_take (i := 9) (oi := ?oi10) (v := ?v10) ?hi10 (by kernel_rfl) (by kernel_rfl) (by kernel_rfl) (by kernel_rfl) ?hQ10 ?hy10 (by assumption) ?rest10
          case hi10 => (simp only [List.getElem?_toArray]; rfl)
          case hQ10 => exact fun _ _ _ h => h
          case hy10 => exact Or.inl ⟨by rfl, by (intro w hSw; (try dsimp only at hSw); go_simp; try with_reducible rfl)⟩
          try simp only [Act.put, List.setIfInBounds_toArray, List.set_cons_zero, List.set_cons_succ]
          refine wpE_take (i := 11) (oi := ?oi11) (v := ?v11) ?hi11 (by kernel_rfl) (by kernel_rfl) (by kernel_rfl) (by kernel_rfl) ?hQ11 ?hy11 (by assumption) ?rest11
          case hi11 => (simp only [List.getElem?_toArray]; rfl)
          case hQ11 => exact fun _ _ _ h => h
          case hy11 => exact Or.inl ⟨by rfl, by (intro w hSw; (try dsimp only at hSw); go_simp; try with_reducible rfl)⟩
          try simp only [Act.put, List.setIfInBounds_toArray, List.set_cons_zero, List.set_cons_succ]
          refine wpE_take (i := 12) (oi := ?oi12) (v := ?v12) ?hi12 (by kernel_rfl) (by kernel_rfl) (by kernel_rfl) (by kernel_rfl) ?hQ12 ?hy12 (by assumption) ?rest12
          case hi12 => (simp only [List.getElem?_toArray]; rfl)
          case hQ12 => exact fun _ _ _ h => h
          case hy12 => exact Or.inl ⟨by rfl, by (intro w hSw; (try dsimp only at hSw); go_simp; try with_reducible rfl)⟩
          try simp only [Act.put, List.setIfInBounds_toArray, List.set_cons_zero, List.set_cons_succ]
          refine wpE_take (i := 13) (oi := ?oi13) (v := ?v13) ?hi13 (by kernel_rfl) (by kernel_rfl) (by kernel_rfl) (by kernel_rfl) ?hQ13 ?hy13 (by assumption) ?rest13
          case hi13 => (simp only [List.getElem?_toArray]; rfl)
          case hQ13 => exact fun _ _ _ h => h
          case hy13 => exact Or.inl ⟨by rfl, by (intro w hSw; (try dsimp only at hSw); go_simp; try with_reducible rfl)⟩
          try simp only [Act.put, List.setIfInBounds_toArray, List.set_cons_zero, List.set_cons_succ]
          refine wpE_take (i := 14) (oi := ?oi14) (v := ?v14) ?hi14 (by kernel_rfl) (by kernel_rfl) (by kernel_rfl) (by kernel_rfl) ?hQ14 ?hy14 (by assumption) ?rest14
          case hi14 => (simp only [List.getElem?_toArray]; rfl)
          case hQ14 => exact fun _ _ _ h => h
          case hy14 => exact Or.inl ⟨by rfl, by (intro w hSw; (try dsimp only at hSw); go_simp; try with_reducible rfl)⟩
          try simp only [Act.put, List.setIfInBounds_toArray, List.set_cons_zero, List.set_cons_succ]
          refine wpE_take (i := 15) (oi := ?oi15) (v := ?v15) ?hi15 (by kernel_rfl) (by kernel_rfl) (by kernel_rfl) (by kernel_rfl) ?hQ15 ?hy15 (by assumption) ?rest15
          case hi15 => (simp only [List.getElem?_toArray]; rfl)
          case hQ15 => exact fun _ _ _ h => h
          case hy15 => exact Or.inl ⟨by rfl, by (intro w hSw; (try dsimp only at hSw); go_simp; try with_reducible rfl)⟩
          try simp only [Act.put, List.setIfInBounds_toArray, List.set_cons_zero, List.set_cons_succ]
          refine wpE_take (i := 16) (oi := ?oi16) (v := ?v16) ?hi16 (by kernel_rfl) (by kernel_rfl) (by kernel_rfl) (by kernel_rfl) ?hQ16 ?hy16 (by assumption) ?rest16
          case hi16 => (simp only [List.getElem?_toArray]; rfl)
          case hQ16 => exact fun _ _ _ h => h
          case hy16 => exact Or.inl ⟨by rfl, by (intro w hSw; (try dsimp only at hSw); go_simp; try with_reducible rfl)⟩
          try simp only [Act.put, List.setIfInBounds_toArray, List.set_cons_zero, List.set_cons_succ]
          refine wpE_take (i := 17) (oi := ?oi17) (v := ?v17) ?hi17 (by kernel_rfl) (by kernel_rfl) (by kernel_rfl) (by kernel_rfl) ?hQ17 ?hy17 (by assumption) ?rest17
          case hi17 => (simp only [List.getElem?_toArray]; rfl)
          case hQ17 => exact fun _ _ _ h => h
          case hy17 => exact Or.inl ⟨by rfl, by (intro w hSw; (try dsimp only at hSw); go_simp; try with_reducible rfl)⟩
          try simp only [Act.put, List.setIfInBounds_toArray, List.set_cons_zero, List.set_cons_succ]
          refine wpE_take (i := 18) (oi := ?oi18) (v := ?v18) ?hi18 (by kernel_rfl) (by kernel_rfl) (by kernel_rfl) (by kernel_rfl) ?hQ18 ?hy18 (by assumption) ?rest18
          case hi18 => (simp only [List.getElem?_toArray]; rfl)
          case hQ18 => exact fun _ _ _ h => h
          case hy18 => exact Or.inl ⟨by rfl, by (intro w hSw; (try dsimp only at hSw); go_simp; try with_reducible rfl)⟩
          try simp only [Act.put, List.setIfInBounds_toArray, List.set_cons_zero, List.set_cons_succ]
          refine wpE_take (i := 19) (oi := ?oi19) (v := ?v19) ?hi19 (by kernel_rfl) (by kernel_rfl) (by kernel_rfl) (by kernel_rfl) ?hQ19 ?hy19 (by assumption) ?rest19
          case hi19 => (simp only [List.getElem?_toArray]; rfl)
          case hQ19 => exact fun _ _ _ h => h
          case hy19 => exact Or.inl ⟨by rfl, by (intro w hSw; (try dsimp only at hSw); go_simp; try with_reducible rfl)⟩
          try simp only [Act.put, List.setIfInBounds_toArray, List.set_cons_zero, List.set_cons_succ]
          refine wpE_take (i := 20) (oi := ?oi20) (v := ?v20) ?hi20 (by kernel_rfl) (by kernel_rfl) (by kernel_rfl) (by kernel_rfl) ?hQ20 ?hy20 (by assumption) ?rest20
          case hi20 => (simp only [List.getElem?_toArray]; rfl)
          case hQ20 => exact fun _ _ _ h => h
          case hy20 => exact Or.inl ⟨by rfl, by (intro w hSw; (try dsimp only at hSw); go_simp; try with_reducible rfl)⟩
          try simp only [Act.put, List.setIfInBounds_toArray, List.set_cons_zero, List.set_cons_succ]
          refine wpE_one (i := 10) (o := ?o35) ?ho35 (by kernel_rfl) (fun K hK => ?_)
          case ho35 => (simp only [List.getElem?_toArray]; rfl)
          go_simp
          go_at_call 20
          have hbd := Below.drewN_of wy 1
          have PD : Hid (PR W wy.drew pb pw L) := Lib.hid (PY.out.below hbd)
          refine (ob_at PD.out.ob (j : Int) p).mono ?_
          rintro e w1 ⟨v, rfl, hr, hb⟩
          obtain ⟨ra, rc, rfl, _, hrd⟩ := hr.rd
          have hb1 : Below wy.heap.size wy w1 := hbd.trans (hb.mono hbd.size)
          have HB1 := Lib.hid hb1
          have P1 := Lib.hid (PY.out.below hb1)
          have R1 := Lib.hid hrd
          refine hK.out _ _ (HSS.out _ hb1) (fun hHeld => ?_)
          clear hK K hr hb hrd hb1 hbd PD
          refine wpE_one (i := 21) (o := ?o36) ?ho36 (by kernel_rfl) (fun K hK => ?_)
          case ho36 => (simp only [List.getElem?_toArray]; rfl)
          go_simp
          go_at_call 44
          refine (at_ref P1.out.rb hl250 (j : Int) p).mono ?_
          rintro e w2 ⟨v, rfl, hr, hb⟩
          obtain ⟨sa, sc, rfl, _, hrd⟩ := hr.rd
          have hb2 := HB1.out.trans (hb.mono HB1.out.size)
          have HB2 := Lib.hid hb2
          have HOS := Lib.hid (orders_same (atO L (j : Int) p) ra sa rc sc w2 (R1.out.below hb) hrd (Nat.le_trans (at_len _ _ _) hl250))
          refine hK.out _ _ (HSS.out _ hb2) (fun hHeld => ?_)
          clear hK K hr hb hrd hb2
          refine wpE_one (i := 22) (o := ?o37) ?ho37 (by kernel_rfl) (fun K hK => ?_)
          case ho37 => (simp only [List.getElem?_toArray]; rfl)
          go_simp
          go_at_call 43
          refine HOS.out.mono ?_
          rintro e w3 ⟨rfl, hb⟩
          have hb3 := HB2.out.trans (hb.mono HB2.out.size)
          have HB3 := Lib.hid (BY.out.trans (hb3.mono BY.out.size))
          refine hK.out _ _ (HSS.out _ hb3) (fun hHeld => ?_)
          clear hK K hb hb3
          refine wpE_last (i := 23) (o := ?o41) ?ho41 (by kernel_rfl) (by kernel_rfl) (by kernel_rfl) (fun K hK => ?_)
          case ho41 => (simp only [List.getElem?_toArray]; rfl)
          go_simp
          refine hK.out _ _ ?_
          clear hK K hHeld
          go_wp2_with fail
          go_roundw
          case rel => exact ⟨k + 1, by go_num, by omega, HB3.out⟩
          case measure => simp [intOf]; omega
        · go_wp2_with fail
          all_goals
            go_roundw
            case rel => exact ⟨j + 1, by go_num, by omega, BY.out⟩
            case measure => simp [intOf]; omega
    · have PU := Lib.hid (P0.out.below BU.out)
      obtain ⟨a, c, hbx, hrw⟩ := PU.out.rb.box
      obtain ⟨_, _, he, _, hrd⟩ := hrw.rd
      injection he with he1 _ he2
      subst he1 he2
      have HBX := Lib.hid hbx
      have bx : wu.cell? ⟨pw, 0, none⟩ = some (.slice a L.length c) := hbx.cell 0
      have HRD := Lib.hid hrd
      have HSS : Hid (∀ w', Below wu.heap.size wu w' → w'.cell? ⟨pw, 0, none⟩ = some (.slice a L.length c)) := Lib.hid fun w' hb => (HBX.out.below hb).cell 0
      clear hbx hrw hrd
      go_upto_region 13 with (fail)
      refine wp_region_E (S := fun w' => w'.cell? ⟨pw, 0, none⟩ = some (.slice a L.length c)) (by kernel_rfl) (HSS.out _ (Below.drewN_of wu 1)) (fun hHeld => ?_)
      clear bx
      refine wpE_take (i := 0) (oi := ?oi21) (v := ?v21) ?hi21 (by kernel_rfl) (by kernel_rfl) (by kernel_rfl) (by kernel_rfl) ?hQ21 ?hy21 (by assumption) ?rest21
      case hi21 => (simp only [List.getElem?_toArray]; rfl)
      case hQ21 => exact fun _ _ _ h => h
      case hy21 => exact Or.inl ⟨by rfl, by (intro w hSw; (try dsimp only at hSw); go_simp; try with_reducible rfl)⟩
      try simp only [Act.put, List.setIfInBounds_toArray, List.set_cons_zero, List.set_cons_succ]
      refine wpE_take (i := 2) (oi := ?oi22) (v := ?v22) ?hi22 (by kernel_rfl) (by kernel_rfl) (by kernel_rfl) (by kernel_rfl) ?hQ22 ?hy22 (by assumption) ?rest22
      case hi22 => (simp only [List.getElem?_toArray]; rfl)
      case hQ22 => exact fun _ _ _ h => h
      case hy22 => exact Or.inl ⟨by rfl, by (intro w hSw; (try dsimp only at hSw); go_simp; try with_reducible rfl)⟩
      try simp only [Act.put, List.setIfInBounds_toArray, List.set_cons_zero, List.set_cons_succ]
      refine wpE_take (i := 3) (oi := ?oi23) (v := ?v23) ?hi23 (by kernel_rfl) (by kernel_rfl) (by kernel_rfl) (by kernel_rfl) ?hQ23 ?hy23 (by assumption) ?rest23
      case hi23 => (simp only [List.getElem?_toArray]; rfl)
      case hQ23 => exact fun _ _ _ h => h
      case hy23 => exact Or.inl ⟨by rfl, by (intro w hSw; (try dsimp only at hSw); go_simp; try with_reducible rfl)⟩
      try simp only [Act.put, List.setIfInBounds_toArray, List.set_cons_zero, List.set_cons_succ]
      refine wpE_take (i := 4) (oi := ?oi24) (v := ?v24) ?hi24 (by kernel_rfl) (by kernel_rfl) (by kernel_rfl) (by kernel_rfl) ?hQ24 ?hy24 (by assumption) ?rest24
      case hi24 => (simp only [List.getElem?_toArray]; rfl)
      case hQ24 => exact fun _ _ _ h => h
      case hy24 => exact Or.inl ⟨by rfl, by (intro w hSw; (try dsimp only at hSw); go_simp; try with_reducible rfl)⟩
      try simp only [Act.put, List.setIfInBounds_toArray, List.set_cons_zero, List.set_cons_succ]
      refine wpE_take (i := 5) (oi := ?oi25) (v := ?v25) ?hi25 (by kernel_rfl) (by kernel_rfl) (by kernel_rfl) (by kernel_rfl) ?hQ25 ?hy25 (by assumption) ?rest25
      case hi25 => (simp only [List.getElem?_toArray]; rfl)
      case hQ25 => exact fun _ _ _ h => h
      case hy25 => exact Or.inl ⟨by rfl, by (intro w hSw; (try dsimp only at hSw); go_simp; try with_reducible rfl)⟩
      try simp only [Act.put, List.setIfInBounds_toArray, List.set_cons_zero, List.set_cons_succ]
      refine wpE_one (i := 1) (o := ?o38) ?ho38 (by kernel_rfl) (fun K hK => ?_)
      case ho38 => (simp only [List.getElem?_toArray]; rfl)
      go_simp
      go_at_call 15
      have hbd := Below.drewN_of wu 1
      have PD : Hid (PR W wu.drew pb pw L) := Lib.hid (PU.out.below hbd)
      refine (ob_orders PD.out.ob).mono ?_
      rintro e w1 ⟨v, rfl, hr, hb⟩
      obtain ⟨ra, rc, rfl, _, hrd⟩ := hr.rd
      have hb1 : Below wu.heap.size wu w1 := hbd.trans (hb.mono hbd.size)
      have HB1 := Lib.hid hb1
      have HOS := Lib.hid (orders_same L ra a rc c w1 hrd (HRD.out.below hb1) hl250)
      refine hK.out _ _ (HSS.out _ hb1) (fun hHeld => ?_)
      clear hK K hr hb hrd hb1 hbd PD
      refine wpE_one (i := 6) (o := ?o39) ?ho39 (by kernel_rfl) (fun K hK => ?_)
      case ho39 => (simp only [List.getElem?_toArray]; rfl)
      go_simp
      go_at_call 43
      refine HOS.out.mono ?_
      rintro e w2 ⟨rfl, hb⟩
      have hb2 := HB1.out.trans (hb.mono HB1.out.size)
      have HB2 := Lib.hid hb2
      have P2 := Lib.hid (PU.out.below hb2)
      refine hK.out _ _ (HSS.out _ hb2) (fun hHeld => ?_)
      clear hK K hb hb2
      refine wpE_take (i := 7) (oi := ?oi26) (v := ?v26) ?hi26 (by kernel_rfl) (by kernel_rfl) (by kernel_rfl) (by kernel_rfl) ?hQ26 ?hy26 (by assumption) ?rest26
      case hi26 => (simp only [List.getElem?_toArray]; rfl)
      case hQ26 => exact fun _ _ _ h => h
      case hy26 => exact Or.inl ⟨by rfl, by (intro w hSw; (try dsimp only at hSw); go_simp; try with_reducible rfl)⟩
      try simp only [Act.put, List.setIfInBounds_toArray, List.set_cons_zero, List.set_cons_succ]
      refine wpE_take (i := 8) (oi := ?oi27) (v := ?v27) ?hi27 (by kernel_rfl) (by kernel_rfl) (by kernel_rfl) (by kernel_rfl) ?hQ27 ?hy27 (by assumption) ?rest27
      case hi27 => (simp only [List.getElem?_toArray]; rfl)
      case hQ27 => exact fun _ _ _ h => h
      case hy27 => exact Or.inl ⟨by rfl, by (intro w hSw; (try dsimp only at hSw); go_simp; try with_reducible rfl)⟩
      try simp only [Act.put, List.setIfInBounds_toArray, List.set_cons_zero, List.set_cons_succ]
      refine wpE_take (i := 10) (oi := ?oi28) (v := ?v28) ?hi28 (by kernel_rfl) (by kernel_rfl) (by kernel_rfl) (by kernel_rfl) ?hQ28 ?hy28 (by assumption) ?rest28
      case hi28 => (simp only [List.getElem?_toArray]; rfl)
      case hQ28 => exact fun _ _ _ h => h
      case hy28 => exact Or.inl ⟨by rfl, by (intro w hSw; (try dsimp only at hSw); go_simp; try with_reducible rfl)⟩
      try simp only [Act.put, List.setIfInBounds_toArray, List.set_cons_zero, List.set_cons_succ]
      refine wpE_take (i := 11) (oi := ?oi29) (v := ?v29) ?hi29 (by kernel_rfl) (by kernel_rfl) (by kernel_rfl) (by kernel_rfl) ?hQ29 ?hy29 (by assumption) ?rest29
      case hi29 => (simp only [List.getElem?_toArray]; rfl)
      case hQ29 => exact fun _ _ _ h => h
      case hy29 => exact Or.inl ⟨by rfl, by (intro w hSw; (try dsimp only at hSw); go_simp; try with_reducible rfl)⟩
      try simp only [Act.put, List.setIfInBounds_toArray, List.set_cons_zero, List.set_cons_succ]
      refine wpE_take (i := 12) (oi := ?oi30) (v := ?v30) ?hi30 (by kernel_rfl) (by kernel_rfl) (by kernel_rfl) (by kernel_rfl) ?hQ30 ?hy30 (by assumption) ?rest30
      case hi30 => (simp only [List.getElem?_toArray]; rfl)
      case hQ30 => exact fun _ _ _ h => h
      case hy30 => exact Or.inl ⟨by rfl, by (intro w hSw; (try dsimp only at hSw); go_simp; try with_reducible rfl)⟩
      try simp only [Act.put, List.setIfInBounds_toArray, List.set_cons_zero, List.set_cons_succ]
      refine wpE_take (i := 13) (oi := ?oi31) (v := ?v31) ?hi31 (by kernel_rfl) (by kernel_rfl) (by kernel_rfl) (by kernel_rfl) ?hQ31 ?hy31 (by assumption) ?rest31
      case hi31 => (simp only [List.getElem?_toArray]; rfl)
      case hQ31 => exact fun _ _ _ h => h
      case hy31 => exact Or.inl ⟨by rfl, by (intro w hSw; (try dsimp only at hSw); go_simp; try with_reducible rfl)⟩
      try simp only [Act.put, List.setIfInBounds_toArray, List.set_cons_zero, List.set_cons_succ]
      refine wpE_take (i := 14) (oi := ?oi32) (v := ?v32) ?hi32 (by kernel_rfl) (by kernel_rfl) (by kernel_rfl) (by kernel_rfl) ?hQ32 ?hy32 (by assumption) ?rest32
      case hi32 => (simp only [List.getElem?_toArray]; rfl)
      case hQ32 => exact fun _ _ _ h => h
      case hy32 => exact Or.inl ⟨by rfl, by (intro w hSw; (try dsimp only at hSw); go_simp; try with_reducible rfl)⟩
      try simp only [Act.put, List.setIfInBounds_toArray, List.set_cons_zero, List.set_cons_succ]
      refine wpE_one (i := 9) (o := ?o40) ?ho40 (by kernel_rfl) (fun K hK => ?_)
      case ho40 => (simp only [List.getElem?_toArray]; rfl)
      go_simp
      go_at_call 18
      refine (ob_count P2.out.ob).mono ?_
      rintro e w3 ⟨rfl, rfl⟩
      refine hK.out _ _ hHeld (fun hHeld => ?_)
      clear hK K
      refine wpE_take (i := 15) (oi := ?oi33) (v := ?v33) ?hi33 (by kernel_rfl) (by kernel_rfl) (by kernel_rfl) (by kernel_rfl) ?hQ33 ?hy33 (by assumption) ?rest33
      case hi33 => (simp only [List.getElem?_toArray]; rfl)
      case hQ33 => exact fun _ _ _ h => h
      case hy33 => exact Or.inl ⟨by rfl, by (intro w hSw; (try dsimp only at hSw); go_simp; try with_reducible rfl)⟩
      try simp only [Act.put, List.setIfInBounds_toArray, List.set_cons_zero, List.set_cons_succ]
      refine wpE_take (i := 16) (oi := ?oi34) (v := ?v34) ?hi34 (by kernel_rfl) (by kernel_rfl) (by kernel_rfl) (by kernel_rfl) ?hQ34 ?hy34 (by assumption) ?rest34
      case hi34 => (simp only [List.getElem?_toArray]; rfl)
      case hQ34 => exact fun _ _ _ h => h
      case hy34 => exact Or.inl ⟨by rfl, by (intro w hSw; (try dsimp only at hSw); go_simp; try with_reducible rfl)⟩
      try simp only [Act.put, List.setIfInBounds_toArray, List.set_cons_zero, List.set_cons_succ]
      refine wpE_last (i := 17) (o := ?o42) ?ho42 (by kernel_rfl) (by kernel_rfl) (by kernel_rfl) (fun K hK => ?_)
      case ho42 => (simp only [List.getElem?_toArray]; rfl)
      go_simp
      refine hK.out _ _ ?_
      clear hK K hHeld
      have HBF := Lib.hid (BU.out.trans (HB2.out.mono BU.out.size))
      go_wp2_with fail
      go_ret
      exact ⟨by trivial, HBF.out⟩
end Go.Proofs.Ytmhljdkhekjfmaa
