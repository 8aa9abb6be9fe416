/- Merged: BW3 BW4 BW5 BW6 BW7. -/
import Derived.Test.YtmhljdkhekjfmaaMD
/- The walk of the book's drop. -/
namespace Go.Proofs.Ytmhljdkhekjfmaa
open Go.RowKit

/-- what drop leaves of who is top -/
def dropT (a : BA) (id side : Int) : BA := if a.h side = true ∧ a.t side = id then a.setH side false else a
theorem dropT_R (a : BA) (id side s : Int) : (dropT a id side).R s = a.R s := by
  unfold dropT BA.setH
  split
  · split <;> rfl
  · rfl
theorem dropT_A (a : BA) (id side : Int) : (dropT a id side).A = a.A := by
  unfold dropT BA.setH
  split
  · split <;> rfl
  · rfl
theorem dropT_sp (a : BA) (id side : Int) : (dropT a id side).sp = a.sp := by
  unfold dropT BA.setH
  split
  · split <;> rfl
  · rfl
theorem dropB_eq {a : BA} {id : Int} {x : Pl} {r : Rg} (hr : (a.R x.side)[(fnd (a.R x.side) x.side x.price).1]? = some r) :
    dropB a id x = if cntA a.A r.q = 0 then (({ dropT { a with M := dropPl a.M id } id x.side with sp := a.sp ++ [r.q] } : BA).setR x.side ((a.R x.side).eraseIdx (fnd (a.R x.side) x.side x.price).1)) else dropT { a with M := dropPl a.M id } id x.side := by
  unfold dropB
  have e1 := dropT_R { a with M := dropPl a.M id } id x.side x.side
  have e2 := dropT_A { a with M := dropPl a.M id } id x.side
  have e3 := dropT_sp { a with M := dropPl a.M id } id x.side
  show (match ((dropT { a with M := dropPl a.M id } id x.side).R x.side)[(fnd ((dropT { a with M := dropPl a.M id } id x.side).R x.side) x.side x.price).1]? with
    | some r => if cntA (dropT { a with M := dropPl a.M id } id x.side).A r.q = 0 then ({ dropT { a with M := dropPl a.M id } id x.side with sp := (dropT { a with M := dropPl a.M id } id x.side).sp ++ [r.q] } : BA).setR x.side (((dropT { a with M := dropPl a.M id } id x.side).R x.side).eraseIdx (fnd ((dropT { a with M := dropPl a.M id } id x.side).R x.side) x.side x.price).1) else dropT { a with M := dropPl a.M id } id x.side
    | none => dropT { a with M := dropPl a.M id } id x.side) = _
  rw [e1, e2, e3, show ({ a with M := dropPl a.M id } : BA).R x.side = a.R x.side from rfl, hr]
section
variable {w w' : World} {pb B : Nat} {d : BD}
set_option maxRecDepth 100000 in
set_option maxHeartbeats 16000000 in
theorem drop_any (h : Bk w pb d B) (id : Int) (x : Pl) (hs : x.side = 1 ∨ x.side = 2) (r : Rg) (hr : (d.R x.side)[(fnd (d.R x.side) x.side x.price).1]? = some r) (hl : (d.R x.side).length ≤ 1000) (hsp : d.sp.length ≤ 100000) (hB : B ≤ w.heap.size) :
    Calls Try.prog 33 #[.pointer (some ⟨pb, 0, none⟩), .int .i64 id, .agg #[.int .i64 x.side, .int .i64 x.price, .int .i64 x.slot]] w fun e w' => e = .returned (.tuple #[]) ∧ ∃ d', Tn w w' pb B d d' ∧ d'.abs = dropB d.abs id x := by
  have s1 : ∀ (w : World) (o : Obj), (w.alloc o).heap.size = w.heap.size + 1 := fun w o => by simp
  obtain ⟨z, hz, hsz, yz⟩ := side_z hs
  have hz2 : (z : Int) < 2 := by omega
  have HSZ := Lib.hid hsz
  have HE : Hid (dropB d.abs id x = if cntA d.A r.q = 0 then (({ dropT { d.abs with M := dropPl d.M id } id x.side with sp := d.sp ++ [r.q] } : BA).setR x.side ((d.R x.side).eraseIdx (fnd (d.R x.side) x.side x.price).1)) else dropT { d.abs with M := dropPl d.M id } id x.side) := Lib.hid (dropB_eq hr)
  have HR0 := Lib.hid hr
  have hb0 := Below.allocN w (.cells #[.int .i64 x.side, .int .i64 x.price, .int .i64 x.slot] 71)
  have hx0 : Blk (w.alloc (.cells #[.int .i64 x.side, .int .i64 x.price, .int .i64 x.slot] 71)) w.heap.size 71 #[.int .i64 x.side, .int .i64 x.price, .int .i64 x.slot] := Blk.new _ _ _
  have ht0 := Tn.of_below h hb0
  have HS := Lib.hid hs
  clear hr hsz hs
  go_enter Try.func33, Try.ntmps33
  go_upto_region 1 with (fail)
  obtain ⟨gx, hgx⟩ : ∃ gx, w.heap.size = gx := ⟨_, rfl⟩
  rw [hgx] at hx0 ⊢
  have HGX : Hid (w.heap.size ≤ gx) := Lib.hid (by omega)
  clear hgx
  generalize w.alloc (.cells #[.int .i64 x.side, .int .i64 x.price, .int .i64 x.slot] 71) = w1 at *
  obtain ⟨w2, hdel, hm2, hk2, hs2⟩ := ht0.bk.mp.delete (P := Try.prog) Try.underlying58 Try.underlying2 id 0
  have c3 := (BC.of ht0.bk.box).2.2.2.1
  have hx2 : Blk w2 gx 71 #[.int .i64 x.side, .int .i64 x.price, .int .i64 x.slot] := hx0.keeps hk2 (by rintro rfl; exact ht0.bk.mp.not_cells hx0.tyd)
  have ht2 := ht0.trans (ht0.bk.map_ (M' := dropPl d.M id) (by rw [← drop_mv]; exact hm2) hk2)
  have HT := Lib.hid ht2
  have HX := Lib.hid hx2
  clear h ht0 hx0 hb0 hm2 hk2 hs2 ht2 hx2
  go_upto_region 2 with (fail)
  clear hdel c3
  have x0 : w2.cell? ⟨gx, 0, none⟩ = some (.int .i64 x.side) := HX.out.cell 0
  obtain ⟨t1, t2⟩ := HT.out.bk.t_cell hz HSZ.out
  generalize hd1 : ({ d with M := dropPl d.M id } : BD) = d1 at *
  have HAB : Hid (d1.abs = { d.abs with M := dropPl d.M id }) := Lib.hid (by rw [← hd1]; rfl)
  have HRR : Hid (d1.R x.side = d.R x.side) := Lib.hid (by rw [← hd1]; rfl)
  have HAA : Hid (d1.A = d.A ∧ d1.sp = d.sp) := Lib.hid (by rw [← hd1]; exact ⟨rfl, rfl⟩)
  clear hd1
  obtain ⟨hh, hhe⟩ : ∃ b, d1.abs.h x.side = b := ⟨_, rfl⟩
  obtain ⟨tt, hte⟩ : ∃ t, d1.abs.t x.side = t := ⟨_, rfl⟩
  obtain ⟨bb, hbe⟩ : ∃ b, (tt == id) = b := ⟨_, rfl⟩
  rw [hhe] at t2
  rw [hte] at t1
  have HDT : Hid (dropT d1.abs id x.side = if hh = true ∧ bb = true then d1.abs.setH x.side false else d1.abs) := Lib.hid (by
    unfold dropT
    rw [hhe, hte, ← hbe]
    simp only [beq_iff_eq])
  have HHE := Lib.hid hhe
  clear hhe hte
  have fz : ∀ o, w2.frozen? ⟨pb, o, none⟩ = false := fun o => HT.out.bk.box.frozen o
  have n2 : ¬ (7 + z = 4 + z) := by omega
  have HBS := Lib.hid fun (k : Nat) => Tn.setH (HT.out.bk.below (Below.drewN_of w2 k)) hz HSZ.out false
  go_cut [33] (fun b wx => b = .bool (hh && bb) ∧ ∃ k, wx = w2.drewN k)
  case first =>
    cases hh with
    | false =>
      go_quiet (fail)
      go_wp2_with fail
      go_meet
      exact ⟨by rfl, _, rfl⟩
    | true =>
      go_quiet (fail)
      go_wp2_with fail
      go_meet
      exact ⟨by rfl, _, rfl⟩
  case rest =>
  obtain ⟨rfl, nk, rfl⟩ := hcut
  have HT3 := Lib.hid (HT.out.below (Below.drewN_of w2 nk))
  have HX3 := Lib.hid (HX.out.below (Below.drewN_of w2 nk))
  clear HT HX HBS fz t1 t2 x0
  generalize w2.drewN nk = w3 at *
  obtain ⟨hb, hhb⟩ : ∃ b, (hh && bb) = b := ⟨_, rfl⟩
  rw [hhb]
  have HDT2 : Hid (dropT d1.abs id x.side = if hb = true then d1.abs.setH x.side false else d1.abs) := Lib.hid (by
    rw [HDT.out, ← hhb]
    simp only [Bool.and_eq_true])
  clear hhb HDT hbe
  go_upto_if 33 with (fail)
  go_cut [33] (fun _ wx => ∃ d2, Tn w wx pb B d d2 ∧ d2.abs = dropT d1.abs id x.side ∧ Blk wx gx 71 #[.int .i64 x.side, .int .i64 x.price, .int .i64 x.slot])
  case first =>
    cases hb with
    | true =>
      have x0 : w3.cell? ⟨gx, 0, none⟩ = some (.int .i64 x.side) := HX3.out.cell 0
      obtain ⟨t1, t2⟩ := HT3.out.bk.t_cell hz HSZ.out
      have fz : ∀ o, w3.frozen? ⟨pb, o, none⟩ = false := fun o => HT3.out.bk.box.frozen o
      obtain ⟨d2, h1, h2⟩ := Tn.setH HT3.out.bk hz HSZ.out false
      have H1 := Lib.hid ((HT3.out.trans h1).below (Below.drewN_of _ 1))
      have H2 := Lib.hid h2
      have HX4 := Lib.hid ((HX3.out.far (p := ⟨pb, 7 + z, none⟩) (HX3.out.tyd.ne HT3.out.bk.box.tyd (by decide)) (.bool false)).below (Below.drewN_of _ 1))
      clear h1 h2
      go_wp2_with fail
      go_region
      go_wp2_with fail
      go_meet
      exact ⟨d2, H1.out, by rw [H2.out, HDT2.out]; rfl, HX4.out⟩
    | false =>
      go_wp2_with fail
      go_meet
      exact ⟨d1, HT3.out, by rw [HDT2.out]; rfl, HX3.out⟩
  case rest =>
  obtain ⟨d2, ht, ha, hx⟩ := hcut
  obtain ⟨wx, rfl⟩ : ∃ wo : World, wo = wc := ⟨_, rfl⟩
  have HT := Lib.hid ht
  have HX := Lib.hid hx
  have HA2 : Hid (d2.abs = dropT { d.abs with M := dropPl d.M id } id x.side) := Lib.hid (by rw [ha, HAB.out])
  have hR2 : d2.R x.side = d.R x.side := by
    rw [← HRR.out]
    show d2.abs.R x.side = d1.abs.R x.side
    rw [ha, dropT_R]
  have hA2 : d2.A = d.A ∧ d2.sp = d.sp := by
    have e1 : d2.abs.A = d1.abs.A := by rw [ha, dropT_A]
    have e2 : d2.abs.sp = d1.abs.sp := by rw [ha, dropT_sp]
    exact ⟨e1.trans HAA.out.1, e2.trans HAA.out.2⟩
  have x0 : wx.cell? ⟨gx, 0, none⟩ = some (.int .i64 x.side) := hx.cell 0
  have x1 : wx.cell? ⟨gx, 1, none⟩ = some (.int .i64 x.price) := hx.cell 1
  have hfi := find_any9 ht.bk x.side x.price HS.out (by rw [hR2]; omega)
  rw [hR2] at hfi
  have HF := Lib.hid hfi
  have HRA := Lib.hid hR2
  have HAA2 := Lib.hid hA2
  clear ht hx ha hR2 hA2 hfi HDT2 HHE HAB HRR HAA HX3 HT3
  go_wp2_with fail
  refine HF.out.mono ?_
  rintro e w4 ⟨rfl, hb⟩
  have HT4 := Lib.hid (HT.out.below hb)
  have HX4 := Lib.hid (HX.out.below hb)
  clear hb HF HT HX x0 x1
  have hr := HR0.out
  generalize (fnd (d.R x.side) x.side x.price).1 = n at *
  generalize (fnd (d.R x.side) x.side x.price).2 = fb at *
  obtain ⟨a2, c2, hs2, hrd2, hc2⟩ := HT4.out.bk.side_cell hz HSZ.out
  rw [HRA.out] at hs2 hrd2 hc2
  obtain ⟨rb, off, rfl, hrb, hcr⟩ := hrd2 n r hr
  have c1 := hc2 w4 (Below.refl _ _)
  have hnl : (n : Int) < ((d.R x.side).length : Int) := by have := lt_of_get hr; omega
  have hnl2 : n < (d.R x.side).length := lt_of_get hr
  have r1 : w4.cell? ⟨rb, off + n * 2 + 1, none⟩ = some (.int .i64 r.q) := hcr 1 _ rfl
  have x0 : w4.cell? ⟨gx, 0, none⟩ = some (.int .i64 x.side) := HX4.out.cell 0
  clear hs2 hrd2 hc2 hrb hcr hr
  go_upto_region 5 with (fail)
  go_quiet (fail)
  clear c1 r1 x0
  have HT5 := Lib.hid (HT4.out.below (Below.drewN_of w4 nq))
  have HX5 := Lib.hid (HX4.out.below (Below.drewN_of w4 nq))
  clear HT4 HX4
  generalize w4.drewN nq = w5 at *
  have c0 : w5.cell? ⟨pb, 0, none⟩ = some (.pointer (some ⟨d2.ab, 0, none⟩)) := (BC.of HT5.out.bk.box).1
  have hct := la_count HT5.out.bk.la (r.q : Int)
  rw [HAA2.out.1] at hct
  go_wp2_with fail
  refine hct.mono ?_
  rintro e w6 ⟨rfl, rfl⟩
  clear hct
  by_cases hq0 : cntA d.A r.q = 0
  · have hqb : (cntA d.A r.q == 0) = true := by rw [beq_iff_eq]; exact hq0
    rw [if_pos hq0] at HE
    clear hq0 c0
    have hsr := HT5.out.bk.sp
    obtain ⟨sa, sc, hsv⟩ := own_form hsr
    rw [List.length_map, HAA2.out.2] at hsv
    have c6 : w5.cell? ⟨pb, 6, none⟩ = some (.slice sa d.sp.length sc) := by rw [← hsv]; exact (BC.of HT5.out.bk.box).2.2.2.2.2.2.1
    have f6 : w5.frozen? ⟨pb, 6, none⟩ = false := HT5.out.bk.box.frozen 6
    have HT6 := Lib.hid (HT5.out.below (Below.allocN w5 (.cells #[.int .i64 r.q] 3)))
    have hsr6 := HT6.out.bk.sp
    rw [hsv, HAA2.out.2] at hsr6
    have HSR := Lib.hid hsr6
    have HSV := Lib.hid hsv
    have HX6 := Lib.hid (HX5.out.below (Below.allocN w5 (.cells #[.int .i64 r.q] 3)))
    have HLE : Hid (B ≤ (w5.alloc (.cells #[.int .i64 r.q] 3)).heap.size) := Lib.hid (Nat.le_trans hB HT6.out.kp.size)
    have hc0 : (w5.alloc (.cells #[.int .i64 r.q] 3)).cell? ⟨w5.heap.size, 0, none⟩ = some (.int .i64 r.q) := by rw [(Blk.new w5 3 #[.int .i64 r.q]).cell]; rfl
    have HC0 := Lib.hid hc0
    clear hsr hsv hsr6 hc0
    go_wp2_with (first
      | (at_builtin; go_loud (refine push_int rfl (.tmp 73) (.tmp 75) rfl B sa sc d.sp.length (d.sp.map (fun (n : Nat) => (n : Int))) (List.length_map _) rfl HSR.out w5.heap.size r.q rfl HC0.out (by omega) HLE.out ?_)))
    intro g' cap w6 hr6 hg6 ho6
    have hk6 := grown_keeps hg6
    have hbx6 : Blk w6 pb 65 d2.cells := HT6.out.bk.box.keeps hk6 (fun ho => (own_tyd HSR.out _ ho).ne HT6.out.bk.box.tyd (by decide) rfl)
    have c6' : w6.cell? ⟨pb, 6, none⟩ = some (.slice sa d.sp.length sc) := by rw [← HSV.out]; exact (BC.of hbx6).2.2.2.2.2.2.1
    have f6' : w6.frozen? ⟨pb, 6, none⟩ = false := hbx6.frozen 6
    have hx6 : Blk w6 gx 71 #[.int .i64 x.side, .int .i64 x.price, .int .i64 x.slot] := HX6.out.keeps hk6 (fun ho => (own_tyd HSR.out _ ho).ne HX6.out.tyd (by decide) rfl)
    have hon : ∀ g, (Value.slice (some ⟨g', 0, none⟩) (d.sp.length + 1) cap).ownBlock = some g → d2.spv.ownBlock = some g ∨ (w5.alloc (.cells #[.int .i64 r.q] 3)).heap.size ≤ g := by
      intro g hg
      have hg' : some g' = some g := hg
      injection hg' with hg'
      rcases ho6 with ho6 | ho6
      · left; rw [HSV.out, ho6, ← hg']; rfl
      · right; rw [s1]; omega
    have ht7 := HT6.out.trans (HT6.out.bk.spare (L' := d.sp ++ [r.q]) (by rw [List.map_append]; exact hr6) (by rw [HSV.out]; exact hk6) hon)
    have HT7 := Lib.hid ht7
    have HX7 := Lib.hid (hx6.far (p := ⟨pb, 6, none⟩) (hx6.tyd.ne hbx6.tyd (by decide)) (.slice (some ⟨g', 0, none⟩) (d.sp.length + 1) cap))
    generalize hd3 : ({ d2 with spv := .slice (some ⟨g', 0, none⟩) (d.sp.length + 1) cap, sp := d.sp ++ [r.q] } : BD) = d3 at *
    have HA3 : Hid (d3.abs = { dropT { d.abs with M := dropPl d.M id } id x.side with sp := d.sp ++ [r.q] }) := Lib.hid (by rw [← hd3, ← HA2.out]; rfl)
    have HRR3 : Hid (d3.R x.side = d.R x.side) := Lib.hid (by rw [← HRA.out, ← hd3]; rfl)
    clear hr6 hg6 ho6 hk6 hbx6 hx6 hon ht7 hd3 HT5 HT6 HX5 HX6 HSR HSV HC0 HLE c6 f6
    go_upto_region 8 with (fail)
    clear c6' f6'
    generalize w6.setCell ⟨pb, 6, none⟩ (.slice (some ⟨g', 0, none⟩) (d.sp.length + 1) cap) = w7 at *
    obtain ⟨a1, c1', hsv1, _, hrd1⟩ := (HT7.out.bk.row x.side).rd
    have HROW : Hid (RG.Row w7 B (.slice a1 (d.R x.side).length c1') (d.R x.side)) := Lib.hid (by
      have h := HT7.out.bk.row x.side
      rw [hsv1, HRR3.out] at h
      exact h)
    rw [HRR3.out] at hsv1
    have HSV1 := Lib.hid hsv1
    have hcs : ∀ wv, Below w7.heap.size w7 wv → wv.cell? ⟨pb, 1 + z, none⟩ = some (.slice a1 (d.R x.side).length c1') := by
      intro wv hb
      obtain ⟨a2, c2, hs2, _, hc2⟩ := HT7.out.bk.side_cell hz HSZ.out
      rw [HRR3.out] at hs2 hc2
      have e := hsv1.symm.trans hs2
      injection e with e1 _ e3
      rw [e1, e3]
      exact hc2 wv hb
    have HCS := Lib.hid hcs
    have x0 : w7.cell? ⟨gx, 0, none⟩ = some (.int .i64 x.side) := HX7.out.cell 0
    have y9 : IntKind.i64.wrap ((n : Int) + 1) = (n : Int) + 1 := IntWalk.i64_in _ (by omega)
    have HT8 := Lib.hid (HT7.out.below (Below.drewN_of w7 1))
    have HROW8 : Hid (RG.Row w7.drew B (.slice a1 (d.R x.side).length c1') (d.R x.side)) := Lib.hid (HROW.out.below (Below.drewN_of w7 1))
    clear hsv1 hrd1 hcs
    refine wp_region_E (S := fun w' => w'.cell? ⟨pb, 1 + z, none⟩ = some (.slice a1 (d.R x.side).length c1') ∧ w'.cell? ⟨gx, 0, none⟩ = some (.int .i64 x.side)) (by kernel_rfl) ⟨HCS.out w7 (Below.refl _ _), x0⟩ (fun hHeld => ?_)
    refine wpE_take (i := 0) (oi := ?oi1) (v := ?v1) ?hi1 (by kernel_rfl) (by kernel_rfl) (by kernel_rfl) (by kernel_rfl) ?hQ1 ?hy1 (by assumption) ?rest1
    case hi1 => (simp only [List.getElem?_toArray]; rfl)
    case hQ1 => exact fun _ _ _ h => h
    case hy1 => exact Or.inl ⟨by rfl, by (intro w hSw; (try dsimp only at hSw); go_simp; try with_reducible rfl)⟩
    try simp only [Act.put, List.setIfInBounds_toArray, List.set_cons_zero, List.set_cons_succ]
    refine wpE_take (i := 1) (oi := ?oi2) (v := ?v2) ?hi2 (by kernel_rfl) (by kernel_rfl) (by kernel_rfl) (by kernel_rfl) ?hQ2 ?hy2 (by assumption) ?rest2
    case hi2 => (simp only [List.getElem?_toArray]; rfl)
    case hQ2 => exact fun _ _ _ h => h
    case hy2 => exact Or.inl ⟨by rfl, by (intro w hSw; (try dsimp only at hSw); go_simp; try with_reducible rfl)⟩
    try simp only [Act.put, List.setIfInBounds_toArray, List.set_cons_zero, List.set_cons_succ]
    refine wpE_take (i := 2) (oi := ?oi3) (v := ?v3) ?hi3 (by kernel_rfl) (by kernel_rfl) (by kernel_rfl) (by kernel_rfl) ?hQ3 ?hy3 (by assumption) ?rest3
    case hi3 => (simp only [List.getElem?_toArray]; rfl)
    case hQ3 => exact fun _ _ _ h => h
    case hy3 => exact Or.inl ⟨by rfl, by (intro w hSw; (try dsimp only at hSw); go_simp; try with_reducible rfl)⟩
    try simp only [Act.put, List.setIfInBounds_toArray, List.set_cons_zero, List.set_cons_succ]
    refine wpE_take (i := 3) (oi := ?oi4) (v := ?v4) ?hi4 (by kernel_rfl) (by kernel_rfl) (by kernel_rfl) (by kernel_rfl) ?hQ4 ?hy4 (by assumption) ?rest4
    case hi4 => (simp only [List.getElem?_toArray]; rfl)
    case hQ4 => exact fun _ _ _ h => h
    case hy4 => exact Or.inl ⟨by rfl, by (intro w hSw; (try dsimp only at hSw); go_simp; try with_reducible rfl)⟩
    try simp only [Act.put, List.setIfInBounds_toArray, List.set_cons_zero, List.set_cons_succ]
    refine wpE_take (i := 4) (oi := ?oi5) (v := ?v5) ?hi5 (by kernel_rfl) (by kernel_rfl) (by kernel_rfl) (by kernel_rfl) ?hQ5 ?hy5 (by assumption) ?rest5
    case hi5 => (simp only [List.getElem?_toArray]; rfl)
    case hQ5 => exact fun _ _ _ h => h
    case hy5 => exact Or.inl ⟨by rfl, by (intro w hSw; (try dsimp only at hSw); go_simp; try with_reducible rfl)⟩
    try simp only [Act.put, List.setIfInBounds_toArray, List.set_cons_zero, List.set_cons_succ]
    refine wpE_take (i := 5) (oi := ?oi6) (v := ?v6) ?hi6 (by kernel_rfl) (by kernel_rfl) (by kernel_rfl) (by kernel_rfl) ?hQ6 ?hy6 (by assumption) ?rest6
    case hi6 => (simp only [List.getElem?_toArray]; rfl)
    case hQ6 => exact fun _ _ _ h => h
    case hy6 => exact Or.inl ⟨by rfl, by (intro w hSw; (try dsimp only at hSw); go_simp; try with_reducible rfl)⟩
    try simp only [Act.put, List.setIfInBounds_toArray, List.set_cons_zero, List.set_cons_succ]
    refine wpE_take (i := 6) (oi := ?oi7) (v := ?v7) ?hi7 (by kernel_rfl) (by kernel_rfl) (by kernel_rfl) (by kernel_rfl) ?hQ7 ?hy7 (by assumption) ?rest7
    case hi7 => (simp only [List.getElem?_toArray]; rfl)
    case hQ7 => exact fun _ _ _ h => h
    case hy7 => exact Or.inl ⟨by rfl, by (intro w hSw; (try dsimp only at hSw); go_simp; try with_reducible rfl)⟩
    try simp only [Act.put, List.setIfInBounds_toArray, List.set_cons_zero, List.set_cons_succ]
    refine wpE_take (i := 7) (oi := ?oi8) (v := ?v8) ?hi8 (by kernel_rfl) (by kernel_rfl) (by kernel_rfl) (by kernel_rfl) ?hQ8 ?hy8 (by assumption) ?rest8
    case hi8 => (simp only [List.getElem?_toArray]; rfl)
    case hQ8 => exact fun _ _ _ h => h
    case hy8 => exact Or.inl ⟨by rfl, by (intro w hSw; (try dsimp only at hSw); go_simp; try with_reducible rfl)⟩
    try simp only [Act.put, List.setIfInBounds_toArray, List.set_cons_zero, List.set_cons_succ]
    refine wpE_take (i := 8) (oi := ?oi9) (v := ?v9) ?hi9 (by kernel_rfl) (by kernel_rfl) (by kernel_rfl) (by kernel_rfl) ?hQ9 ?hy9 (by assumption) ?rest9
    case hi9 => (simp only [List.getElem?_toArray]; rfl)
    case hQ9 => exact fun _ _ _ h => h
    case hy9 => exact Or.inl ⟨by rfl, by (intro w hSw; (try dsimp only at hSw); go_simp; try with_reducible rfl)⟩
    try simp only [Act.put, List.setIfInBounds_toArray, List.set_cons_zero, List.set_cons_succ]
    refine wpE_take (i := 9) (oi := ?oi10) (v := ?v10) ?hi10 (by kernel_rfl) (by kernel_rfl) (by kernel_rfl) (by kernel_rfl) ?hQ10 ?hy10 (by assumption) ?rest10
    case hi10 => (simp only [List.getElem?_toArray]; rfl)
    case hQ10 => exact fun _ _ _ h => h
    case hy10 => exact Or.inl ⟨by rfl, by (intro w hSw; (try dsimp only at hSw); go_simp; try with_reducible rfl)⟩
    try simp only [Act.put, List.setIfInBounds_toArray, List.set_cons_zero, List.set_cons_succ]
    refine wpE_take (i := 10) (oi := ?oi11) (v := ?v11) ?hi11 (by kernel_rfl) (by kernel_rfl) (by kernel_rfl) (by kernel_rfl) ?hQ11 ?hy11 (by assumption) ?rest11
    case hi11 => (simp only [List.getElem?_toArray]; rfl)
    case hQ11 => exact fun _ _ _ h => h
    case hy11 => exact Or.inl ⟨by rfl, by (intro w hSw; (try dsimp only at hSw); go_simp; try with_reducible rfl)⟩
    try simp only [Act.put, List.setIfInBounds_toArray, List.set_cons_zero, List.set_cons_succ]
    refine wpE_take (i := 11) (oi := ?oi12) (v := ?v12) ?hi12 (by kernel_rfl) (by kernel_rfl) (by kernel_rfl) (by kernel_rfl) ?hQ12 ?hy12 (by assumption) ?rest12
    case hi12 => (simp only [List.getElem?_toArray]; rfl)
    case hQ12 => exact fun _ _ _ h => h
    case hy12 => exact Or.inl ⟨by rfl, by (intro w hSw; (try dsimp only at hSw); go_simp; try with_reducible rfl)⟩
    try simp only [Act.put, List.setIfInBounds_toArray, List.set_cons_zero, List.set_cons_succ]
    refine wpE_take (i := 12) (oi := ?oi13) (v := ?v13) ?hi13 (by kernel_rfl) (by kernel_rfl) (by kernel_rfl) (by kernel_rfl) ?hQ13 ?hy13 (by assumption) ?rest13
    case hi13 => (simp only [List.getElem?_toArray]; rfl)
    case hQ13 => exact fun _ _ _ h => h
    case hy13 => exact Or.inl ⟨by rfl, by (intro w hSw; (try dsimp only at hSw); go_simp; try with_reducible rfl)⟩
    try simp only [Act.put, List.setIfInBounds_toArray, List.set_cons_zero, List.set_cons_succ]
    refine wpE_take (i := 13) (oi := ?oi14) (v := ?v14) ?hi14 (by kernel_rfl) (by kernel_rfl) (by kernel_rfl) (by kernel_rfl) ?hQ14 ?hy14 (by assumption) ?rest14
    case hi14 => (simp only [List.getElem?_toArray]; rfl)
    case hQ14 => exact fun _ _ _ h => h
    case hy14 => exact Or.inl ⟨by rfl, by (intro w hSw; (try dsimp only at hSw); go_simp; try with_reducible rfl)⟩
    try simp only [Act.put, List.setIfInBounds_toArray, List.set_cons_zero, List.set_cons_succ]
    refine wpE_take (i := 14) (oi := ?oi15) (v := ?v15) ?hi15 (by kernel_rfl) (by kernel_rfl) (by kernel_rfl) (by kernel_rfl) ?hQ15 ?hy15 (by assumption) ?rest15
    case hi15 => (simp only [List.getElem?_toArray]; rfl)
    case hQ15 => exact fun _ _ _ h => h
    case hy15 => exact Or.inl ⟨by rfl, by (intro w hSw; (try dsimp only at hSw); go_simp; try with_reducible rfl)⟩
    try simp only [Act.put, List.setIfInBounds_toArray, List.set_cons_zero, List.set_cons_succ]
    refine wpE_take (i := 16) (oi := ?oi16) (v := ?v16) ?hi16 (by kernel_rfl) (by kernel_rfl) (by kernel_rfl) (by kernel_rfl) ?hQ16 ?hy16 (by assumption) ?rest16
    case hi16 => (simp only [List.getElem?_toArray]; rfl)
    case hQ16 => exact fun _ _ _ h => h
    case hy16 => exact Or.inl ⟨by rfl, by (intro w hSw; (try dsimp only at hSw); go_simp; try with_reducible rfl)⟩
    try simp only [Act.put, List.setIfInBounds_toArray, List.set_cons_zero, List.set_cons_succ]
    refine wpE_take (i := 17) (oi := ?oi17) (v := ?v17) ?hi17 (by kernel_rfl) (by kernel_rfl) (by kernel_rfl) (by kernel_rfl) ?hQ17 ?hy17 (by assumption) ?rest17
    case hi17 => (simp only [List.getElem?_toArray]; rfl)
    case hQ17 => exact fun _ _ _ h => h
    case hy17 => exact Or.inl ⟨by rfl, by (intro w hSw; (try dsimp only at hSw); go_simp; try with_reducible rfl)⟩
    try simp only [Act.put, List.setIfInBounds_toArray, List.set_cons_zero, List.set_cons_succ]
    refine wpE_one (i := 15) (o := ?o19) ?ho19 (by kernel_rfl) (fun K hK => ?_)
    case ho19 => (simp only [List.getElem?_toArray]; rfl)
    go_simp
    go_at_call 55
    refine (delete_any (w := w7.drew) HROW8.out hnl2 hl).mono ?_
    rintro e w8 ⟨v', rfl, hr8, hk8, ho8⟩
    obtain ⟨aN, cN, hvN⟩ := hr8.form
    obtain ⟨nN, hnN⟩ : ∃ nN, ((d.R x.side).eraseIdx n).length = nN := ⟨_, rfl⟩
    rw [hnN] at hvN
    subst hvN
    clear hnN
    have hbx8 : Blk w8 pb 65 d3.cells := (HT8.out.bk.box).keeps hk8 (fun ho => (own_tyd HROW8.out _ ho).ne HT8.out.bk.box.tyd (by decide) rfl)
    have hc8 : w8.cell? ⟨pb, 1 + z, none⟩ = some (.slice a1 (d.R x.side).length c1') := by
      have h1 := HCS.out _ (Below.drewN_of w7 1)
      rw [HT8.out.bk.box.cell] at h1
      rw [hbx8.cell]; exact h1
    have hf8 : w8.frozen? ⟨pb, 1 + z, none⟩ = false := hbx8.frozen _
    have hx8 : w8.cell? ⟨gx, 0, none⟩ = some (.int .i64 x.side) := (HX7.out.drew.keeps hk8 (fun ho => (own_tyd HROW8.out _ ho).ne HX7.out.drew.tyd (by decide) rfl)).cell 0
    have HR8 := Lib.hid hr8
    have HK8 := Lib.hid hk8
    have HO8 := Lib.hid ho8
    clear hr8 hk8 ho8 hbx8
    refine hK.out _ _ ⟨hc8, hx8⟩ (fun hHeld => ?_)
    clear hK K
    refine wpE_take (i := 18) (oi := ?oi18) (v := ?v18) ?hi18 (by kernel_rfl) (by kernel_rfl) (by kernel_rfl) (by kernel_rfl) ?hQ18 ?hy18 (by assumption) ?rest18
    case hi18 => (simp only [List.getElem?_toArray]; rfl)
    case hQ18 => exact fun _ _ _ h => h
    case hy18 => exact Or.inl ⟨by rfl, by (intro w hSw; (try dsimp only at hSw); go_simp; try with_reducible rfl)⟩
    try simp only [Act.put, List.setIfInBounds_toArray, List.set_cons_zero, List.set_cons_succ]
    refine wpE_last (i := 19) (o := ?o20) ?ho20 (by kernel_rfl) (by kernel_rfl) (by kernel_rfl) (fun K hK => ?_)
    case ho20 => (simp only [List.getElem?_toArray]; rfl)
    go_simp
    refine hK.out _ _ ?_
    clear hK K hHeld hc8 hf8 hx8 x0
    have htn := HT8.out.trans (HT8.out.bk.rung hz HSZ.out HR8.out (by rw [HSV1.out]; exact HK8.out) (.inl (by rw [HSV1.out]; exact HO8.out)))
    have HTN := Lib.hid (htn.below (Below.drewN_of _ 0))
    clear htn
    go_wp2_with fail
    go_end0
    refine ⟨by trivial, _, HTN.out, ?_⟩
    rw [HE.out, setR_abs, HA3.out]
  · have hqb : (cntA d.A r.q == 0) = false := by rw [beq_eq_false_iff_ne]; exact hq0
    rw [if_neg hq0] at HE
    clear hq0 c0
    go_wp2_with fail
    go_end0
    exact ⟨by trivial, d2, HT5.out, by rw [HE.out, HA2.out]⟩
end
end Go.Proofs.Ytmhljdkhekjfmaa

/- The walk of the book's Fill. -/
namespace Go.Proofs.Ytmhljdkhekjfmaa
open Go.RowKit

def fillB (a : BA) (id qty : Int) : BA × Int :=
  match lookPl a.M id with
  | none => (a, 26)
  | some p =>
    if (takeA a.A p.slot qty).2 = 0 then
      (if (findA (takeA a.A p.slot qty).1 p.slot).isSome = true ∧ (entE (takeA a.A p.slot qty).1 p.slot).id = id then { a with A := (takeA a.A p.slot qty).1 } else dropB { a with A := (takeA a.A p.slot qty).1 } id p, 0)
    else ({ a with A := (takeA a.A p.slot qty).1 }, (takeA a.A p.slot qty).2)
theorem fillB_none {a : BA} {id qty : Int} (h : lookPl a.M id = none) : fillB a id qty = (a, 26) := by unfold fillB; rw [h]
theorem fillB_some {a : BA} {id qty : Int} {p : Pl} (h : lookPl a.M id = some p) : fillB a id qty = if (takeA a.A p.slot qty).2 = 0 then
      (if (findA (takeA a.A p.slot qty).1 p.slot).isSome = true ∧ (entE (takeA a.A p.slot qty).1 p.slot).id = id then { a with A := (takeA a.A p.slot qty).1 } else dropB { a with A := (takeA a.A p.slot qty).1 } id p, 0)
    else ({ a with A := (takeA a.A p.slot qty).1 }, (takeA a.A p.slot qty).2) := by unfold fillB; rw [h]
section
variable {w w' : World} {pb B : Nat} {d : BD}
set_option maxRecDepth 100000 in
set_option maxHeartbeats 16000000 in
theorem fill_any (h : Bk w pb d B) (id qty : Int) (hW : ∀ p, lookPl d.M id = some p → (p.side = 1 ∨ p.side = 2) ∧ ∃ r, (d.R p.side)[(fnd (d.R p.side) p.side p.price).1]? = some r) (hl : ∀ side, (d.R side).length ≤ 1000) (hsp : d.sp.length ≤ 100000) (hB : B ≤ w.heap.size) :
    Calls Try.prog 14 #[.pointer (some ⟨pb, 0, none⟩), .int .i64 id, .int .i64 qty] w fun e w' => e = .returned (.int .i64 (fillB d.abs id qty).2) ∧ ∃ d', Tn w w' pb B d d' ∧ d'.abs = (fillB d.abs id qty).1 := by
  have hlk := h.look id
  have c3 := (BC.of h.box).2.2.2.1
  have HB := Lib.hid h
  cases hp : lookPl d.M id with
  | none =>
    rw [hp] at hlk
    have HE : Hid (fillB d.abs id qty = (d.abs, 26)) := Lib.hid (fillB_none hp)
    clear h hp hW
    unfold Pl.agg zeroPl at hlk
    dsimp only [Option.getD_none, Option.isSome_none] at hlk
    go_enter Try.func14, Try.ntmps14
    go_wp2_with fail
    go_ret
    exact ⟨by rw [HE.out]; rfl, d, Tn.of_below HB.out (Below.allocN _ _), by rw [HE.out]⟩
  | some p =>
    obtain ⟨hs, r, hr⟩ := hW p hp
    rw [hp] at hlk
    have HE : Hid (fillB d.abs id qty = _) := Lib.hid (fillB_some hp)
    have HS := Lib.hid hs
    have HR := Lib.hid hr
    clear h hp hW hs hr
    unfold Pl.agg at hlk
    dsimp only [Option.getD_some, Option.isSome_some] at hlk
    go_enter Try.func14, Try.ntmps14
    go_upto_region 4 with (fail)
    clear hlk c3
    have hx : Blk (w.alloc (.cells #[.int .i64 p.side, .int .i64 p.price, .int .i64 p.slot] 71)) w.heap.size 71 #[.int .i64 p.side, .int .i64 p.price, .int .i64 p.slot] := Blk.new _ _ _
    have ht := Tn.of_below HB.out (Below.allocN w (.cells #[.int .i64 p.side, .int .i64 p.price, .int .i64 p.slot] 71))
    obtain ⟨gx, hgx⟩ : ∃ gx, w.heap.size = gx := ⟨_, rfl⟩
    rw [hgx] at hx ⊢
    clear hgx
    generalize w.alloc (.cells #[.int .i64 p.side, .int .i64 p.price, .int .i64 p.slot] 71) = w1 at *
    have HT := Lib.hid ht
    have HX := Lib.hid hx
    have c0 := (BC.of ht.bk.box).1
    have x2 : w1.cell? ⟨gx, 2, none⟩ = some (.int .i64 p.slot) := hx.cell 2
    clear ht hx
    refine wp_region_E (S := fun w' => w'.cell? ⟨pb, 0, none⟩ = some (.pointer (some ⟨d.ab, 0, none⟩)) ∧ w'.cell? ⟨gx, 2, none⟩ = some (.int .i64 p.slot)) (by kernel_rfl) ⟨c0, x2⟩ (fun hHeld => ?_)
    refine wpE_take (i := 0) (oi := ?oi2) (v := ?v2) ?hi2 (by kernel_rfl) (by kernel_rfl) (by kernel_rfl) (by kernel_rfl) ?hQ2 ?hy2 (by assumption) ?rest2
    case hi2 => (simp only [List.getElem?_toArray]; rfl)
    case hQ2 => exact fun _ _ _ h => h
    case hy2 => exact Or.inl ⟨by rfl, by (intro w hSw; (try dsimp only at hSw); go_simp; try with_reducible rfl)⟩
    try simp only [Act.put, List.setIfInBounds_toArray, List.set_cons_zero, List.set_cons_succ]
    refine wpE_take (i := 1) (oi := ?oi3) (v := ?v3) ?hi3 (by kernel_rfl) (by kernel_rfl) (by kernel_rfl) (by kernel_rfl) ?hQ3 ?hy3 (by assumption) ?rest3
    case hi3 => (simp only [List.getElem?_toArray]; rfl)
    case hQ3 => exact fun _ _ _ h => h
    case hy3 => exact Or.inl ⟨by rfl, by (intro w hSw; (try dsimp only at hSw); go_simp; try with_reducible rfl)⟩
    try simp only [Act.put, List.setIfInBounds_toArray, List.set_cons_zero, List.set_cons_succ]
    refine wpE_take (i := 2) (oi := ?oi4) (v := ?v4) ?hi4 (by kernel_rfl) (by kernel_rfl) (by kernel_rfl) (by kernel_rfl) ?hQ4 ?hy4 (by assumption) ?rest4
    case hi4 => (simp only [List.getElem?_toArray]; rfl)
    case hQ4 => exact fun _ _ _ h => h
    case hy4 => exact Or.inl ⟨by rfl, by (intro w hSw; (try dsimp only at hSw); go_simp; try with_reducible rfl)⟩
    try simp only [Act.put, List.setIfInBounds_toArray, List.set_cons_zero, List.set_cons_succ]
    refine wpE_take (i := 3) (oi := ?oi5) (v := ?v5) ?hi5 (by kernel_rfl) (by kernel_rfl) (by kernel_rfl) (by kernel_rfl) ?hQ5 ?hy5 (by assumption) ?rest5
    case hi5 => (simp only [List.getElem?_toArray]; rfl)
    case hQ5 => exact fun _ _ _ h => h
    case hy5 => exact Or.inl ⟨by rfl, by (intro w hSw; (try dsimp only at hSw); go_simp; try with_reducible rfl)⟩
    try simp only [Act.put, List.setIfInBounds_toArray, List.set_cons_zero, List.set_cons_succ]
    refine wpE_take (i := 4) (oi := ?oi6) (v := ?v6) ?hi6 (by kernel_rfl) (by kernel_rfl) (by kernel_rfl) (by kernel_rfl) ?hQ6 ?hy6 (by assumption) ?rest6
    case hi6 => (simp only [List.getElem?_toArray]; rfl)
    case hQ6 => exact fun _ _ _ h => h
    case hy6 => exact Or.inl ⟨by rfl, by (intro w hSw; (try dsimp only at hSw); go_simp; try with_reducible rfl)⟩
    try simp only [Act.put, List.setIfInBounds_toArray, List.set_cons_zero, List.set_cons_succ]
    refine wpE_take (i := 5) (oi := ?oi7) (v := ?v7) ?hi7 (by kernel_rfl) (by kernel_rfl) (by kernel_rfl) (by kernel_rfl) ?hQ7 ?hy7 (by assumption) ?rest7
    case hi7 => (simp only [List.getElem?_toArray]; rfl)
    case hQ7 => exact fun _ _ _ h => h
    case hy7 => exact Or.inl ⟨by rfl, by (intro w hSw; (try dsimp only at hSw); go_simp; try with_reducible rfl)⟩
    try simp only [Act.put, List.setIfInBounds_toArray, List.set_cons_zero, List.set_cons_succ]
    refine wpE_take (i := 6) (oi := ?oi8) (v := ?v8) ?hi8 (by kernel_rfl) (by kernel_rfl) (by kernel_rfl) (by kernel_rfl) ?hQ8 ?hy8 (by assumption) ?rest8
    case hi8 => (simp only [List.getElem?_toArray]; rfl)
    case hQ8 => exact fun _ _ _ h => h
    case hy8 => exact Or.inl ⟨by rfl, by (intro w hSw; (try dsimp only at hSw); go_simp; try with_reducible rfl)⟩
    try simp only [Act.put, List.setIfInBounds_toArray, List.set_cons_zero, List.set_cons_succ]
    refine wpE_one (i := 7) (o := ?o21) ?ho21 (by kernel_rfl) (fun K hK => ?_)
    case ho21 => (simp only [List.getElem?_toArray]; rfl)
    go_simp
    go_at_call 31
    have HLA : Hid (LA w1.drew d.ab d.sb d.qa 250 d.A) := Lib.hid (HT.out.bk.la.below (Below.drewN_of w1 1))
    refine (la_take (w := w1.drew) HLA.out p.slot qty).mono ?_
    rintro e w2 ⟨rfl, hla, hk⟩
    have hT1 := (HT.out.below (Below.drewN_of w1 1)).trans ((HT.out.bk.below (Below.drewN_of w1 1)).arena hla hk (.inl rfl))
    have hx2 : Blk w2 gx 71 #[.int .i64 p.side, .int .i64 p.price, .int .i64 p.slot] := HX.out.drew.keeps hk (fun hg => by
      obtain ⟨t1, t2, t3⟩ := HLA.out.tyd
      rcases hg with hg | hg | hg
      · exact HX.out.drew.tyd.ne t1 (by decide) hg
      · exact HX.out.drew.tyd.ne t2 (by decide) hg
      · exact HX.out.drew.tyd.ne (t3 _ hg) (by decide) rfl)
    refine hK.out _ _ ⟨(BC.of hT1.bk.box).1, hx2.cell 2⟩ (fun hHeld => ?_)
    clear hK K
    refine wpE_last (i := 8) (o := ?o26) ?ho26 (by kernel_rfl) (by kernel_rfl) (by kernel_rfl) (fun K hK => ?_)
    case ho26 => (simp only [List.getElem?_toArray]; rfl)
    go_simp
    refine hK.out _ _ ?_
    have HT1 := Lib.hid hT1
    have HX2 := Lib.hid hx2
    clear hK K hHeld HLA hla hk c0 x2 HX HT hT1 hx2
    obtain ⟨A', hA'⟩ : ∃ A', (takeA d.A p.slot qty).1 = A' := ⟨_, rfl⟩
    obtain ⟨why, hwhy⟩ : ∃ y, (takeA d.A p.slot qty).2 = y := ⟨_, rfl⟩
    have hw1 : d.abs.A = d.A := rfl
    rw [hw1, hA', hwhy] at HE
    rw [hA'] at HT1
    rw [hwhy]
    clear hA' hwhy hw1
    by_cases hy : why = 0
    · have HY := Lib.hid hy
      subst hy
      generalize hd1 : ({ d with A := A', qa := d.qa } : BD) = d1 at *
      have HA1 : Hid (d1.abs = { d.abs with A := A' }) := Lib.hid (by rw [← hd1]; rfl)
      have HRR : Hid (∀ s, d1.R s = d.R s) := Lib.hid (fun s => by rw [← hd1]; rfl)
      have HDA : Hid (d1.A = A' ∧ d1.sp = d.sp) := Lib.hid (by rw [← hd1]; exact ⟨rfl, rfl⟩)
      clear hd1
      go_upto_region 7 with (fail)
      obtain ⟨en, hen⟩ : ∃ en, entE A' p.slot = en := ⟨_, rfl⟩
      obtain ⟨fi, hfi⟩ : ∃ b, (findA A' p.slot).isSome = b := ⟨_, rfl⟩
      rw [hen, hfi] at HE
      have HGE : Hid (∀ wv, LA wv d1.ab d1.sb d1.qa 250 d1.A → Calls Try.prog 32 #[.pointer (some ⟨d1.ab, 0, none⟩), .int .i64 p.slot] wv fun e w' => e = .returned (.tuple #[.agg #[.int .i64 en.slot, .int .i64 en.id, .int .i64 en.qty, .bool en.top], .bool fi]) ∧ Below wv.heap.size wv w') := Lib.hid fun wv hv => by
        have h1 := la_get hv p.slot
        rw [entOf_eq, HDA.out.1, hen, hfi] at h1
        exact h1
      clear hen hfi
      go_cut [10, 11] (fun u v wx => ∃ ge, u = .pointer (some ⟨ge, 0, none⟩) ∧ v = .bool fi ∧ Blk wx ge 80 #[.int .i64 en.slot, .int .i64 en.id, .int .i64 en.qty, .bool en.top] ∧ Below w2.heap.size w2 wx)
      case first =>
        have hS0 : w2.cell? ⟨pb, 0, none⟩ = some (.pointer (some ⟨d1.ab, 0, none⟩)) ∧ w2.cell? ⟨gx, 2, none⟩ = some (.int .i64 p.slot) := ⟨(BC.of HT1.out.bk.box).1, HX2.out.cell 2⟩
        have HSS := Lib.hid fun (wv : World) (hb : Below w2.heap.size w2 wv) => (⟨(BC.of (HT1.out.bk.below hb).box).1, (HX2.out.below hb).cell 2⟩ : wv.cell? ⟨pb, 0, none⟩ = some (.pointer (some ⟨d1.ab, 0, none⟩)) ∧ wv.cell? ⟨gx, 2, none⟩ = some (.int .i64 p.slot))
        have HLL := Lib.hid fun (wv : World) (hb : Below w2.heap.size w2 wv) => (HT1.out.bk.below hb).la
        have HFI : Hid (∀ (wv : World) (ge : Nat), Below w2.heap.size w2 wv → w2.heap.size ≤ ge → Blk wv ge 80 #[.int .i64 0, .int .i64 0, .int .i64 0, .bool false] → Blk ((((wv.setCell ⟨ge, 0, none⟩ (.int .i64 en.slot)).setCell ⟨ge, 1, none⟩ (.int .i64 en.id)).setCell ⟨ge, 2, none⟩ (.int .i64 en.qty)).setCell ⟨ge, 3, none⟩ (.bool en.top)) ge 80 #[.int .i64 en.slot, .int .i64 en.id, .int .i64 en.qty, .bool en.top] ∧ Below w2.heap.size w2 ((((wv.setCell ⟨ge, 0, none⟩ (.int .i64 en.slot)).setCell ⟨ge, 1, none⟩ (.int .i64 en.id)).setCell ⟨ge, 2, none⟩ (.int .i64 en.qty)).setCell ⟨ge, 3, none⟩ (.bool en.top))) := Lib.hid fun wv ge hb hge hz =>
          ⟨(((hz.set_ 0 _).set_ 1 _).set_ 2 _).set_ 3 _, (((hb.setCell (p := ⟨ge, 0, none⟩) hge _).setCell (p := ⟨ge, 1, none⟩) hge _).setCell (p := ⟨ge, 2, none⟩) hge _).setCell (p := ⟨ge, 3, none⟩) hge _⟩
        refine wp_region_E (S := fun w' => w'.cell? ⟨pb, 0, none⟩ = some (.pointer (some ⟨d1.ab, 0, none⟩)) ∧ w'.cell? ⟨gx, 2, none⟩ = some (.int .i64 p.slot)) (by kernel_rfl) hS0 (fun hHeld => ?_)
        refine wpE_take (i := 0) (oi := ?oi9) (v := ?v9) ?hi9 (by kernel_rfl) (by kernel_rfl) (by kernel_rfl) (by kernel_rfl) ?hQ9 ?hy9 (by assumption) ?rest9
        case hi9 => (simp only [List.getElem?_toArray]; rfl)
        case hQ9 => exact fun _ _ _ h => h
        case hy9 => exact Or.inl ⟨by rfl, by (intro w hSw; (try dsimp only at hSw); go_simp; try with_reducible rfl)⟩
        try simp only [Act.put, List.setIfInBounds_toArray, List.set_cons_zero, List.set_cons_succ]
        refine wpE_take (i := 1) (oi := ?oi10) (v := ?v10) ?hi10 (by kernel_rfl) (by kernel_rfl) (by kernel_rfl) (by kernel_rfl) ?hQ10 ?hy10 (by assumption) ?rest10
        case hi10 => (simp only [List.getElem?_toArray]; rfl)
        case hQ10 => exact fun _ _ _ h => h
        case hy10 => exact Or.inl ⟨by rfl, by (intro w hSw; (try dsimp only at hSw); go_simp; try with_reducible rfl)⟩
        try simp only [Act.put, List.setIfInBounds_toArray, List.set_cons_zero, List.set_cons_succ]
        refine wpE_take (i := 2) (oi := ?oi11) (v := ?v11) ?hi11 (by kernel_rfl) (by kernel_rfl) (by kernel_rfl) (by kernel_rfl) ?hQ11 ?hy11 (by assumption) ?rest11
        case hi11 => (simp only [List.getElem?_toArray]; rfl)
        case hQ11 => exact fun _ _ _ h => h
        case hy11 => exact Or.inl ⟨by rfl, by (intro w hSw; (try dsimp only at hSw); go_simp; try with_reducible rfl)⟩
        try simp only [Act.put, List.setIfInBounds_toArray, List.set_cons_zero, List.set_cons_succ]
        refine wpE_take (i := 3) (oi := ?oi12) (v := ?v12) ?hi12 (by kernel_rfl) (by kernel_rfl) (by kernel_rfl) (by kernel_rfl) ?hQ12 ?hy12 (by assumption) ?rest12
        case hi12 => (simp only [List.getElem?_toArray]; rfl)
        case hQ12 => exact fun _ _ _ h => h
        case hy12 => exact Or.inl ⟨by rfl, by (intro w hSw; (try dsimp only at hSw); go_simp; try with_reducible rfl)⟩
        try simp only [Act.put, List.setIfInBounds_toArray, List.set_cons_zero, List.set_cons_succ]
        refine wpE_take (i := 4) (oi := ?oi13) (v := ?v13) ?hi13 (by kernel_rfl) (by kernel_rfl) (by kernel_rfl) (by kernel_rfl) ?hQ13 ?hy13 (by assumption) ?rest13
        case hi13 => (simp only [List.getElem?_toArray]; rfl)
        case hQ13 => exact fun _ _ _ h => h
        case hy13 => exact Or.inl ⟨by rfl, by (intro w hSw; (try dsimp only at hSw); go_simp; try with_reducible rfl)⟩
        try simp only [Act.put, List.setIfInBounds_toArray, List.set_cons_zero, List.set_cons_succ]
        refine wpE_take (i := 5) (oi := ?oi14) (v := ?v14) ?hi14 (by kernel_rfl) (by kernel_rfl) (by kernel_rfl) (by kernel_rfl) ?hQ14 ?hy14 (by assumption) ?rest14
        case hi14 => (simp only [List.getElem?_toArray]; rfl)
        case hQ14 => exact fun _ _ _ h => h
        case hy14 => exact Or.inl ⟨by rfl, by (intro w hSw; (try dsimp only at hSw); go_simp; try with_reducible rfl)⟩
        try simp only [Act.put, List.setIfInBounds_toArray, List.set_cons_zero, List.set_cons_succ]
        refine wpE_two (i := 6) (j := 10) (oi := ?oa1) (oj := ?ob1) ?ha1 ?hb1 (by kernel_rfl) (fun K hK => ?_) (fun K hK => ?_)
        case ha1 => (simp only [List.getElem?_toArray]; rfl)
        case hb1 => (simp only [List.getElem?_toArray]; rfl)
        · go_simp
          go_at_call 32
          have HBD := Lib.hid (Below.drewN_of w2 1)
          refine (HGE.out w2.drew (HLL.out _ HBD.out)).mono ?_
          rintro e w3 ⟨rfl, hb⟩
          have HB3 : Hid (Below w2.heap.size w2 w3) := Lib.hid (HBD.out.trans hb)
          refine hK.out _ _ (HSS.out _ HB3.out) (fun hHeld => ?_)
          clear hK K hb
          refine wpE_take (i := 7) (oi := ?oi15) (v := ?v15) ?hi15 (by kernel_rfl) (by kernel_rfl) (by kernel_rfl) (by kernel_rfl) ?hQ15 ?hy15 (by assumption) ?rest15
          case hi15 => (simp only [List.getElem?_toArray]; rfl)
          case hQ15 => exact fun _ _ _ h => h
          case hy15 => exact Or.inl ⟨by rfl, by (intro w hSw; (try dsimp only at hSw); go_simp; try with_reducible rfl)⟩
          try simp only [Act.put, List.setIfInBounds_toArray, List.set_cons_zero, List.set_cons_succ]
          refine wpE_take (i := 8) (oi := ?oi16) (v := ?v16) ?hi16 (by kernel_rfl) (by kernel_rfl) (by kernel_rfl) (by kernel_rfl) ?hQ16 ?hy16 (by assumption) ?rest16
          case hi16 => (simp only [List.getElem?_toArray]; rfl)
          case hQ16 => exact fun _ _ _ h => h
          case hy16 => exact Or.inl ⟨by rfl, by (intro w hSw; (try dsimp only at hSw); go_simp; try with_reducible rfl)⟩
          try simp only [Act.put, List.setIfInBounds_toArray, List.set_cons_zero, List.set_cons_succ]
          refine wpE_take (i := 9) (oi := ?oi17) (v := ?v17) ?hi17 (by kernel_rfl) (by kernel_rfl) (by kernel_rfl) (by kernel_rfl) ?hQ17 ?hy17 (by assumption) ?rest17
          case hi17 => (simp only [List.getElem?_toArray]; rfl)
          case hQ17 => exact fun _ _ _ h => h
          case hy17 => exact Or.inl ⟨by rfl, by (intro w hSw; (try dsimp only at hSw); go_simp; try with_reducible rfl)⟩
          try simp only [Act.put, List.setIfInBounds_toArray, List.set_cons_zero, List.set_cons_succ]
          refine wpE_one (i := 10) (o := ?o22) ?ho22 (by kernel_rfl) (fun K hK => ?_)
          case ho22 => (simp only [List.getElem?_toArray]; rfl)
          go_simp
          have HB4 := Lib.hid (HB3.out.alloc HB3.out.size (.cells #[.int .i64 0, .int .i64 0, .int .i64 0, .bool false] 80))
          have hz : Blk (w3.alloc (.cells #[.int .i64 0, .int .i64 0, .int .i64 0, .bool false] 80)) w3.heap.size 80 #[.int .i64 0, .int .i64 0, .int .i64 0, .bool false] := Blk.new _ _ _
          have HZ := Lib.hid hz
          refine hK.out _ _ (HSS.out _ HB4.out) (fun hHeld => ?_)
          clear hK K
          obtain ⟨ge, hge⟩ : ∃ ge, w3.heap.size = ge := ⟨_, rfl⟩
          have HGE2 : Hid (w2.heap.size ≤ ge) := Lib.hid (by rw [← hge]; exact HB3.out.size)
          rw [hge] at hz ⊢
          replace HZ := Lib.hid hz
          clear hge
          generalize w3.alloc (.cells #[.int .i64 0, .int .i64 0, .int .i64 0, .bool false] 80) = w4 at *
          have k0 : w4.cell? ⟨ge, 0, none⟩ = some (.int .i64 0) := hz.cell 0
          have k1 : w4.cell? ⟨ge, 1, none⟩ = some (.int .i64 0) := hz.cell 1
          have k2 : w4.cell? ⟨ge, 2, none⟩ = some (.int .i64 0) := hz.cell 2
          have k3 : w4.cell? ⟨ge, 3, none⟩ = some (.bool false) := hz.cell 3
          have kf : ∀ o, w4.frozen? ⟨ge, o, none⟩ = false := fun o => HZ.out.frozen o
          clear hz
          refine wpE_one (i := 11) (o := ?o23) ?ho23 (by kernel_rfl) (fun K hK => ?_)
          case ho23 => (simp only [List.getElem?_toArray]; rfl)
          go_simp
          have hfin := HFI.out w4 ge HB4.out HGE2.out HZ.out
          have HFIN := Lib.hid hfin
          refine hK.out _ _ (HSS.out _ hfin.2) (fun hHeld => ?_)
          clear hK K k0 k1 k2 k3 kf hfin
          refine wpE_last (i := 12) (o := ?o27) ?ho27 (by kernel_rfl) (by kernel_rfl) (by kernel_rfl) (fun K hK => ?_)
          case ho27 => (simp only [List.getElem?_toArray]; rfl)
          go_simp
          refine hK.out _ _ ?_
          clear hK K
          go_wp2_with fail
          go_meet
          exact ⟨ge, rfl, rfl, HFIN.out.1, HFIN.out.2⟩
        · go_simp
          have hz : Blk (w2.alloc (.cells #[.int .i64 0, .int .i64 0, .int .i64 0, .bool false] 80)).drew w2.heap.size 80 #[.int .i64 0, .int .i64 0, .int .i64 0, .bool false] := (Blk.new _ _ _).drew
          have HBD : Hid (Below w2.heap.size w2 (w2.alloc (.cells #[.int .i64 0, .int .i64 0, .int .i64 0, .bool false] 80)).drew) := Lib.hid ((Below.allocN _ _).drew)
          refine hK.out _ _ (HSS.out _ HBD.out) (fun hHeld => ?_)
          clear hK K
          obtain ⟨ge, hge⟩ : ∃ ge, w2.heap.size = ge := ⟨_, rfl⟩
          have HGE2 : Hid (w2.heap.size ≤ ge) := Lib.hid (by omega)
          have hz1 := hz
          rw [hge] at hz1 ⊢
          clear hge hz
          generalize (w2.alloc (.cells #[.int .i64 0, .int .i64 0, .int .i64 0, .bool false] 80)).drew = w3 at *
          refine wpE_one (i := 6) (o := ?o24) ?ho24 (by kernel_rfl) (fun K hK => ?_)
          case ho24 => (simp only [List.getElem?_toArray]; rfl)
          go_simp
          go_at_call 32
          refine (HGE.out w3 (HLL.out _ HBD.out)).mono ?_
          rintro e w4 ⟨rfl, hb⟩
          have HB4 : Hid (Below w2.heap.size w2 w4) := Lib.hid (HBD.out.trans (hb.mono HBD.out.size))
          have HZ := Lib.hid (hz1.below hb)
          have hz := HZ.out
          refine hK.out _ _ (HSS.out _ HB4.out) (fun hHeld => ?_)
          clear hK K hb hz1
          have k0 : w4.cell? ⟨ge, 0, none⟩ = some (.int .i64 0) := hz.cell 0
          have k1 : w4.cell? ⟨ge, 1, none⟩ = some (.int .i64 0) := hz.cell 1
          have k2 : w4.cell? ⟨ge, 2, none⟩ = some (.int .i64 0) := hz.cell 2
          have k3 : w4.cell? ⟨ge, 3, none⟩ = some (.bool false) := hz.cell 3
          have kf : ∀ o, w4.frozen? ⟨ge, o, none⟩ = false := fun o => HZ.out.frozen o
          clear hz
          refine wpE_take (i := 7) (oi := ?oi18) (v := ?v18) ?hi18 (by kernel_rfl) (by kernel_rfl) (by kernel_rfl) (by kernel_rfl) ?hQ18 ?hy18 (by assumption) ?rest18
          case hi18 => (simp only [List.getElem?_toArray]; rfl)
          case hQ18 => exact fun _ _ _ h => h
          case hy18 => exact Or.inl ⟨by rfl, by (intro w hSw; (try dsimp only at hSw); go_simp; try with_reducible rfl)⟩
          try simp only [Act.put, List.setIfInBounds_toArray, List.set_cons_zero, List.set_cons_succ]
          refine wpE_take (i := 8) (oi := ?oi19) (v := ?v19) ?hi19 (by kernel_rfl) (by kernel_rfl) (by kernel_rfl) (by kernel_rfl) ?hQ19 ?hy19 (by assumption) ?rest19
          case hi19 => (simp only [List.getElem?_toArray]; rfl)
          case hQ19 => exact fun _ _ _ h => h
          case hy19 => exact Or.inl ⟨by rfl, by (intro w hSw; (try dsimp only at hSw); go_simp; try with_reducible rfl)⟩
          try simp only [Act.put, List.setIfInBounds_toArray, List.set_cons_zero, List.set_cons_succ]
          refine wpE_take (i := 9) (oi := ?oi20) (v := ?v20) ?hi20 (by kernel_rfl) (by kernel_rfl) (by kernel_rfl) (by kernel_rfl) ?hQ20 ?hy20 (by assumption) ?rest20
          case hi20 => (simp only [List.getElem?_toArray]; rfl)
          case hQ20 => exact fun _ _ _ h => h
          case hy20 => exact Or.inl ⟨by rfl, by (intro w hSw; (try dsimp only at hSw); go_simp; try with_reducible rfl)⟩
          try simp only [Act.put, List.setIfInBounds_toArray, List.set_cons_zero, List.set_cons_succ]
          refine wpE_one (i := 11) (o := ?o25) ?ho25 (by kernel_rfl) (fun K hK => ?_)
          case ho25 => (simp only [List.getElem?_toArray]; rfl)
          go_simp
          have hfin := HFI.out w4 ge HB4.out HGE2.out HZ.out
          have HFIN := Lib.hid hfin
          refine hK.out _ _ (HSS.out _ hfin.2) (fun hHeld => ?_)
          clear hK K k0 k1 k2 k3 kf hfin
          refine wpE_last (i := 12) (o := ?o28) ?ho28 (by kernel_rfl) (by kernel_rfl) (by kernel_rfl) (fun K hK => ?_)
          case ho28 => (simp only [List.getElem?_toArray]; rfl)
          go_simp
          refine hK.out _ _ ?_
          clear hK K
          go_wp2_with fail
          go_meet
          exact ⟨ge, rfl, rfl, HFIN.out.1, HFIN.out.2⟩
      case rest =>
      obtain ⟨ge, rfl, rfl, hg, hb⟩ := hcut
      obtain ⟨wx, rfl⟩ : ∃ wo : World, wo = wc := ⟨_, rfl⟩
      have HT3 := Lib.hid (HT1.out.below hb)
      have HX3 := Lib.hid (HX2.out.below hb)
      have e1 : wx.cell? ⟨ge, 1, none⟩ = some (.int .i64 en.id) := hg.cell 1
      clear hb HT1 HX2 HGE
      have HDR := Lib.hid (drop_any HT3.out.bk id p HS.out r (by rw [HRR.out]; exact HR.out) (by rw [HRR.out]; exact hl _) (by rw [HDA.out.2]; exact hsp) (Nat.le_trans hB HT3.out.kp.size))
      clear hg
      cases fi with
      | false =>
        replace HE : Hid (fillB d.abs id qty = (dropB { d.abs with A := A' } id p, 0)) := Lib.hid (by rw [HE.out]; simp)
        have x0 : wx.cell? ⟨gx, 0, none⟩ = some (.int .i64 p.side) := HX3.out.cell 0
        have x1 : wx.cell? ⟨gx, 1, none⟩ = some (.int .i64 p.price) := HX3.out.cell 1
        have x2 : wx.cell? ⟨gx, 2, none⟩ = some (.int .i64 p.slot) := HX3.out.cell 2
        go_wp2_with fail
        refine HDR.out.mono ?_
        rintro e wy ⟨rfl, d', hT, hab⟩
        have HTY := Lib.hid (HT3.out.trans hT)
        have HAB := Lib.hid hab
        clear x0 x1 x2 e1 hT hab HDR
        go_wp2_with fail
        go_ret
        exact ⟨by rw [HE.out]; rfl, d', HTY.out, by rw [HE.out, HAB.out, HA1.out]⟩
      | true =>
        by_cases hid : en.id = id
        · have hbq : (en.id != id) = false := by rw [hid]; simp
          replace HE : Hid (fillB d.abs id qty = ({ d.abs with A := A' }, 0)) := Lib.hid (by rw [HE.out]; simp [hid])
          clear hid HDR
          go_wp2_with fail
          go_ret
          exact ⟨by rw [HE.out]; rfl, d1, HT3.out, by rw [HE.out, HA1.out]⟩
        · have hbq : (en.id != id) = true := by rw [bne_iff_ne]; exact hid
          replace HE : Hid (fillB d.abs id qty = (dropB { d.abs with A := A' } id p, 0)) := Lib.hid (by rw [HE.out]; simp [hid])
          clear hid
          have x0 : wx.cell? ⟨gx, 0, none⟩ = some (.int .i64 p.side) := HX3.out.cell 0
          have x1 : wx.cell? ⟨gx, 1, none⟩ = some (.int .i64 p.price) := HX3.out.cell 1
          have x2 : wx.cell? ⟨gx, 2, none⟩ = some (.int .i64 p.slot) := HX3.out.cell 2
          go_wp2_with fail
          refine HDR.out.mono ?_
          rintro e wy ⟨rfl, d', hT, hab⟩
          have HTY := Lib.hid (HT3.out.trans hT)
          have HAB := Lib.hid hab
          clear x0 x1 x2 e1 hT hab HDR
          go_wp2_with fail
          go_ret
          exact ⟨by rw [HE.out]; rfl, d', HTY.out, by rw [HE.out, HAB.out, HA1.out]⟩
    · have hyb : (why == 0) = false := by rw [beq_eq_false_iff_ne]; exact hy
      have HY := Lib.hid hy
      clear hy
      go_wp2_with fail
      go_ret
      exact ⟨by rw [HE.out, if_neg HY.out]; rfl, _, HT1.out, by rw [HE.out, if_neg HY.out]; rfl⟩
end
end Go.Proofs.Ytmhljdkhekjfmaa

/- The walk of the book's Add. -/
namespace Go.Proofs.Ytmhljdkhekjfmaa
open Go.RowKit

def topB (a : BA) (side price : Int) : Bool := match a.R side with | [] => true | r :: _ => betterP side price r.price
def preB (a : BA) (id side price : Int) : BA := if topB a side price = true then leadB a id side else a
def putB (a : BA) (id side price qty : Int) (top : Bool) : BA :=
  { (queueB a side price).1 with A := (pushA 250 (queueB a side price).1.A (queueB a side price).2 id qty top).1, M := (queueB a side price).1.M ++ [(id, ⟨side, price, (pushA 250 (queueB a side price).1.A (queueB a side price).2 id qty top).2.1⟩)] }
def addB (a : BA) (id side price qty : Int) : BA × Int :=
  if isB side = false then (a, 21) else if qty < 1 ∨ 1000000 < qty then (a, 24) else if (lookPl a.M id).isSome = true then (a, 25) else if 250 ≤ a.M.length then (a, 13) else
  (putB (preB a id side price) id side price qty (topB a side price), 0)
theorem topA_len (A : List (List Ent)) (i : Int) (t : Bool) : (topA A i t).1.length = A.length := by
  unfold topA
  split <;> simp
theorem lead_keeps (a : BA) (id side : Int) : (leadB a id side).M = a.M ∧ (leadB a id side).sp = a.sp ∧ (leadB a id side).A.length = a.A.length ∧ ∀ s, (leadB a id side).R s = a.R s := by
  unfold leadB BA.setT BA.setH
  have h : (if a.h side = true then oldA a.A (lookPl a.M (a.t side)) side else a.A).length = a.A.length := by
    split
    · unfold oldA
      split
      · split
        · exact topA_len _ _ _
        · rfl
      · rfl
    · rfl
  split <;> exact ⟨rfl, rfl, h, fun s => rfl⟩
theorem pre_keeps (a : BA) (id side price : Int) : (preB a id side price).M = a.M ∧ (preB a id side price).sp = a.sp ∧ (preB a id side price).A.length = a.A.length ∧ ∀ s, (preB a id side price).R s = a.R s := by
  unfold preB
  split
  · exact lead_keeps a id side
  · exact ⟨rfl, rfl, rfl, fun _ => rfl⟩
theorem queue_M (a : BA) (side price : Int) : (queueB a side price).1.M = a.M := by
  unfold queueB
  split
  · rfl
  · unfold BA.setR qbase
    split <;> split <;> rfl
section
variable {w w' : World} {pb B : Nat} {d : BD}
set_option maxRecDepth 100000 in
set_option maxHeartbeats 16000000 in
theorem add_any9 (h : Bk w pb d B) (id side price qty : Int) (hl : ∀ side, (d.R side).length ≤ 1000) (hsp : d.sp.length ≤ 100000) (hA : d.A.length ≤ 1000000) (hB : B ≤ w.heap.size) :
    Calls Try.prog 13 #[.pointer (some ⟨pb, 0, none⟩), .int .i64 id, .int .i64 side, .int .i64 price, .int .i64 qty] w fun e w' => e = .returned (.int .i64 (addB d.abs id side price qty).2) ∧ ∃ d', Tn w w' pb B d d' ∧ d'.abs = (addB d.abs id side price qty).1 := by
  have hlk := h.look id
  have c3 := (BC.of h.box).2.2.2.1
  obtain ⟨lp, hlp⟩ : ∃ lp, lookPl d.M id = lp := ⟨_, rfl⟩
  obtain ⟨p, hp⟩ : ∃ p, lp.getD zeroPl = p := ⟨_, rfl⟩
  obtain ⟨ok, hok⟩ : ∃ b, lp.isSome = b := ⟨_, rfl⟩
  rw [hlp, hp, hok] at hlk
  unfold Pl.agg at hlk
  have ht := Tn.of_below h (Below.allocN w (.cells #[.int .i64 p.side, .int .i64 p.price, .int .i64 p.slot] 71))
  have HT := Lib.hid ht
  have HLN : Hid (∀ wv, MapAt wv d.gm d.mv → (Builtin.len_ #[58] 3 #[.map (some d.gm)]).run Try.prog wv = .ok (.int .i64 d.M.length) wv) := Lib.hid fun wv hm => by
    have h1 := hm.len (P := Try.prog) Try.underlying58 3
    rw [show d.mv.length = d.M.length from List.length_map _] at h1
    exact h1
  have HE : Hid (addB d.abs id side price qty = if isB side = false then (d.abs, 21) else if qty < 1 ∨ 1000000 < qty then (d.abs, 24) else if ok = true then (d.abs, 25) else if 250 ≤ d.M.length then (d.abs, 13) else (putB (preB d.abs id side price) id side price qty (topB d.abs side price), 0)) := Lib.hid (by rw [← hok, ← hlp]; rfl)
  have HOK : Hid (lookPl d.M id = lp ∧ lp.isSome = ok) := Lib.hid ⟨hlp, hok⟩
  clear h ht hlp hp hok
  go_enter Try.func13, Try.ntmps13
  go_upto_region 2 with (fail)
  clear hlk c3
  generalize w.alloc (.cells #[.int .i64 p.side, .int .i64 p.price, .int .i64 p.slot] 71) = w1 at *
  cases hi : isB side with
  | false =>
    rw [hi] at HE
    have HI := Lib.hid hi
    clear hi
    go_wp2_with fail
    refine (is_any9 side _).mono ?_
    rintro e w2 ⟨rfl, rfl⟩
    rw [HI.out]
    go_wp2_with fail
    go_ret
    exact ⟨by rw [HE.out]; rfl, d, HT.out, by rw [HE.out]; rfl⟩
  | true =>
    rw [hi] at HE
    have HI := Lib.hid hi
    have hs : side = 1 ∨ side = 2 := by
      unfold isB at hi
      simpa using hi
    have HS := Lib.hid hs
    clear hi hs
    go_wp2_with fail
    refine (is_any9 side _).mono ?_
    rintro e w2 ⟨rfl, rfl⟩
    rw [HI.out]
    by_cases hq : qty < 1 ∨ 1000000 < qty
    · replace HE : Hid (addB d.abs id side price qty = (d.abs, 24)) := Lib.hid (by rw [HE.out, if_neg (by simp), if_pos hq])
      by_cases hq1 : qty < 1
      · clear hq
        go_wp2_with fail
        go_ret
        exact ⟨by rw [HE.out]; rfl, d, HT.out, by rw [HE.out]⟩
      · have hq2 : 1000000 < qty := by omega
        clear hq
        go_wp2_with fail
        go_ret
        exact ⟨by rw [HE.out]; rfl, d, HT.out, by rw [HE.out]⟩
    · have hq1 : ¬ qty < 1 := by omega
      have hq2 : ¬ 1000000 < qty := by omega
      cases ok with
      | true =>
        replace HE : Hid (addB d.abs id side price qty = (d.abs, 25)) := Lib.hid (by rw [HE.out, if_neg (by simp), if_neg hq]; rfl)
        clear hq
        go_wp2_with fail
        go_ret
        exact ⟨by rw [HE.out]; rfl, d, HT.out, by rw [HE.out]⟩
      | false =>
        have c3 := (BC.of HT.out.bk.box).2.2.2.1
        have hln := HLN.out _ HT.out.bk.mp
        by_cases hm : 250 ≤ d.M.length
        · replace HE : Hid (addB d.abs id side price qty = (d.abs, 13)) := Lib.hid (by rw [HE.out, if_neg (by simp), if_neg hq, if_neg (by simp), if_pos hm])
          have hm' : (250 : Int) ≤ (d.M.length : Int) := by omega
          clear hq
          go_wp2_with fail
          go_ret
          exact ⟨by rw [HE.out]; rfl, d, HT.out, by rw [HE.out]⟩
        · replace HE : Hid (addB d.abs id side price qty = (putB (preB d.abs id side price) id side price qty (topB d.abs side price), 0)) := Lib.hid (by rw [HE.out, if_neg (by simp), if_neg hq, if_neg (by simp), if_neg hm])
          have hm' : ¬ (250 : Int) ≤ (d.M.length : Int) := by omega
          clear hq
          go_upto_region 10 with (fail)
          clear c3 hln hm hm' hq1 hq2 HLN
          obtain ⟨z, hz, hsz, yz⟩ := side_z HS.out
          have hz2 : (z : Int) < 2 := by omega
          obtain ⟨a, c, _, hrd, hcell⟩ := HT.out.bk.side_cell hz hsz
          have c1 := hcell w1 (Below.refl _ _)
          have HTB : Hid (topB d.abs side price = match d.R side with | [] => true | r :: _ => betterP side price r.price) := Lib.hid rfl
          have HRD := Lib.hid hrd
          clear hrd hcell hsz
          go_upto_region 11 with (fail)
          clear c1
          go_cut [13, 14] (fun _ v wx => v = .bool (topB d.abs side price) ∧ w1 = wx)
          case first =>
            cases hR : d.R side with
            | nil =>
              rw [hR] at HTB
              clear hR HRD
              go_wp2_with fail
              go_meet
              exact ⟨by rw [HTB.out], rfl⟩
            | cons r l =>
              rw [hR] at HTB HRD
              clear hR
              obtain ⟨rb, off, rfl, hrb, hcr⟩ := HRD.out 0 r rfl
              rw [Nat.zero_mul, Nat.add_zero] at hcr
              have r0 : w1.cell? ⟨rb, off, none⟩ = some (.int .i64 r.price) := hcr 0 _ rfl
              have hll : ((l.length : Int) + 1 == 0) = false := by rw [beq_eq_false_iff_ne]; omega
              clear hrb hcr
              go_wp2_with fail
              refine (better_any side price r.price _).mono ?_
              rintro e w2 ⟨rfl, rfl⟩
              go_wp2_with fail
              go_meet
              exact ⟨by rw [HTB.out], rfl⟩
          case rest =>
          obtain ⟨rfl, rfl⟩ := hcut
          obtain ⟨tb, htb⟩ : ∃ b, topB d.abs side price = b := ⟨_, rfl⟩
          have HPB : Hid (preB d.abs id side price = if tb = true then leadB d.abs id side else d.abs) := Lib.hid (by unfold preB; rw [htb])
          rw [htb] at HE ⊢
          clear htb HTB HRD
          go_upto_if 65 with (fail)
          go_cut [65] (fun _ wx => ∃ d1, Tn w wx pb B d d1 ∧ d1.abs = preB d.abs id side price)
          case first =>
            cases tb with
            | true =>
              have HLD := Lib.hid (lead_any HT.out.bk id side HS.out)
              go_wp2_with fail
              refine HLD.out.mono ?_
              rintro e w2 ⟨rfl, d1, hT, hab⟩
              have HT1 := Lib.hid (HT.out.trans hT)
              have HAB := Lib.hid hab
              clear hT hab HLD
              go_wp2_with fail
              go_meet
              exact ⟨d1, HT1.out, by rw [HAB.out, HPB.out]; rfl⟩
            | false =>
              go_wp2_with fail
              go_meet
              exact ⟨d, HT.out, by rw [HPB.out]; rfl⟩
          case rest =>
          obtain ⟨d1, ht1, ha1⟩ := hcut
          obtain ⟨wx, rfl⟩ : ∃ wo : World, wo = wc := ⟨_, rfl⟩
          obtain ⟨k1, k2, k3, k4⟩ := pre_keeps d.abs id side price
          rw [← ha1] at k1 k2 k3 k4
          have HT1 := Lib.hid ht1
          have HA1 := Lib.hid ha1
          have hR1 : (d1.R side).length ≤ 1000 := by
            have := k4 side
            show (d1.abs.R side).length ≤ 1000
            rw [this]; exact hl side
          have hS1 : d1.sp.length ≤ 1000000 := by
            show d1.abs.sp.length ≤ 1000000
            rw [k2]; have h1 : d.abs.sp = d.sp := rfl
            rw [h1]; omega
          have hA1 : d1.A.length ≤ 1000000 := by
            show d1.abs.A.length ≤ 1000000
            rw [k3]; exact hA
          have hM1 : d1.M = d.M := k1
          have HQU := Lib.hid (queue_any (ht1.bk.below (Below.drewN_of wx 1)) side price HS.out hR1 hA1 hS1 (Nat.le_trans hB ht1.kp.size))
          have HM1 := Lib.hid hM1
          clear ht1 ha1 k1 k2 k3 k4 hR1 hS1 hA1 hM1 HT HPB
          go_upto_region 14 with (fail)
          refine wp_region_E (S := fun w' => w'.cell? ⟨pb, 0, none⟩ = some (.pointer (some ⟨d1.ab, 0, none⟩))) (by kernel_rfl) ((BC.of HT1.out.bk.box).1) (fun hHeld => ?_)
          refine wpE_take (i := 0) (oi := ?oi6) (v := ?v6) ?hi6 (by kernel_rfl) (by kernel_rfl) (by kernel_rfl) (by kernel_rfl) ?hQ6 ?hy6 (by assumption) ?rest6
          case hi6 => (simp only [List.getElem?_toArray]; rfl)
          case hQ6 => exact fun _ _ _ h => h
          case hy6 => exact Or.inl ⟨by rfl, by (intro w hSw; (try dsimp only at hSw); go_simp; try with_reducible rfl)⟩
          try simp only [Act.put, List.setIfInBounds_toArray, List.set_cons_zero, List.set_cons_succ]
          refine wpE_take (i := 1) (oi := ?oi7) (v := ?v7) ?hi7 (by kernel_rfl) (by kernel_rfl) (by kernel_rfl) (by kernel_rfl) ?hQ7 ?hy7 (by assumption) ?rest7
          case hi7 => (simp only [List.getElem?_toArray]; rfl)
          case hQ7 => exact fun _ _ _ h => h
          case hy7 => exact Or.inl ⟨by rfl, by (intro w hSw; (try dsimp only at hSw); go_simp; try with_reducible rfl)⟩
          try simp only [Act.put, List.setIfInBounds_toArray, List.set_cons_zero, List.set_cons_succ]
          refine wpE_take (i := 2) (oi := ?oi8) (v := ?v8) ?hi8 (by kernel_rfl) (by kernel_rfl) (by kernel_rfl) (by kernel_rfl) ?hQ8 ?hy8 (by assumption) ?rest8
          case hi8 => (simp only [List.getElem?_toArray]; rfl)
          case hQ8 => exact fun _ _ _ h => h
          case hy8 => exact Or.inl ⟨by rfl, by (intro w hSw; (try dsimp only at hSw); go_simp; try with_reducible rfl)⟩
          try simp only [Act.put, List.setIfInBounds_toArray, List.set_cons_zero, List.set_cons_succ]
          refine wpE_take (i := 3) (oi := ?oi9) (v := ?v9) ?hi9 (by kernel_rfl) (by kernel_rfl) (by kernel_rfl) (by kernel_rfl) ?hQ9 ?hy9 (by assumption) ?rest9
          case hi9 => (simp only [List.getElem?_toArray]; rfl)
          case hQ9 => exact fun _ _ _ h => h
          case hy9 => exact Or.inl ⟨by rfl, by (intro w hSw; (try dsimp only at hSw); go_simp; try with_reducible rfl)⟩
          try simp only [Act.put, List.setIfInBounds_toArray, List.set_cons_zero, List.set_cons_succ]
          refine wpE_take (i := 4) (oi := ?oi10) (v := ?v10) ?hi10 (by kernel_rfl) (by kernel_rfl) (by kernel_rfl) (by kernel_rfl) ?hQ10 ?hy10 (by assumption) ?rest10
          case hi10 => (simp only [List.getElem?_toArray]; rfl)
          case hQ10 => exact fun _ _ _ h => h
          case hy10 => exact Or.inl ⟨by rfl, by (intro w hSw; (try dsimp only at hSw); go_simp; try with_reducible rfl)⟩
          try simp only [Act.put, List.setIfInBounds_toArray, List.set_cons_zero, List.set_cons_succ]
          refine wpE_take (i := 5) (oi := ?oi11) (v := ?v11) ?hi11 (by kernel_rfl) (by kernel_rfl) (by kernel_rfl) (by kernel_rfl) ?hQ11 ?hy11 (by assumption) ?rest11
          case hi11 => (simp only [List.getElem?_toArray]; rfl)
          case hQ11 => exact fun _ _ _ h => h
          case hy11 => exact Or.inl ⟨by rfl, by (intro w hSw; (try dsimp only at hSw); go_simp; try with_reducible rfl)⟩
          try simp only [Act.put, List.setIfInBounds_toArray, List.set_cons_zero, List.set_cons_succ]
          refine wpE_take (i := 6) (oi := ?oi12) (v := ?v12) ?hi12 (by kernel_rfl) (by kernel_rfl) (by kernel_rfl) (by kernel_rfl) ?hQ12 ?hy12 (by assumption) ?rest12
          case hi12 => (simp only [List.getElem?_toArray]; rfl)
          case hQ12 => exact fun _ _ _ h => h
          case hy12 => exact Or.inl ⟨by rfl, by (intro w hSw; (try dsimp only at hSw); go_simp; try with_reducible rfl)⟩
          try simp only [Act.put, List.setIfInBounds_toArray, List.set_cons_zero, List.set_cons_succ]
          refine wpE_take (i := 8) (oi := ?oi13) (v := ?v13) ?hi13 (by kernel_rfl) (by kernel_rfl) (by kernel_rfl) (by kernel_rfl) ?hQ13 ?hy13 (by assumption) ?rest13
          case hi13 => (simp only [List.getElem?_toArray]; rfl)
          case hQ13 => exact fun _ _ _ h => h
          case hy13 => exact Or.inl ⟨by rfl, by (intro w hSw; (try dsimp only at hSw); go_simp; try with_reducible rfl)⟩
          try simp only [Act.put, List.setIfInBounds_toArray, List.set_cons_zero, List.set_cons_succ]
          refine wpE_take (i := 9) (oi := ?oi14) (v := ?v14) ?hi14 (by kernel_rfl) (by kernel_rfl) (by kernel_rfl) (by kernel_rfl) ?hQ14 ?hy14 (by assumption) ?rest14
          case hi14 => (simp only [List.getElem?_toArray]; rfl)
          case hQ14 => exact fun _ _ _ h => h
          case hy14 => exact Or.inl ⟨by rfl, by (intro w hSw; (try dsimp only at hSw); go_simp; try with_reducible rfl)⟩
          try simp only [Act.put, List.setIfInBounds_toArray, List.set_cons_zero, List.set_cons_succ]
          refine wpE_take (i := 10) (oi := ?oi15) (v := ?v15) ?hi15 (by kernel_rfl) (by kernel_rfl) (by kernel_rfl) (by kernel_rfl) ?hQ15 ?hy15 (by assumption) ?rest15
          case hi15 => (simp only [List.getElem?_toArray]; rfl)
          case hQ15 => exact fun _ _ _ h => h
          case hy15 => exact Or.inl ⟨by rfl, by (intro w hSw; (try dsimp only at hSw); go_simp; try with_reducible rfl)⟩
          try simp only [Act.put, List.setIfInBounds_toArray, List.set_cons_zero, List.set_cons_succ]
          refine wpE_one (i := 7) (o := ?o16) ?ho16 (by kernel_rfl) (fun K hK => ?_)
          case ho16 => (simp only [List.getElem?_toArray]; rfl)
          go_simp
          go_at_call 30
          refine (show Calls Try.prog 30 _ wx.drew _ from HQU.out).mono ?_
          rintro e w2 ⟨rfl, d2, hT2, hab2⟩
          have hs2 := hT2.same
          have HT2 := Lib.hid ((HT1.out.below (Below.drewN_of wx 1)).trans hT2)
          have HA2 := Lib.hid hab2
          have HSM := Lib.hid hs2
          refine hK.out _ _ (by rw [← hs2.1]; exact (BC.of hT2.bk.box).1) (fun hHeld => ?_)
          clear hK K hT2 hab2 hs2 HQU
          obtain ⟨q, hq⟩ : ∃ q, (queueB d1.abs side price).2 = q := ⟨_, rfl⟩
          rw [hq]
          have HQ := Lib.hid hq
          clear hq
          refine wpE_one (i := 11) (o := ?o17) ?ho17 (by kernel_rfl) (fun K hK => ?_)
          case ho17 => (simp only [List.getElem?_toArray]; rfl)
          go_simp
          go_at_call 29
          have hla2 := HT2.out.bk.la
          rw [HSM.out.1] at hla2
          refine (la_push hla2 q id qty tb).mono ?_
          rintro e w3 ⟨rfl, hla3, hk3⟩
          have ht3 := HT2.out.trans (HT2.out.bk.arena (by rw [HSM.out.1]; exact hla3) (by rw [HSM.out.1]; exact hk3) (.inl rfl))
          have HT3 := Lib.hid ht3
          refine hK.out _ _ (by rw [← HSM.out.1]; exact (BC.of ht3.bk.box).1) (fun hHeld => ?_)
          clear hK K hla2 hla3 hk3 ht3
          refine wpE_of_held _ _ _ _ ?_
          refine wpAnyH_take (i := 12) (oi := ?oi1) (v := ?v1) ?hi1 (by kernel_rfl) (by kernel_rfl) (by kernel_rfl) ?hQ1 ?hy1 (by assumption) ?rest1
          case hi1 => (simp only [List.getElem?_toArray]; rfl)
          case hQ1 => exact fun _ _ _ h => h
          case hy1 => exact Or.inl ⟨by rfl, by (intro w hSw; (try dsimp only at hSw); go_simp; try with_reducible rfl)⟩
          try simp only [Act.put, List.setIfInBounds_toArray, List.set_cons_zero, List.set_cons_succ]
          refine wpAnyH_take (i := 13) (oi := ?oi2) (v := ?v2) ?hi2 (by kernel_rfl) (by kernel_rfl) (by kernel_rfl) ?hQ2 ?hy2 (by assumption) ?rest2
          case hi2 => (simp only [List.getElem?_toArray]; rfl)
          case hQ2 => exact fun _ _ _ h => h
          case hy2 => exact Or.inl ⟨by rfl, by (intro w hSw; (try dsimp only at hSw); go_simp; try with_reducible rfl)⟩
          try simp only [Act.put, List.setIfInBounds_toArray, List.set_cons_zero, List.set_cons_succ]
          refine wpAnyH_take (i := 14) (oi := ?oi3) (v := ?v3) ?hi3 (by kernel_rfl) (by kernel_rfl) (by kernel_rfl) ?hQ3 ?hy3 (by assumption) ?rest3
          case hi3 => (simp only [List.getElem?_toArray]; rfl)
          case hQ3 => exact fun _ _ _ h => h
          case hy3 => exact Or.inl ⟨by rfl, by (intro w hSw; (try dsimp only at hSw); go_simp; try with_reducible rfl)⟩
          try simp only [Act.put, List.setIfInBounds_toArray, List.set_cons_zero, List.set_cons_succ]
          refine wpAnyH_take (i := 15) (oi := ?oi4) (v := ?v4) ?hi4 (by kernel_rfl) (by kernel_rfl) (by kernel_rfl) ?hQ4 ?hy4 (by assumption) ?rest4
          case hi4 => (simp only [List.getElem?_toArray]; rfl)
          case hQ4 => exact fun _ _ _ h => h
          case hy4 => exact Or.inl ⟨by rfl, by (intro w hSw; (try dsimp only at hSw); go_simp; try with_reducible rfl)⟩
          try simp only [Act.put, List.setIfInBounds_toArray, List.set_cons_zero, List.set_cons_succ]
          refine wpAnyH_take (i := 16) (oi := ?oi5) (v := ?v5) ?hi5 (by kernel_rfl) (by kernel_rfl) (by kernel_rfl) ?hQ5 ?hy5 (by assumption) ?rest5
          case hi5 => (simp only [List.getElem?_toArray]; rfl)
          case hQ5 => exact fun _ _ _ h => h
          case hy5 => exact Or.inl ⟨by rfl, by (intro w hSw; (try dsimp only at hSw); go_simp; try with_reducible rfl)⟩
          try simp only [Act.put, List.setIfInBounds_toArray, List.set_cons_zero, List.set_cons_succ]
          refine wpAnyH_done (by kernel_rfl) ?_ _
          clear hHeld
          obtain ⟨sn, hsn⟩ : ∃ n : Int, (pushA 250 d2.A q id qty tb).2.1 = n := ⟨_, rfl⟩
          rw [hsn]
          have HSN := Lib.hid hsn
          have hM2 : d2.M = d.M := by
            have h1 : d2.abs.M = d1.abs.M := by rw [HA2.out, queue_M]
            exact h1.trans HM1.out
          have hno : lookM (d2.M.map (fun x => (x.1, x.2.agg))) id = none := by
            have h1 := HOK.out
            rw [look_mv, hM2, h1.1]
            cases lp with
            | none => rfl
            | some p => cases h1.2
          obtain ⟨w4, hru, hmm, hkk, _⟩ := (show MapAt w3 d2.gm (d2.M.map (fun x => (x.1, x.2.agg))) from HT3.out.bk.mp).store (P := Try.prog) Try.underlying58 Try.underlying2 id (Pl.agg ⟨side, price, sn⟩) hno
          have c3 : w3.cell? ⟨pb, 3, none⟩ = some (.map (some d2.gm)) := (BC.of HT3.out.bk.box).2.2.2.1
          have HT4 := Lib.hid (HT3.out.trans (HT3.out.bk.map_ (M' := d2.M ++ [(id, ⟨side, price, sn⟩)]) (by rw [List.map_append]; exact hmm) hkk))
          unfold Pl.agg at hru
          clear hsn hM2 hno hmm hkk
          go_upto_region 15 with (fail)
          go_wp2_with fail
          go_ret
          refine ⟨by rw [HE.out]; rfl, _, HT4.out, ?_⟩
          rw [HE.out]
          unfold putB
          rw [← HA1.out, HQ.out, ← HA2.out, ← HSN.out]
          rfl
end
end Go.Proofs.Ytmhljdkhekjfmaa

/- The walk of the book's Find. -/
namespace Go.Proofs.Ytmhljdkhekjfmaa
open Go.RowKit

theorem fndO_none {a : BA} {id : Int} (h : lookPl a.M id = none) : fndO a id = (zeroOd, false) := by unfold fndO; rw [h]
theorem fndO_some {a : BA} {id : Int} {p : Pl} (h : lookPl a.M id = some p) : fndO a id = (⟨id, p.side, p.price, (entE a.A p.slot).qty, (entE a.A p.slot).top⟩, true) := by unfold fndO; rw [h]
section
variable {w w' : World} {pb B : Nat} {d : BD}
set_option maxRecDepth 100000 in
set_option maxHeartbeats 16000000 in
theorem find_od (h : Bk w pb d B) (id : Int) :
    Calls Try.prog 23 #[.pointer (some ⟨pb, 0, none⟩), .int .i64 id] w fun e w' => e = .returned (.tuple #[.agg (fndO d.abs id).1.cells.toArray, .bool (fndO d.abs id).2]) ∧ Below w.heap.size w w' := by
  have hlv : Blk (w.alloc (.cells #[.int .i64 0, .int .i64 0, .int .i64 0, .int .i64 0, .bool false] 39)) w.heap.size 39 #[.int .i64 0, .int .i64 0, .int .i64 0, .int .i64 0, .bool false] := Blk.new _ _ _
  have hbl := Below.allocN w (.cells #[.int .i64 0, .int .i64 0, .int .i64 0, .int .i64 0, .bool false] 39)
  have HB := Lib.hid (h.below hbl)
  have HLV := Lib.hid hlv
  have HBL := Lib.hid hbl
  have hlk := (h.below hbl).look id
  have c3 := (BC.of (h.below hbl).box).2.2.2.1
  cases hp : lookPl d.M id with
  | none =>
    rw [hp] at hlk
    have HE : Hid (fndO d.abs id = (zeroOd, false)) := Lib.hid (fndO_none hp)
    clear h hp hlv hbl
    unfold Pl.agg zeroPl at hlk
    dsimp only [Option.getD_none, Option.isSome_none] at hlk
    go_enter Try.func23, Try.ntmps23
    go_wp2_with fail
    have hb2 : Below w.heap.size w ((w.alloc (.cells #[.int .i64 0, .int .i64 0, .int .i64 0, .int .i64 0, .bool false] 39)).alloc (.cells #[.int .i64 0, .int .i64 0, .int .i64 0] 71)) := HBL.out.alloc HBL.out.size _
    refine bodyPost_ret (v := .tuple #[.agg #[.int .i64 0, .int .i64 0, .int .i64 0, .int .i64 0, .bool false], .bool false]) (by simp [results, Try.results23, go_sem]) rfl ⟨by rw [HE.out]; rfl, ?_⟩
    exact hb2
  | some p =>
    rw [hp] at hlk
    have HE : Hid (fndO d.abs id = _) := Lib.hid (fndO_some hp)
    clear h hp hlv hbl
    unfold Pl.agg at hlk
    dsimp only [Option.getD_some, Option.isSome_some] at hlk
    go_enter Try.func23, Try.ntmps23
    go_upto_region 1 with (fail)
    obtain ⟨gr, hgr⟩ : ∃ gr, w.heap.size = gr := ⟨_, rfl⟩
    have HGR : Hid (w.heap.size ≤ gr) := Lib.hid (by omega)
    replace HLV : Hid (Blk (w.alloc (.cells #[.int .i64 0, .int .i64 0, .int .i64 0, .int .i64 0, .bool false] 39)) gr 39 #[.int .i64 0, .int .i64 0, .int .i64 0, .int .i64 0, .bool false]) := Lib.hid (by rw [← hgr]; exact HLV.out)
    rw [hgr]
    clear hgr
    generalize w.alloc (.cells #[.int .i64 0, .int .i64 0, .int .i64 0, .int .i64 0, .bool false] 39) = w1 at *
    go_upto_region 4 with (fail)
    clear hlk c3
    have hx : Blk (w1.alloc (.cells #[.int .i64 p.side, .int .i64 p.price, .int .i64 p.slot] 71)) w1.heap.size 71 #[.int .i64 p.side, .int .i64 p.price, .int .i64 p.slot] := Blk.new _ _ _
    have hb1 := Below.allocN w1 (.cells #[.int .i64 p.side, .int .i64 p.price, .int .i64 p.slot] 71)
    obtain ⟨gx, hgx⟩ : ∃ gx, w1.heap.size = gx := ⟨_, rfl⟩
    have HGX : Hid (w1.heap.size ≤ gx) := Lib.hid (by omega)
    have hlv2 := HLV.out.below hb1
    have HBL2 := Lib.hid (HBL.out.trans (hb1.mono HBL.out.size))
    replace HB := Lib.hid (HB.out.below hb1)
    rw [hgx] at hx ⊢
    clear hgx hb1
    generalize w1.alloc (.cells #[.int .i64 p.side, .int .i64 p.price, .int .i64 p.slot] 71) = w2 at *
    have HB1 := Lib.hid HB.out
    have HX2 := Lib.hid hx
    have HL2 := Lib.hid hlv2
    clear hx HB HBL HLV hlv2
    obtain ⟨en, hen⟩ : ∃ en, entE d.A p.slot = en := ⟨_, rfl⟩
    obtain ⟨fi, hfi⟩ : ∃ b, (findA d.A p.slot).isSome = b := ⟨_, rfl⟩
    have HGE : Hid (∀ wv, LA wv d.ab d.sb d.qa 250 d.A → Calls Try.prog 32 #[.pointer (some ⟨d.ab, 0, none⟩), .int .i64 p.slot] wv fun e w' => e = .returned (.tuple #[.agg #[.int .i64 en.slot, .int .i64 en.id, .int .i64 en.qty, .bool en.top], .bool fi]) ∧ Below wv.heap.size wv w') := Lib.hid fun wv hw => by
      have h1 := la_get hw p.slot
      rw [entOf_eq, hen, hfi] at h1
      exact h1
    have hda : d.abs.A = d.A := rfl
    rw [hda, hen] at HE
    clear hen hfi hda
    go_cut [8, 9] (fun u v wx => ∃ ge, u = .pointer (some ⟨ge, 0, none⟩) ∧ v = .bool fi ∧ Blk wx ge 80 #[.int .i64 en.slot, .int .i64 en.id, .int .i64 en.qty, .bool en.top] ∧ Below w2.heap.size w2 wx)
    case first =>
      have hS0 : w2.cell? ⟨pb, 0, none⟩ = some (.pointer (some ⟨d.ab, 0, none⟩)) ∧ w2.cell? ⟨gx, 2, none⟩ = some (.int .i64 p.slot) := ⟨(BC.of HB1.out.box).1, HX2.out.cell 2⟩
      have HSS := Lib.hid fun (wv : World) (hb : Below w2.heap.size w2 wv) => (⟨(BC.of (HB1.out.below hb).box).1, (HX2.out.below hb).cell 2⟩ : wv.cell? ⟨pb, 0, none⟩ = some (.pointer (some ⟨d.ab, 0, none⟩)) ∧ wv.cell? ⟨gx, 2, none⟩ = some (.int .i64 p.slot))
      have HLL := Lib.hid fun (wv : World) (hb : Below w2.heap.size w2 wv) => (HB1.out.below hb).la
      have HFI : Hid (∀ (wv : World) (ge : Nat), Below w2.heap.size w2 wv → w2.heap.size ≤ ge → Blk wv ge 80 #[.int .i64 0, .int .i64 0, .int .i64 0, .bool false] → Blk ((((wv.setCell ⟨ge, 0, none⟩ (.int .i64 en.slot)).setCell ⟨ge, 1, none⟩ (.int .i64 en.id)).setCell ⟨ge, 2, none⟩ (.int .i64 en.qty)).setCell ⟨ge, 3, none⟩ (.bool en.top)) ge 80 #[.int .i64 en.slot, .int .i64 en.id, .int .i64 en.qty, .bool en.top] ∧ Below w2.heap.size w2 ((((wv.setCell ⟨ge, 0, none⟩ (.int .i64 en.slot)).setCell ⟨ge, 1, none⟩ (.int .i64 en.id)).setCell ⟨ge, 2, none⟩ (.int .i64 en.qty)).setCell ⟨ge, 3, none⟩ (.bool en.top))) := Lib.hid fun wv ge hb hge hz =>
        ⟨(((hz.set_ 0 _).set_ 1 _).set_ 2 _).set_ 3 _, (((hb.setCell (p := ⟨ge, 0, none⟩) hge _).setCell (p := ⟨ge, 1, none⟩) hge _).setCell (p := ⟨ge, 2, none⟩) hge _).setCell (p := ⟨ge, 3, none⟩) hge _⟩
      refine wp_region_E (S := fun w' => w'.cell? ⟨pb, 0, none⟩ = some (.pointer (some ⟨d.ab, 0, none⟩)) ∧ w'.cell? ⟨gx, 2, none⟩ = some (.int .i64 p.slot)) (by kernel_rfl) hS0 (fun hHeld => ?_)
      refine wpE_take (i := 0) (oi := ?oi2) (v := ?v2) ?hi2 (by kernel_rfl) (by kernel_rfl) (by kernel_rfl) (by kernel_rfl) ?hQ2 ?hy2 (by assumption) ?rest2
      case hi2 => (simp only [List.getElem?_toArray]; rfl)
      case hQ2 => exact fun _ _ _ h => h
      case hy2 => exact Or.inl ⟨by rfl, by (intro w hSw; (try dsimp only at hSw); go_simp; try with_reducible rfl)⟩
      try simp only [Act.put, List.setIfInBounds_toArray, List.set_cons_zero, List.set_cons_succ]
      refine wpE_take (i := 1) (oi := ?oi3) (v := ?v3) ?hi3 (by kernel_rfl) (by kernel_rfl) (by kernel_rfl) (by kernel_rfl) ?hQ3 ?hy3 (by assumption) ?rest3
      case hi3 => (simp only [List.getElem?_toArray]; rfl)
      case hQ3 => exact fun _ _ _ h => h
      case hy3 => exact Or.inl ⟨by rfl, by (intro w hSw; (try dsimp only at hSw); go_simp; try with_reducible rfl)⟩
      try simp only [Act.put, List.setIfInBounds_toArray, List.set_cons_zero, List.set_cons_succ]
      refine wpE_take (i := 2) (oi := ?oi4) (v := ?v4) ?hi4 (by kernel_rfl) (by kernel_rfl) (by kernel_rfl) (by kernel_rfl) ?hQ4 ?hy4 (by assumption) ?rest4
      case hi4 => (simp only [List.getElem?_toArray]; rfl)
      case hQ4 => exact fun _ _ _ h => h
      case hy4 => exact Or.inl ⟨by rfl, by (intro w hSw; (try dsimp only at hSw); go_simp; try with_reducible rfl)⟩
      try simp only [Act.put, List.setIfInBounds_toArray, List.set_cons_zero, List.set_cons_succ]
      refine wpE_take (i := 3) (oi := ?oi5) (v := ?v5) ?hi5 (by kernel_rfl) (by kernel_rfl) (by kernel_rfl) (by kernel_rfl) ?hQ5 ?hy5 (by assumption) ?rest5
      case hi5 => (simp only [List.getElem?_toArray]; rfl)
      case hQ5 => exact fun _ _ _ h => h
      case hy5 => exact Or.inl ⟨by rfl, by (intro w hSw; (try dsimp only at hSw); go_simp; try with_reducible rfl)⟩
      try simp only [Act.put, List.setIfInBounds_toArray, List.set_cons_zero, List.set_cons_succ]
      refine wpE_take (i := 4) (oi := ?oi6) (v := ?v6) ?hi6 (by kernel_rfl) (by kernel_rfl) (by kernel_rfl) (by kernel_rfl) ?hQ6 ?hy6 (by assumption) ?rest6
      case hi6 => (simp only [List.getElem?_toArray]; rfl)
      case hQ6 => exact fun _ _ _ h => h
      case hy6 => exact Or.inl ⟨by rfl, by (intro w hSw; (try dsimp only at hSw); go_simp; try with_reducible rfl)⟩
      try simp only [Act.put, List.setIfInBounds_toArray, List.set_cons_zero, List.set_cons_succ]
      refine wpE_take (i := 5) (oi := ?oi7) (v := ?v7) ?hi7 (by kernel_rfl) (by kernel_rfl) (by kernel_rfl) (by kernel_rfl) ?hQ7 ?hy7 (by assumption) ?rest7
      case hi7 => (simp only [List.getElem?_toArray]; rfl)
      case hQ7 => exact fun _ _ _ h => h
      case hy7 => exact Or.inl ⟨by rfl, by (intro w hSw; (try dsimp only at hSw); go_simp; try with_reducible rfl)⟩
      try simp only [Act.put, List.setIfInBounds_toArray, List.set_cons_zero, List.set_cons_succ]
      refine wpE_two (i := 6) (j := 10) (oi := ?oa1) (oj := ?ob1) ?ha1 ?hb1 (by kernel_rfl) (fun K hK => ?_) (fun K hK => ?_)
      case ha1 => (simp only [List.getElem?_toArray]; rfl)
      case hb1 => (simp only [List.getElem?_toArray]; rfl)
      · go_simp
        go_at_call 32
        have HBD := Lib.hid (Below.drewN_of w2 1)
        refine (HGE.out w2.drew (HLL.out _ HBD.out)).mono ?_
        rintro e w3 ⟨rfl, hb⟩
        have HB3 : Hid (Below w2.heap.size w2 w3) := Lib.hid (HBD.out.trans hb)
        refine hK.out _ _ (HSS.out _ HB3.out) (fun hHeld => ?_)
        clear hK K hb
        refine wpE_take (i := 7) (oi := ?oi8) (v := ?v8) ?hi8 (by kernel_rfl) (by kernel_rfl) (by kernel_rfl) (by kernel_rfl) ?hQ8 ?hy8 (by assumption) ?rest8
        case hi8 => (simp only [List.getElem?_toArray]; rfl)
        case hQ8 => exact fun _ _ _ h => h
        case hy8 => exact Or.inl ⟨by rfl, by (intro w hSw; (try dsimp only at hSw); go_simp; try with_reducible rfl)⟩
        try simp only [Act.put, List.setIfInBounds_toArray, List.set_cons_zero, List.set_cons_succ]
        refine wpE_take (i := 8) (oi := ?oi9) (v := ?v9) ?hi9 (by kernel_rfl) (by kernel_rfl) (by kernel_rfl) (by kernel_rfl) ?hQ9 ?hy9 (by assumption) ?rest9
        case hi9 => (simp only [List.getElem?_toArray]; rfl)
        case hQ9 => exact fun _ _ _ h => h
        case hy9 => exact Or.inl ⟨by rfl, by (intro w hSw; (try dsimp only at hSw); go_simp; try with_reducible rfl)⟩
        try simp only [Act.put, List.setIfInBounds_toArray, List.set_cons_zero, List.set_cons_succ]
        refine wpE_take (i := 9) (oi := ?oi10) (v := ?v10) ?hi10 (by kernel_rfl) (by kernel_rfl) (by kernel_rfl) (by kernel_rfl) ?hQ10 ?hy10 (by assumption) ?rest10
        case hi10 => (simp only [List.getElem?_toArray]; rfl)
        case hQ10 => exact fun _ _ _ h => h
        case hy10 => exact Or.inl ⟨by rfl, by (intro w hSw; (try dsimp only at hSw); go_simp; try with_reducible rfl)⟩
        try simp only [Act.put, List.setIfInBounds_toArray, List.set_cons_zero, List.set_cons_succ]
        refine wpE_one (i := 10) (o := ?o14) ?ho14 (by kernel_rfl) (fun K hK => ?_)
        case ho14 => (simp only [List.getElem?_toArray]; rfl)
        go_simp
        have HB4 := Lib.hid (HB3.out.alloc HB3.out.size (.cells #[.int .i64 0, .int .i64 0, .int .i64 0, .bool false] 80))
        have hz : Blk (w3.alloc (.cells #[.int .i64 0, .int .i64 0, .int .i64 0, .bool false] 80)) w3.heap.size 80 #[.int .i64 0, .int .i64 0, .int .i64 0, .bool false] := Blk.new _ _ _
        have HZ := Lib.hid hz
        refine hK.out _ _ (HSS.out _ HB4.out) (fun hHeld => ?_)
        clear hK K
        obtain ⟨ge, hge⟩ : ∃ ge, w3.heap.size = ge := ⟨_, rfl⟩
        have HGE2 : Hid (w2.heap.size ≤ ge) := Lib.hid (by rw [← hge]; exact HB3.out.size)
        rw [hge] at hz ⊢
        replace HZ := Lib.hid hz
        clear hge
        generalize w3.alloc (.cells #[.int .i64 0, .int .i64 0, .int .i64 0, .bool false] 80) = w4 at *
        have k0 : w4.cell? ⟨ge, 0, none⟩ = some (.int .i64 0) := hz.cell 0
        have k1 : w4.cell? ⟨ge, 1, none⟩ = some (.int .i64 0) := hz.cell 1
        have k2 : w4.cell? ⟨ge, 2, none⟩ = some (.int .i64 0) := hz.cell 2
        have k3 : w4.cell? ⟨ge, 3, none⟩ = some (.bool false) := hz.cell 3
        have kf : ∀ o, w4.frozen? ⟨ge, o, none⟩ = false := fun o => HZ.out.frozen o
        clear hz
        refine wpE_one (i := 11) (o := ?o15) ?ho15 (by kernel_rfl) (fun K hK => ?_)
        case ho15 => (simp only [List.getElem?_toArray]; rfl)
        go_simp
        have hfin := HFI.out w4 ge HB4.out HGE2.out HZ.out
        have HFIN := Lib.hid hfin
        refine hK.out _ _ (HSS.out _ hfin.2) (fun hHeld => ?_)
        clear hK K k0 k1 k2 k3 kf hfin
        refine wpE_last (i := 12) (o := ?o18) ?ho18 (by kernel_rfl) (by kernel_rfl) (by kernel_rfl) (fun K hK => ?_)
        case ho18 => (simp only [List.getElem?_toArray]; rfl)
        go_simp
        refine hK.out _ _ ?_
        clear hK K
        go_wp2_with fail
        go_meet
        exact ⟨ge, rfl, rfl, HFIN.out.1, HFIN.out.2⟩
      · go_simp
        have hz : Blk (w2.alloc (.cells #[.int .i64 0, .int .i64 0, .int .i64 0, .bool false] 80)).drew w2.heap.size 80 #[.int .i64 0, .int .i64 0, .int .i64 0, .bool false] := (Blk.new _ _ _).drew
        have HBD : Hid (Below w2.heap.size w2 (w2.alloc (.cells #[.int .i64 0, .int .i64 0, .int .i64 0, .bool false] 80)).drew) := Lib.hid ((Below.allocN _ _).drew)
        refine hK.out _ _ (HSS.out _ HBD.out) (fun hHeld => ?_)
        clear hK K
        obtain ⟨ge, hge⟩ : ∃ ge, w2.heap.size = ge := ⟨_, rfl⟩
        have HGE2 : Hid (w2.heap.size ≤ ge) := Lib.hid (by omega)
        have hz1 := hz
        rw [hge] at hz1 ⊢
        clear hge hz
        generalize (w2.alloc (.cells #[.int .i64 0, .int .i64 0, .int .i64 0, .bool false] 80)).drew = w3 at *
        refine wpE_one (i := 6) (o := ?o16) ?ho16 (by kernel_rfl) (fun K hK => ?_)
        case ho16 => (simp only [List.getElem?_toArray]; rfl)
        go_simp
        go_at_call 32
        refine (HGE.out w3 (HLL.out _ HBD.out)).mono ?_
        rintro e w4 ⟨rfl, hb⟩
        have HB4 : Hid (Below w2.heap.size w2 w4) := Lib.hid (HBD.out.trans (hb.mono HBD.out.size))
        have HZ := Lib.hid (hz1.below hb)
        have hz := HZ.out
        refine hK.out _ _ (HSS.out _ HB4.out) (fun hHeld => ?_)
        clear hK K hb hz1
        have k0 : w4.cell? ⟨ge, 0, none⟩ = some (.int .i64 0) := hz.cell 0
        have k1 : w4.cell? ⟨ge, 1, none⟩ = some (.int .i64 0) := hz.cell 1
        have k2 : w4.cell? ⟨ge, 2, none⟩ = some (.int .i64 0) := hz.cell 2
        have k3 : w4.cell? ⟨ge, 3, none⟩ = some (.bool false) := hz.cell 3
        have kf : ∀ o, w4.frozen? ⟨ge, o, none⟩ = false := fun o => HZ.out.frozen o
        clear hz
        refine wpE_take (i := 7) (oi := ?oi11) (v := ?v11) ?hi11 (by kernel_rfl) (by kernel_rfl) (by kernel_rfl) (by kernel_rfl) ?hQ11 ?hy11 (by assumption) ?rest11
        case hi11 => (simp only [List.getElem?_toArray]; rfl)
        case hQ11 => exact fun _ _ _ h => h
        case hy11 => exact Or.inl ⟨by rfl, by (intro w hSw; (try dsimp only at hSw); go_simp; try with_reducible rfl)⟩
        try simp only [Act.put, List.setIfInBounds_toArray, List.set_cons_zero, List.set_cons_succ]
        refine wpE_take (i := 8) (oi := ?oi12) (v := ?v12) ?hi12 (by kernel_rfl) (by kernel_rfl) (by kernel_rfl) (by kernel_rfl) ?hQ12 ?hy12 (by assumption) ?rest12
        case hi12 => (simp only [List.getElem?_toArray]; rfl)
        case hQ12 => exact fun _ _ _ h => h
        case hy12 => exact Or.inl ⟨by rfl, by (intro w hSw; (try dsimp only at hSw); go_simp; try with_reducible rfl)⟩
        try simp only [Act.put, List.setIfInBounds_toArray, List.set_cons_zero, List.set_cons_succ]
        refine wpE_take (i := 9) (oi := ?oi13) (v := ?v13) ?hi13 (by kernel_rfl) (by kernel_rfl) (by kernel_rfl) (by kernel_rfl) ?hQ13 ?hy13 (by assumption) ?rest13
        case hi13 => (simp only [List.getElem?_toArray]; rfl)
        case hQ13 => exact fun _ _ _ h => h
        case hy13 => exact Or.inl ⟨by rfl, by (intro w hSw; (try dsimp only at hSw); go_simp; try with_reducible rfl)⟩
        try simp only [Act.put, List.setIfInBounds_toArray, List.set_cons_zero, List.set_cons_succ]
        refine wpE_one (i := 11) (o := ?o17) ?ho17 (by kernel_rfl) (fun K hK => ?_)
        case ho17 => (simp only [List.getElem?_toArray]; rfl)
        go_simp
        have hfin := HFI.out w4 ge HB4.out HGE2.out HZ.out
        have HFIN := Lib.hid hfin
        refine hK.out _ _ (HSS.out _ hfin.2) (fun hHeld => ?_)
        clear hK K k0 k1 k2 k3 kf hfin
        refine wpE_last (i := 12) (o := ?o19) ?ho19 (by kernel_rfl) (by kernel_rfl) (by kernel_rfl) (fun K hK => ?_)
        case ho19 => (simp only [List.getElem?_toArray]; rfl)
        go_simp
        refine hK.out _ _ ?_
        clear hK K
        go_wp2_with fail
        go_meet
        exact ⟨ge, rfl, rfl, HFIN.out.1, HFIN.out.2⟩
    case rest =>
    obtain ⟨ge, rfl, rfl, hg, hb⟩ := hcut
    obtain ⟨wx, rfl⟩ : ∃ wo : World, wo = wc := ⟨_, rfl⟩
    have HX3 := Lib.hid (HX2.out.below hb)
    have hl3 := HL2.out.below hb
    have HL3 := Lib.hid hl3
    have HB3 := Lib.hid (HBL2.out.trans (hb.mono HBL2.out.size))
    have e2 : wx.cell? ⟨ge, 2, none⟩ = some (.int .i64 en.qty) := hg.cell 2
    have e3 : wx.cell? ⟨ge, 3, none⟩ = some (.bool en.top) := hg.cell 3
    have x0 : wx.cell? ⟨gx, 0, none⟩ = some (.int .i64 p.side) := HX3.out.cell 0
    have x1 : wx.cell? ⟨gx, 1, none⟩ = some (.int .i64 p.price) := HX3.out.cell 1
    have l0 : wx.cell? ⟨gr, 0, none⟩ = some (.int .i64 0) := hl3.cell 0
    have l1 : wx.cell? ⟨gr, 1, none⟩ = some (.int .i64 0) := hl3.cell 1
    have l2 : wx.cell? ⟨gr, 2, none⟩ = some (.int .i64 0) := hl3.cell 2
    have l3 : wx.cell? ⟨gr, 3, none⟩ = some (.int .i64 0) := hl3.cell 3
    have l4 : wx.cell? ⟨gr, 4, none⟩ = some (.bool false) := hl3.cell 4
    have f0 : ∀ o, wx.frozen? ⟨gr, o, none⟩ = false := fun o => HL3.out.frozen o
    clear hb hg HX2 HL2 HBL2 HGE hl3 HB1
    go_wp2_with fail
    clear l0 l1 l2 l3 l4 f0 e2 e3 x0 x1
    have hz := ((((HL3.out.set_ 0 (.int .i64 id)).set_ 1 (.int .i64 p.side)).set_ 2 (.int .i64 p.price)).set_ 3 (.int .i64 en.qty)).set_ 4 (.bool en.top)
    have hbz := ((((HB3.out.setCell (p := ⟨gr, 0, none⟩) HGR.out (.int .i64 id)).setCell (p := ⟨gr, 1, none⟩) HGR.out (.int .i64 p.side)).setCell (p := ⟨gr, 2, none⟩) HGR.out (.int .i64 p.price)).setCell (p := ⟨gr, 3, none⟩) HGR.out (.int .i64 en.qty)).setCell (p := ⟨gr, 4, none⟩) HGR.out (.bool en.top)
    generalize ((((wx.setCell ⟨gr, 0, none⟩ (.int .i64 id)).setCell ⟨gr, 1, none⟩ (.int .i64 p.side)).setCell ⟨gr, 2, none⟩ (.int .i64 p.price)).setCell ⟨gr, 3, none⟩ (.int .i64 en.qty)).setCell ⟨gr, 4, none⟩ (.bool en.top) = wz at *
    have k0 : wz.cell? ⟨gr, 0, none⟩ = some (.int .i64 id) := hz.cell 0
    have k1 : wz.cell? ⟨gr, 1, none⟩ = some (.int .i64 p.side) := hz.cell 1
    have k2 : wz.cell? ⟨gr, 2, none⟩ = some (.int .i64 p.price) := hz.cell 2
    have k3 : wz.cell? ⟨gr, 3, none⟩ = some (.int .i64 en.qty) := hz.cell 3
    have k4 : wz.cell? ⟨gr, 4, none⟩ = some (.bool en.top) := hz.cell 4
    refine bodyPost_ret (v := .tuple #[.agg #[.int .i64 id, .int .i64 p.side, .int .i64 p.price, .int .i64 en.qty, .bool en.top], .bool true]) (by simp [results, Try.results23, go_sem, k0, k1, k2, k3, k4]) rfl ⟨by rw [HE.out]; rfl, hbz⟩
end
end Go.Proofs.Ytmhljdkhekjfmaa

/- The walk of the book's New. -/
namespace Go.Proofs.Ytmhljdkhekjfmaa
open Go.RowKit

def emptyB : BA := ⟨[], [], [], [], [], 0, 0, false, false⟩
def emptyD (n m : Nat) : BD := ⟨n + 1, n, none, m, .slice none 0 0, .slice none 0 0, .slice none 0 0, [], [], [], [], [], 0, 0, false, false⟩
theorem make_map (w : World) : (Instr.makeMap 58 none).run Try.prog w = .ok (.map (some w.heap.size)) (w.alloc (.map #[] 0)) := rfl
set_option maxRecDepth 100000 in
set_option maxHeartbeats 16000000 in
theorem new9 (w : World) (B : Nat) :
    Calls Try.prog 10 #[] w fun e w' => ∃ pb d, e = .returned (.pointer (some ⟨pb, 0, none⟩)) ∧ Bk w' pb d B ∧ d.abs = emptyB ∧ (∀ g, BF pb d g → w.heap.size ≤ g) ∧ Below w.heap.size w w' := by
  go_enter Try.func10, Try.ntmps10
  go_wp2_with fail
  refine (la_new 250 _ (by omega) (by omega)).mono ?_
  rintro e w1 ⟨rfl, hla, hk⟩
  have HLA := Lib.hid hla
  have HK := Lib.hid hk
  clear hla hk
  have hmm := make_map w1
  have hm := MapAt.new w1
  have hbm := Below.allocN w1 (.map #[] 0)
  have HLA1 := Lib.hid (HLA.out.below hbm)
  obtain ⟨gm, hgm⟩ : ∃ gm, w1.heap.size = gm := ⟨_, rfl⟩
  have HSZ : Hid (w.heap.size ≤ gm) := Lib.hid (by rw [← hgm]; exact HK.out.size)
  have HM : Hid (MapAt (w1.alloc (.map #[] 0)) gm []) := Lib.hid (by rw [← hgm]; exact hm)
  have HBM := Lib.hid hbm
  have HK1 : Hid (Below w.heap.size w w1) := Lib.hid ⟨HK.out.os, HK.out.tape, HK.out.output, HK.out.size, fun k hk => HK.out.block k hk (fun x => x)⟩
  rw [hgm] at hmm
  clear hm hbm hgm HK HLA
  generalize w1.alloc (.map #[] 0) = w2 at *
  have HB2 := Lib.hid (HK1.out.trans (HBM.out.mono HK1.out.size))
  go_wp2_with fail
  go_ret
  have hbx : Blk (w2.alloc (.cells (emptyD w.heap.size gm).cells 65)) w2.heap.size 65 (emptyD w.heap.size gm).cells := Blk.new _ _ _
  have hb3 := Below.allocN w2 (.cells (emptyD w.heap.size gm).cells 65)
  refine ⟨w2.heap.size, emptyD w.heap.size gm, rfl, ⟨hbx, HLA1.out.below hb3, HM.out.keep (Below.keeps (F := fun _ => False) hb3) (fun x => x), Lay.Row.nil _ _, Lay.Row.nil _ _, ⟨by simp, .inl ⟨rfl, rfl⟩⟩, fun g hg => by cases hg⟩, rfl, ?_, HB2.out.trans (hb3.mono HB2.out.size)⟩
  have hs2 := HB2.out.size
  have hs3 := HSZ.out
  rintro g (rfl | (rfl | rfl | hg) | rfl | hg | hg | hg)
  · exact hs2
  · exact Nat.le_succ _
  · exact Nat.le_refl _
  · cases hg
  · exact hs3
  · cases hg
  · cases hg
  · cases hg
end Go.Proofs.Ytmhljdkhekjfmaa
