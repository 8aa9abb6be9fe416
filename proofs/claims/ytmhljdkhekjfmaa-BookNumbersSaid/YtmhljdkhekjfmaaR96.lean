/- The walk of cornhillref9.Fill. -/
import Derived.Test.YtmhljdkhekjfmaaR94
import Derived.Deep.RegionHeld3
namespace Go.Proofs.Ytmhljdkhekjfmaa
open Go.RowKit

theorem split_at {L : List Od} {k : Nat} {o : Od} (h : L[k]? = some o) : L = L.take k ++ o :: L.drop (k + 1) := by
  obtain ⟨h1, h2⟩ := get_of h
  rw [← h2, ← List.drop_eq_getElem_cons h1, List.take_append_drop]
theorem ids_off {L : List Od} (hn : (L.map Od.id).Nodup) {k : Nat} {o : Od} (h : L[k]? = some o) : (∀ x ∈ L.take k, x.id ≠ o.id) ∧ ∀ x ∈ L.drop (k + 1), x.id ≠ o.id := by
  rw [split_at h, List.map_append, List.map_cons, List.nodup_append, List.nodup_cons] at hn
  obtain ⟨_, ⟨h2, _⟩, h3⟩ := hn
  refine ⟨fun x hx he => h3 x.id (List.mem_map.2 ⟨x, hx, rfl⟩) o.id (List.mem_cons_self ..) he, fun x hx he => h2 (List.mem_map.2 ⟨x, hx, he⟩)⟩
theorem fill_filter {L : List Od} (hn : (L.map Od.id).Nodup) {k : Nat} {o : Od} (h : L[k]? = some o) : L.filter (fun x => decide (x.id ≠ o.id)) = L.take k ++ L.drop (k + 1) := by
  obtain ⟨h1, h2⟩ := ids_off hn h
  conv => lhs; rw [split_at h]
  rw [List.filter_append, List.filter_cons_of_neg (by simp), List.filter_eq_self.2 fun x hx => decide_eq_true (h1 x hx), List.filter_eq_self.2 fun x hx => decide_eq_true (h2 x hx)]
theorem fill_map {L : List Od} (hn : (L.map Od.id).Nodup) {k : Nat} {o : Od} (h : L[k]? = some o) (f : Od → Od) : L.map (fun x => if x.id = o.id then f x else x) = L.set k (f o) := by
  obtain ⟨h1, h2⟩ := ids_off hn h
  have hk := lt_of_get h
  conv => lhs; rw [split_at h]
  conv => rhs; rw [split_at h]
  rw [List.map_append, List.map_cons, if_pos rfl, List.set_append_right _ _ (by rw [List.length_take]; omega), List.length_take, Nat.min_eq_left (by omega), Nat.sub_self]
  show _ = L.take k ++ f o :: L.drop (k + 1)
  congr 1
  · conv => rhs; rw [← List.map_id' (L.take k)]
    exact List.map_congr_left fun x hx => if_neg (h1 x hx)
  · congr 1
    conv => rhs; rw [← List.map_id' (L.drop (k + 1))]
    exact List.map_congr_left fun x hx => if_neg (h2 x hx)
section
variable {W w w' : World} {pw : Nat} {L : List Od}
set_option maxHeartbeats 4000000 in
theorem fill_ref_none (h : RB W w pw L) (hl : L.length ≤ 250) (id qty : Int) (hf : L.find? (fun o => o.id == id) = none) :
    Calls Try.prog 37 #[.pointer (some ⟨pw, 0, none⟩), .int .i64 id, .int .i64 qty] w fun e w' => e = .returned (.int .i64 26) ∧ w = w' := by
  have hfr := find_ref h hl id
  have HF := Lib.hid hf
  clear h hf
  go_enter Try.func37, Try.ntmps37
  go_wp2_with fail
  refine hfr.mono ?_
  rintro e w2 ⟨⟨r, rfl, hr⟩, rfl⟩
  obtain rfl : r = -1 := by
    rcases hr with ⟨h1, _⟩ | ⟨k, o', _, _, _, h1⟩
    · exact h1
    · have := HF.out; rw [h1] at this; cases this
  clear hr hfr
  go_wp2_with fail
  go_ret
  exact ⟨by trivial, by trivial⟩
set_option maxHeartbeats 4000000 in
theorem fill_ref_qty (h : RB W w pw L) (hl : L.length ≤ 250) (id qty : Int) {o : Od} (hf : L.find? (fun o => o.id == id) = some o) (hq : qty < 1 ∨ o.qty < qty) :
    Calls Try.prog 37 #[.pointer (some ⟨pw, 0, none⟩), .int .i64 id, .int .i64 qty] w fun e w' => e = .returned (.int .i64 24) ∧ w = w' := by
  have hfr := find_ref h hl id
  have HF := Lib.hid hf
  have HH := Lib.hid h
  clear h hf
  go_enter Try.func37, Try.ntmps37
  go_wp2_with fail
  refine hfr.mono ?_
  rintro e w2 ⟨⟨r, rfl, hr⟩, rfl⟩
  obtain ⟨k, rfl, ho⟩ : ∃ k : Nat, r = k ∧ L[k]? = some o := by
    rcases hr with ⟨_, h1⟩ | ⟨k, o', rfl, h2, _, h1⟩
    · rw [HF.out] at h1; cases h1
    · rw [HF.out] at h1; injection h1 with h1; subst h1; exact ⟨k, rfl, h2⟩
  have hkl : (k : Int) < (L.length : Int) := by have := lt_of_get ho; omega
  have hk0 : ¬ (k : Int) < 0 := by omega
  obtain ⟨a, c, hbx, hrw⟩ := HH.out.box
  obtain ⟨_, _, he, _, hrd⟩ := hrw.rd
  injection he with he1 _ he2
  subst he1 he2
  obtain ⟨g, off, rfl, _, hc⟩ := hrd k o ho
  obtain ⟨oq, hoq⟩ : ∃ y, o.qty = y := ⟨_, rfl⟩
  have BX : w.cell? ⟨pw, 0, none⟩ = some (.slice (some ⟨g, off, none⟩) L.length c) := hbx.cell 0
  have c3 : w.cell? ⟨g, off + k * 5 + 3, none⟩ = some (.int .i64 oq) := hoq ▸ hc 3 _ rfl
  rw [hoq] at hq
  clear hr hfr hc hbx hrw hrd ho hoq
  rcases hq with hq | hq
  · go_wp2_with fail
    go_ret
    exact ⟨by trivial, by trivial⟩
  · by_cases hq1 : qty < 1
    · go_wp2_with fail
      go_ret
      exact ⟨by trivial, by trivial⟩
    · go_wp2_with fail
      go_ret
      exact ⟨by trivial, by trivial⟩
set_option maxRecDepth 20000 in
set_option maxHeartbeats 8000000 in
theorem fill_ref_good (h : RB W w pw L) (hl : L.length ≤ 250) (hn : (L.map Od.id).Nodup) (id qty : Int) {o : Od} (hf : L.find? (fun o => o.id == id) = some o) (hq : 1 ≤ qty ∧ qty ≤ o.qty) (hqo : o.qty ≤ 1000000) (R : List Od) (hRR : R = (refFill L id qty).1) :
    Calls Try.prog 37 #[.pointer (some ⟨pw, 0, none⟩), .int .i64 id, .int .i64 qty] w fun e w' => e = .returned (.int .i64 0) ∧ RB W w' pw R ∧ Keeps (fun g => g = pw) w w' := by
  have hfr := find_ref h hl id
  have HF := Lib.hid hf
  have HH := Lib.hid h
  have hoid : o.id = id := by simpa using List.find?_some hf
  have HRR : Hid (∀ k, L[k]? = some o → R = if o.qty = qty then L.take k ++ L.drop (k + 1) else L.set k { o with qty := o.qty - qty }) := Lib.hid fun k hk => by
    rw [hRR, refFill_some hf, if_neg (by omega)]
    subst hoid
    split
    · exact fill_filter hn hk
    · exact fill_map hn hk fun x => { x with qty := x.qty - qty }
  have HPB0 := Lib.hid h.box
  clear h hf hRR hn
  go_enter Try.func37, Try.ntmps37
  go_wp2_with fail
  refine hfr.mono ?_
  rintro e w2 ⟨⟨r, rfl, hr⟩, rfl⟩
  obtain ⟨k, rfl, ho⟩ : ∃ k : Nat, r = k ∧ L[k]? = some o := by
    rcases hr with ⟨_, h1⟩ | ⟨k, o', rfl, h2, _, h1⟩
    · rw [HF.out] at h1; cases h1
    · rw [HF.out] at h1; injection h1 with h1; subst h1; exact ⟨k, rfl, h2⟩
  have hkl : (k : Int) < (L.length : Int) := by have := lt_of_get ho; omega
  have hk0 : ¬ (k : Int) < 0 := by omega
  have HRK := Lib.hid (HRR.out k ho)
  obtain ⟨a, c, hbx, hrw⟩ := HPB0.out
  obtain ⟨_, _, he, hac, hrd⟩ := hrw.rd
  injection he with he1 _ he2
  subst he1 he2
  obtain ⟨g, off, rfl, _, hc⟩ := hrd k o ho
  obtain ⟨f0, f1, f2, oq, f4⟩ := o
  have hq1 : ¬ qty < 1 := by omega
  have hq2 : ¬ oq < qty := by have := hq.2; dsimp only at this; omega
  have hq3 : 1 ≤ qty := hq.1
  have hq4 : oq ≤ 1000000 := hqo
  have HO := Lib.hid ho
  have HPB := Lib.hid hbx
  have BX : w.cell? ⟨pw, 0, none⟩ = some (.slice (some ⟨g, off, none⟩) L.length c) := hbx.cell 0
  have c3 : w.cell? ⟨g, off + k * 5 + 3, none⟩ = some (.int .i64 oq) := hc 3 _ rfl
  have hoff0 : off = 0 := by
    rcases hrw.2 with ⟨hv, _⟩ | ⟨g9, cap9, cur9, hv, _⟩
    · injection hv with hv; cases hv
    · injection hv with hv; injection hv with hv; injection hv with _ hv
  have HRD := Lib.hid hrd
  have HAC := Lib.hid hac
  clear hr hfr hc hbx hrw hrd ho hq hqo hac HPB0 HRR
  subst hoff0
  rw [Nat.zero_add] at c3
  go_upto_region 6 with (fail)
  clear c3
  have hba := Below.allocN w (.cells #[] 89)
  have HRD2 := Lib.hid (HRD.out.below hba)
  have HE2 : Hid (ROD.Row (w.alloc (.cells #[] 89)) w.heap.size (.slice (some ⟨w.heap.size, 0, none⟩) 0 0) []) := Lib.hid (Lay.Row.empty w)
  have HB2 := Lib.hid hba
  have bx2 := (hba.cell (p := ⟨pw, 0, none⟩) HPB.out.lt).trans BX
  have HAD : Hid (∀ ad, (some ⟨g, 0, none⟩ : Option Addr) = some ad → ∃ b off, ad = ⟨b, off, none⟩) := Lib.hid fun ad hab => by injection hab with hab; exact ⟨g, 0, hab.symm⟩
  clear hba
  go_wp2_with (first
    | (at_builtin; go_loud (refine ROD.pushes rfl (.tmp 28) (.tmp 32) rfl w.heap.size (.slice (some ⟨w.heap.size, 0, none⟩) 0 0) [] rfl HE2.out (some ⟨g, 0, none⟩) c L rfl HAC.out HRD2.out HAD.out (by have h0 : ([] : List Od).length = 0 := rfl; omega) HB2.out.size ?_)))
  intro v' w3 hr3 hg3 ho3
  try rw [List.nil_append] at hr3
  obtain ⟨gl, cap, _, rfl, hgl, _⟩ := hr3.some_of (by
    rcases ho3 with h5 | h5
    · rw [h5]; simp [Value.ownBlock]
    · rw [h5]; simp)
  have hb3 := grown_below hg3 HB2.out (own_base HE2.out)
  have hp3 := HPB.out.below hb3
  have HR3 := Lib.hid hr3
  have HB3 := Lib.hid hb3
  have HP3 := Lib.hid hp3
  have HGL : Hid (w.heap.size ≤ gl) := Lib.hid hgl
  have HPLT : Hid (pw < w.heap.size) := Lib.hid HPB.out.lt
  have bx3 : w3.cell? ⟨pw, 0, none⟩ = some (.slice (some ⟨g, 0, none⟩) L.length c) := hp3.cell 0
  have fz3 : ∀ o, w3.frozen? ⟨pw, o, none⟩ = false := fun o => HP3.out.frozen o
  clear hr3 hg3 ho3 hb3 hp3 hgl HRD HRD2 HE2 HB2 HAC HAD bx2 BX
  go_upto_region 7 with (fail)
  clear bx3 fz3
  have hp4 := HP3.out.set_ 0 (.slice (some ⟨gl, 0, none⟩) L.length cap)
  have hr4 : ROD.Row (w3.setCell ⟨pw, 0, none⟩ (.slice (some ⟨gl, 0, none⟩) L.length cap)) w.heap.size (.slice (some ⟨gl, 0, none⟩) L.length cap) L := own_far HR3.out (p := ⟨pw, 0, none⟩) (fun hy => by have h0 : some gl = some pw := hy; injection h0 with h0; have h1 := HPLT.out; have h2 := HGL.out; omega) _
  have hk4 : Keeps (fun g => g = pw ∨ w.heap.size ≤ g) w (w3.setCell ⟨pw, 0, none⟩ (.slice (some ⟨gl, 0, none⟩) L.length cap)) := (Below.keeps (F := fun g => g = pw ∨ w.heap.size ≤ g) HB3.out).setCell (p := ⟨pw, 0, none⟩) (fun _ => .inl rfl) _
  generalize w3.setCell ⟨pw, 0, none⟩ (.slice (some ⟨gl, 0, none⟩) L.length cap) = w4 at *
  have HP4 : Hid (Blk w4 pw 50 #[.slice (some ⟨gl, 0, none⟩) L.length cap]) := Lib.hid hp4
  have HR4 := Lib.hid hr4
  have HK4 := Lib.hid hk4
  obtain ⟨gl2, cap2, _, hv2, _, hgt⟩ := hr4.some_of (by simp [Value.ownBlock])
  injection hv2 with hv2 hv3 hv4
  injection hv2 with hv2
  injection hv2 with hv2
  subst hv2
  clear hv3 hv4
  have HGT := Lib.hid hgt
  have bx4 : w4.cell? ⟨pw, 0, none⟩ = some (.slice (some ⟨gl, 0, none⟩) L.length cap) := hp4.cell 0
  have c3 : w4.cell? ⟨gl, k * 5 + 3, none⟩ = some (.int .i64 oq) := by
    obtain ⟨g8, off8, h1, _, h3⟩ := hr4.rd_some k _ HO.out
    injection h1 with h1
    injection h1 with h1 h4
    subst h1 h4
    have := h3 3 _ rfl
    rw [Nat.zero_add] at this
    exact this
  have fz : ∀ o, w4.frozen? ⟨gl, o, none⟩ = false := fun o => HGT.out.frozen o
  clear hp4 hr4 hk4 hgt HB3 HR3 HP3
  refine wp_region_E (S := fun w' => w'.cell? ⟨pw, 0, none⟩ = some (.slice (some ⟨gl, 0, none⟩) L.length cap) ∧ w'.cell? ⟨gl, k * 5 + 3, none⟩ = some (.int .i64 oq)) (by kernel_rfl) ⟨bx4, c3⟩ (fun hHeld => ?_)
  refine wpE_take (i := 0) (oi := ?oi1) (v := ?v1) ?hi1 (by kernel_rfl) (by kernel_rfl) (by kernel_rfl) (by kernel_rfl) ?hQ1 ?hy1 (by assumption) ?rest1
  case hi1 => (simp only [List.getElem?_toArray]; rfl)
  case hQ1 => exact fun _ _ _ h => h
  case hy1 => exact Or.inl ⟨by rfl, by (intro w hSw; (try dsimp only at hSw); go_simp; try with_reducible rfl)⟩
  try simp only [Act.put, List.setIfInBounds_toArray, List.set_cons_zero, List.set_cons_succ]
  refine wpE_take (i := 1) (oi := ?oi2) (v := ?v2) ?hi2 (by kernel_rfl) (by kernel_rfl) (by kernel_rfl) (by kernel_rfl) ?hQ2 ?hy2 (by assumption) ?rest2
  case hi2 => (simp only [List.getElem?_toArray]; rfl)
  case hQ2 => exact fun _ _ _ h => h
  case hy2 => exact Or.inl ⟨by rfl, by (intro w hSw; (try dsimp only at hSw); go_simp; try with_reducible rfl)⟩
  try simp only [Act.put, List.setIfInBounds_toArray, List.set_cons_zero, List.set_cons_succ]
  refine wpE_take (i := 2) (oi := ?oi3) (v := ?v3) ?hi3 (by kernel_rfl) (by kernel_rfl) (by kernel_rfl) (by kernel_rfl) ?hQ3 ?hy3 (by assumption) ?rest3
  case hi3 => (simp only [List.getElem?_toArray]; rfl)
  case hQ3 => exact fun _ _ _ h => h
  case hy3 => exact Or.inl ⟨by rfl, by (intro w hSw; (try dsimp only at hSw); go_simp; try with_reducible rfl)⟩
  try simp only [Act.put, List.setIfInBounds_toArray, List.set_cons_zero, List.set_cons_succ]
  refine wpE_take (i := 3) (oi := ?oi4) (v := ?v4) ?hi4 (by kernel_rfl) (by kernel_rfl) (by kernel_rfl) (by kernel_rfl) ?hQ4 ?hy4 (by assumption) ?rest4
  case hi4 => (simp only [List.getElem?_toArray]; rfl)
  case hQ4 => exact fun _ _ _ h => h
  case hy4 => exact Or.inl ⟨by rfl, by (intro w hSw; (try dsimp only at hSw); go_simp; try with_reducible rfl)⟩
  try simp only [Act.put, List.setIfInBounds_toArray, List.set_cons_zero, List.set_cons_succ]
  refine wpE_take (i := 4) (oi := ?oi5) (v := ?v5) ?hi5 (by kernel_rfl) (by kernel_rfl) (by kernel_rfl) (by kernel_rfl) ?hQ5 ?hy5 (by assumption) ?rest5
  case hi5 => (simp only [List.getElem?_toArray]; rfl)
  case hQ5 => exact fun _ _ _ h => h
  case hy5 => exact Or.inl ⟨by rfl, by (intro w hSw; (try dsimp only at hSw); go_simp; try with_reducible rfl)⟩
  try simp only [Act.put, List.setIfInBounds_toArray, List.set_cons_zero, List.set_cons_succ]
  refine wpE_take (i := 5) (oi := ?oi6) (v := ?v6) ?hi6 (by kernel_rfl) (by kernel_rfl) (by kernel_rfl) (by kernel_rfl) ?hQ6 ?hy6 (by assumption) ?rest6
  case hi6 => (simp only [List.getElem?_toArray]; rfl)
  case hQ6 => exact fun _ _ _ h => h
  case hy6 => exact Or.inl ⟨by rfl, by (intro w hSw; (try dsimp only at hSw); go_simp; try with_reducible rfl)⟩
  try simp only [Act.put, List.setIfInBounds_toArray, List.set_cons_zero, List.set_cons_succ]
  refine wpE_take (i := 6) (oi := ?oi7) (v := ?v7) ?hi7 (by kernel_rfl) (by kernel_rfl) (by kernel_rfl) (by kernel_rfl) ?hQ7 ?hy7 (by assumption) ?rest7
  case hi7 => (simp only [List.getElem?_toArray]; rfl)
  case hQ7 => exact fun _ _ _ h => h
  case hy7 => exact Or.inl ⟨by rfl, by (intro w hSw; (try dsimp only at hSw); go_simp; try with_reducible rfl)⟩
  try simp only [Act.put, List.setIfInBounds_toArray, List.set_cons_zero, List.set_cons_succ]
  refine wpE_take (i := 7) (oi := ?oi8) (v := ?v8) ?hi8 (by kernel_rfl) (by kernel_rfl) (by kernel_rfl) (by kernel_rfl) ?hQ8 ?hy8 (by assumption) ?rest8
  case hi8 => (simp only [List.getElem?_toArray]; rfl)
  case hQ8 => exact fun _ _ _ h => h
  case hy8 => exact Or.inl ⟨by rfl, by (intro w hSw; (try dsimp only at hSw); go_simp; try with_reducible rfl)⟩
  try simp only [Act.put, List.setIfInBounds_toArray, List.set_cons_zero, List.set_cons_succ]
  refine wpE_take (i := 8) (oi := ?oi9) (v := ?v9) ?hi9 (by kernel_rfl) (by kernel_rfl) (by kernel_rfl) (by kernel_rfl) ?hQ9 ?hy9 (by assumption) ?rest9
  case hi9 => (simp only [List.getElem?_toArray]; rfl)
  case hQ9 => exact fun _ _ _ h => h
  case hy9 => exact Or.inl ⟨by rfl, by (intro w hSw; (try dsimp only at hSw); go_simp; try with_reducible rfl)⟩
  try simp only [Act.put, List.setIfInBounds_toArray, List.set_cons_zero, List.set_cons_succ]
  refine wpE_take (i := 9) (oi := ?oi10) (v := ?v10) ?hi10 (by kernel_rfl) (by kernel_rfl) (by kernel_rfl) (by kernel_rfl) ?hQ10 ?hy10 (by assumption) ?rest10
  case hi10 => (simp only [List.getElem?_toArray]; rfl)
  case hQ10 => exact fun _ _ _ h => h
  case hy10 => exact Or.inl ⟨by rfl, by (intro w hSw; (try dsimp only at hSw); go_simp; try with_reducible rfl)⟩
  try simp only [Act.put, List.setIfInBounds_toArray, List.set_cons_zero, List.set_cons_succ]
  refine wpE_take (i := 10) (oi := ?oi11) (v := ?v11) ?hi11 (by kernel_rfl) (by kernel_rfl) (by kernel_rfl) (by kernel_rfl) ?hQ11 ?hy11 (by assumption) ?rest11
  case hi11 => (simp only [List.getElem?_toArray]; rfl)
  case hQ11 => exact fun _ _ _ h => h
  case hy11 => exact Or.inl ⟨by rfl, by (intro w hSw; (try dsimp only at hSw); go_simp; try with_reducible rfl)⟩
  try simp only [Act.put, List.setIfInBounds_toArray, List.set_cons_zero, List.set_cons_succ]
  refine wpE_take (i := 11) (oi := ?oi12) (v := ?v12) ?hi12 (by kernel_rfl) (by kernel_rfl) (by kernel_rfl) (by kernel_rfl) ?hQ12 ?hy12 (by assumption) ?rest12
  case hi12 => (simp only [List.getElem?_toArray]; rfl)
  case hQ12 => exact fun _ _ _ h => h
  case hy12 => exact Or.inl ⟨by rfl, by (intro w hSw; (try dsimp only at hSw); go_simp; try with_reducible rfl)⟩
  try simp only [Act.put, List.setIfInBounds_toArray, List.set_cons_zero, List.set_cons_succ]
  refine wpE_take (i := 12) (oi := ?oi13) (v := ?v13) ?hi13 (by kernel_rfl) (by kernel_rfl) (by kernel_rfl) (by kernel_rfl) ?hQ13 ?hy13 (by assumption) ?rest13
  case hi13 => (simp only [List.getElem?_toArray]; rfl)
  case hQ13 => exact fun _ _ _ h => h
  case hy13 => exact Or.inl ⟨by rfl, by (intro w hSw; (try dsimp only at hSw); go_simp; try with_reducible rfl)⟩
  try simp only [Act.put, List.setIfInBounds_toArray, List.set_cons_zero, List.set_cons_succ]
  refine wpE_take (i := 13) (oi := ?oi14) (v := ?v14) ?hi14 (by kernel_rfl) (by kernel_rfl) (by kernel_rfl) (by kernel_rfl) ?hQ14 ?hy14 (by assumption) ?rest14
  case hi14 => (simp only [List.getElem?_toArray]; rfl)
  case hQ14 => exact fun _ _ _ h => h
  case hy14 => exact Or.inl ⟨by rfl, by (intro w hSw; (try dsimp only at hSw); go_simp; try with_reducible rfl)⟩
  try simp only [Act.put, List.setIfInBounds_toArray, List.set_cons_zero, List.set_cons_succ]
  refine wpE_take (i := 14) (oi := ?oi15) (v := ?v15) ?hi15 (by kernel_rfl) (by kernel_rfl) (by kernel_rfl) (by kernel_rfl) ?hQ15 ?hy15 (by assumption) ?rest15
  case hi15 => (simp only [List.getElem?_toArray]; rfl)
  case hQ15 => exact fun _ _ _ h => h
  case hy15 => exact Or.inl ⟨by rfl, by (intro w hSw; (try dsimp only at hSw); go_simp; try with_reducible rfl)⟩
  try simp only [Act.put, List.setIfInBounds_toArray, List.set_cons_zero, List.set_cons_succ]
  refine wpE_take (i := 15) (oi := ?oi16) (v := ?v16) ?hi16 (by kernel_rfl) (by kernel_rfl) (by kernel_rfl) (by kernel_rfl) ?hQ16 ?hy16 (by assumption) ?rest16
  case hi16 => (simp only [List.getElem?_toArray]; rfl)
  case hQ16 => exact fun _ _ _ h => h
  case hy16 => exact Or.inl ⟨by rfl, by (intro w hSw; (try dsimp only at hSw); go_simp; try with_reducible rfl)⟩
  try simp only [Act.put, List.setIfInBounds_toArray, List.set_cons_zero, List.set_cons_succ]
  refine wpE_take (i := 16) (oi := ?oi17) (v := ?v17) ?hi17 (by kernel_rfl) (by kernel_rfl) (by kernel_rfl) (by kernel_rfl) ?hQ17 ?hy17 (by assumption) ?rest17
  case hi17 => (simp only [List.getElem?_toArray]; rfl)
  case hQ17 => exact fun _ _ _ h => h
  case hy17 => exact Or.inl ⟨by rfl, by (intro w hSw; (try dsimp only at hSw); go_simp; try with_reducible rfl)⟩
  try simp only [Act.put, List.setIfInBounds_toArray, List.set_cons_zero, List.set_cons_succ]
  refine wpE_last (i := 17) (o := ?o35) ?ho35 (by kernel_rfl) (by kernel_rfl) (by kernel_rfl) (fun K hK => ?_)
  case ho35 => (simp only [List.getElem?_toArray]; rfl)
  go_simp
  try rw [show IntKind.i64.wrap (oq - qty) = oq - qty from IntWalk.i64_in _ (by omega)]
  refine hK.out _ _ ?_
  clear hK K hHeld bx4 c3 fz
  have hr5 : ROD.Row ((w4.setCell ⟨gl, k * 5 + 3, none⟩ (.int .i64 (oq - qty))).drew) w.heap.size (.slice (some ⟨gl, 0, none⟩) L.length cap) (L.set k ⟨f0, f1, f2, oq - qty, f4⟩) := (Lay.Row.set_ HR4.out (e' := (⟨f0, f1, f2, oq - qty, f4⟩ : Od)) (k := 3) (u := .int .i64 (oq - qty)) HO.out (by decide) rfl).below (Below.drewN_of _ 1)
  have hp5 : Blk ((w4.setCell ⟨gl, k * 5 + 3, none⟩ (.int .i64 (oq - qty))).drew) pw 50 #[.slice (some ⟨gl, 0, none⟩) L.length cap] := (HP4.out.keeps ((Keeps.refl (fun k => k = gl) w4).setCell (p := ⟨gl, k * 5 + 3, none⟩) (fun _ => rfl) (.int .i64 (oq - qty))) (fun h => by have h1 := HPLT.out; have h2 := HGL.out; omega)).below (Below.drewN_of _ 1)
  have hk5 : Keeps (fun g => g = pw ∨ w.heap.size ≤ g) w ((w4.setCell ⟨gl, k * 5 + 3, none⟩ (.int .i64 (oq - qty))).drew) := (HK4.out.setCell (p := ⟨gl, k * 5 + 3, none⟩) (fun _ => .inr HGL.out) (.int .i64 (oq - qty))).trans (Below.keeps (Below.drewN_of _ 1))
  generalize (w4.setCell ⟨gl, k * 5 + 3, none⟩ (.int .i64 (oq - qty))).drew = w5 at *
  have HR5 := Lib.hid hr5
  have HP5 := Lib.hid hp5
  have HK5 := Lib.hid hk5
  have HL5 : Hid ((L.set k ⟨f0, f1, f2, oq - qty, f4⟩)[k]? = some (⟨f0, f1, f2, oq - qty, f4⟩ : Od)) := Lib.hid (by rw [List.getElem?_set_self (lt_of_get HO.out)])
  have bx5 : w5.cell? ⟨pw, 0, none⟩ = some (.slice (some ⟨gl, 0, none⟩) L.length cap) := hp5.cell 0
  have c5 : w5.cell? ⟨gl, k * 5 + 3, none⟩ = some (.int .i64 (oq - qty)) := by
    obtain ⟨g8, off8, h1, _, h3⟩ := hr5.rd_some k _ HL5.out
    injection h1 with h1
    injection h1 with h1 h4
    subst h1 h4
    have := h3 3 _ rfl
    rw [Nat.zero_add] at this
    exact this
  have HWW : Hid (W.heap.size ≤ w.heap.size) := Lib.hid HH.out.bel.size
  have HFIN : Hid (∀ (wx : World) (L' : List Od) (g' n' c' : Nat), L'.length = n' → Blk wx pw 50 #[.slice (some ⟨g', 0, none⟩) n' c'] → ROD.Row wx w.heap.size (.slice (some ⟨g', 0, none⟩) n' c') L' → Keeps (fun g => g = pw ∨ w.heap.size ≤ g) w wx → RB W wx pw L' ∧ Keeps (fun g => g = pw) w wx) := Lib.hid fun wx L' g' n' c' hl' h1 h2 h3 => by
    subst hl'
    refine ⟨⟨⟨_, _, h1, h2.base HWW.out⟩, HH.out.base, HH.out.bel.trans (h3.below (fun g hg => ?_) HWW.out)⟩, h3.os, h3.tape, h3.output, h3.size, fun k hk hf => h3.block k hk fun hF => ?_⟩
    · have h5 := HH.out.base
      have h6 := HWW.out
      rcases hg with rfl | hg <;> omega
    · rcases hF with hF | hF
      · exact hf hF
      · omega
  clear hr5 hp5 hk5 HR4 HP4 HK4
  by_cases hz : oq = qty
  · have HRQ : Hid (R = L.take k ++ L.drop (k + 1)) := Lib.hid (by rw [HRK.out, if_pos hz])
    have hz0 : oq - qty = 0 := by omega
    rw [hz0] at c5
    have HT1 : Hid ((L.set k ⟨f0, f1, f2, oq - qty, f4⟩).take k = L.take k) := Lib.hid (by exact List.take_set_of_le (Nat.le_refl _))
    have HT2 : Hid ((L.set k ⟨f0, f1, f2, oq - qty, f4⟩).drop (k + 1) = L.drop (k + 1)) := Lib.hid (by exact List.drop_set_of_lt (Nat.lt_succ_self _))
    have HLS : Hid ((L.set k (⟨f0, f1, f2, oq - qty, f4⟩ : Od)).length = L.length) := Lib.hid (List.length_set ..)
    generalize L.set k ⟨f0, f1, f2, oq - qty, f4⟩ = L1 at *
    clear hz hz0
    have hn1 : k + 1 ≤ L.length := by omega
    have hcap : L.length ≤ cap := by
      rcases HR5.out.2 with ⟨hv, _⟩ | ⟨g9, cap9, cur9, hv, _, _, hh, _⟩
      · injection hv with hv; cases hv
      · injection hv with _ _ hv; rw [hv, ← HLS.out]; exact hh
    have i1 : IntKind.i64.wrap ((k : Int) + 1) = (k : Int) + 1 := IntWalk.i64_in _ (by omega)
    have i2 : 0 ≤ (k : Int) + 1 := by omega
    have i3 : ((k : Int) + 1).toNat = k + 1 := by omega
    have i4 : (k : Int) + 1 ≤ (L.length : Int) := by omega
    have i6 : (k : Int) ≤ (L.length : Int) := by omega
    have i7 : (0 : Int) ≤ (k : Int) := by omega
    have i8 : (k : Int) ≤ (cap : Int) := by omega
    have i9 : (L.length : Int) ≤ (cap : Int) := by omega
    have j1 : k ≤ cap := by omega
    have j2 : k + 1 ≤ cap := by omega
    have j3 : k ≤ k + 1 := by omega
    obtain ⟨off2, hoff⟩ : ∃ off2, off2 = (if cap = k + 1 then 0 else (k + 1) * 5) := ⟨_, rfl⟩
    have hadr : (if cap = k + 1 then (some ⟨gl, 0, none⟩ : Option Addr) else some ⟨gl, (k + 1) * 5, none⟩) = some ⟨gl, off2, none⟩ := by
      rw [hoff]; split <;> rfl
    have HOFF := Lib.hid hoff
    clear hoff
    go_upto_region 9 with (fail)
    clear c5
    refine wp_region_E (S := fun w' => w'.cell? ⟨pw, 0, none⟩ = some (.slice (some ⟨gl, 0, none⟩) L.length cap)) (by kernel_rfl) bx5 (fun hHeld => ?_)
    clear bx5
    have HR6 : Hid (ROD.Row w5.drew w.heap.size (.slice (some ⟨gl, 0, none⟩) L.length cap) L1) := Lib.hid (HR5.out.below (Below.drewN_of w5 1))
    have HP6 : Hid (Blk w5.drew pw 50 #[.slice (some ⟨gl, 0, none⟩) L.length cap]) := Lib.hid (HP5.out.below (Below.drewN_of w5 1))
    have HK6 : Hid (Keeps (fun g => g = pw ∨ w.heap.size ≤ g) w w5.drew) := Lib.hid (HK5.out.trans (Below.keeps (Below.drewN_of w5 1)))
    clear HR5 HP5 HK5
    generalize w5.drew = w6 at *
    have HTK : Hid ((L1.take k).length = k) := Lib.hid (by rw [List.length_take, HLS.out]; omega)
    have HDK : Hid ((L1.drop (k + 1)).length = L.length - (k + 1)) := Lib.hid (by rw [List.length_drop, HLS.out])
    have HRDD : Hid (ROD.Rd w6 (some ⟨gl, off2, none⟩) (L1.drop (k + 1))) := Lib.hid (by
      rw [HOFF.out]
      by_cases hcap2 : cap = k + 1
      · rw [if_pos hcap2]
        have h0 : L1.drop (k + 1) = [] := List.eq_nil_of_length_eq_zero (by rw [HDK.out]; omega)
        rw [h0]
        exact Lay.Rd.nil
      · rw [if_neg hcap2]
        intro j e hj
        rw [List.getElem?_drop] at hj
        obtain ⟨b, off, h1, h2, h3⟩ := HR6.out.rd_some (k + 1 + j) e hj
        injection h1 with h1
        injection h1 with h1 h4
        subst h1 h4
        refine ⟨gl, (k + 1) * 5, rfl, h2, ?_⟩
        rw [show (k + 1) * 5 + j * ROD.m = 0 + (k + 1 + j) * ROD.m by rw [Nat.add_mul (k + 1) j, Nat.zero_add]; rfl]
        exact h3)
    refine wpE_take (i := 0) (oi := ?oi18) (v := ?v18) ?hi18 (by kernel_rfl) (by kernel_rfl) (by kernel_rfl) (by kernel_rfl) ?hQ18 ?hy18 (by assumption) ?rest18
    case hi18 => (simp only [List.getElem?_toArray]; rfl)
    case hQ18 => exact fun _ _ _ h => h
    case hy18 => exact Or.inl ⟨by rfl, by (intro w hSw; (try dsimp only at hSw); go_simp; try with_reducible rfl)⟩
    try simp only [Act.put, List.setIfInBounds_toArray, List.set_cons_zero, List.set_cons_succ]
    refine wpE_take (i := 1) (oi := ?oi19) (v := ?v19) ?hi19 (by kernel_rfl) (by kernel_rfl) (by kernel_rfl) (by kernel_rfl) ?hQ19 ?hy19 (by assumption) ?rest19
    case hi19 => (simp only [List.getElem?_toArray]; rfl)
    case hQ19 => exact fun _ _ _ h => h
    case hy19 => exact Or.inl ⟨by rfl, by (intro w hSw; (try dsimp only at hSw); go_simp; try with_reducible rfl)⟩
    try simp only [Act.put, List.setIfInBounds_toArray, List.set_cons_zero, List.set_cons_succ]
    refine wpE_take (i := 2) (oi := ?oi20) (v := ?v20) ?hi20 (by kernel_rfl) (by kernel_rfl) (by kernel_rfl) (by kernel_rfl) ?hQ20 ?hy20 (by assumption) ?rest20
    case hi20 => (simp only [List.getElem?_toArray]; rfl)
    case hQ20 => exact fun _ _ _ h => h
    case hy20 => exact Or.inl ⟨by rfl, by (intro w hSw; (try dsimp only at hSw); go_simp; try with_reducible rfl)⟩
    try simp only [Act.put, List.setIfInBounds_toArray, List.set_cons_zero, List.set_cons_succ]
    refine wpE_take (i := 3) (oi := ?oi21) (v := ?v21) ?hi21 (by kernel_rfl) (by kernel_rfl) (by kernel_rfl) (by kernel_rfl) ?hQ21 ?hy21 (by assumption) ?rest21
    case hi21 => (simp only [List.getElem?_toArray]; rfl)
    case hQ21 => exact fun _ _ _ h => h
    case hy21 => exact Or.inl ⟨by rfl, by (intro w hSw; (try dsimp only at hSw); go_simp; try with_reducible rfl)⟩
    try simp only [Act.put, List.setIfInBounds_toArray, List.set_cons_zero, List.set_cons_succ]
    refine wpE_take (i := 4) (oi := ?oi22) (v := ?v22) ?hi22 (by kernel_rfl) (by kernel_rfl) (by kernel_rfl) (by kernel_rfl) ?hQ22 ?hy22 (by assumption) ?rest22
    case hi22 => (simp only [List.getElem?_toArray]; rfl)
    case hQ22 => exact fun _ _ _ h => h
    case hy22 => exact Or.inl ⟨by rfl, by (intro w hSw; (try dsimp only at hSw); go_simp; try with_reducible rfl)⟩
    try simp only [Act.put, List.setIfInBounds_toArray, List.set_cons_zero, List.set_cons_succ]
    refine wpE_take (i := 5) (oi := ?oi23) (v := ?v23) ?hi23 (by kernel_rfl) (by kernel_rfl) (by kernel_rfl) (by kernel_rfl) ?hQ23 ?hy23 (by assumption) ?rest23
    case hi23 => (simp only [List.getElem?_toArray]; rfl)
    case hQ23 => exact fun _ _ _ h => h
    case hy23 => exact Or.inl ⟨by rfl, by (intro w hSw; (try dsimp only at hSw); go_simp; try with_reducible rfl)⟩
    try simp only [Act.put, List.setIfInBounds_toArray, List.set_cons_zero, List.set_cons_succ]
    refine wpE_take (i := 6) (oi := ?oi24) (v := ?v24) ?hi24 (by kernel_rfl) (by kernel_rfl) (by kernel_rfl) (by kernel_rfl) ?hQ24 ?hy24 (by assumption) ?rest24
    case hi24 => (simp only [List.getElem?_toArray]; rfl)
    case hQ24 => exact fun _ _ _ h => h
    case hy24 => exact Or.inl ⟨by rfl, by (intro w hSw; (try dsimp only at hSw); go_simp; try with_reducible rfl)⟩
    try simp only [Act.put, List.setIfInBounds_toArray, List.set_cons_zero, List.set_cons_succ]
    refine wpE_take (i := 7) (oi := ?oi25) (v := ?v25) ?hi25 (by kernel_rfl) (by kernel_rfl) (by kernel_rfl) (by kernel_rfl) ?hQ25 ?hy25 (by assumption) ?rest25
    case hi25 => (simp only [List.getElem?_toArray]; rfl)
    case hQ25 => exact fun _ _ _ h => h
    case hy25 => exact Or.inl ⟨by rfl, by (intro w hSw; (try dsimp only at hSw); go_simp; try with_reducible rfl)⟩
    try simp only [Act.put, List.setIfInBounds_toArray, List.set_cons_zero, List.set_cons_succ]
    refine wpE_take (i := 8) (oi := ?oi26) (v := ?v26) ?hi26 (by kernel_rfl) (by kernel_rfl) (by kernel_rfl) (by kernel_rfl) ?hQ26 ?hy26 (by assumption) ?rest26
    case hi26 => (simp only [List.getElem?_toArray]; rfl)
    case hQ26 => exact fun _ _ _ h => h
    case hy26 => exact Or.inl ⟨by rfl, by (intro w hSw; (try dsimp only at hSw); go_simp; try with_reducible rfl)⟩
    try simp only [Act.put, List.setIfInBounds_toArray, List.set_cons_zero, List.set_cons_succ]
    refine wpE_take (i := 9) (oi := ?oi27) (v := ?v27) ?hi27 (by kernel_rfl) (by kernel_rfl) (by kernel_rfl) (by kernel_rfl) ?hQ27 ?hy27 (by assumption) ?rest27
    case hi27 => (simp only [List.getElem?_toArray]; rfl)
    case hQ27 => exact fun _ _ _ h => h
    case hy27 => exact Or.inl ⟨by rfl, by (intro w hSw; (try dsimp only at hSw); go_simp; try with_reducible rfl)⟩
    try simp only [Act.put, List.setIfInBounds_toArray, List.set_cons_zero, List.set_cons_succ]
    refine wpE_take (i := 10) (oi := ?oi28) (v := ?v28) ?hi28 (by kernel_rfl) (by kernel_rfl) (by kernel_rfl) (by kernel_rfl) ?hQ28 ?hy28 (by assumption) ?rest28
    case hi28 => (simp only [List.getElem?_toArray]; rfl)
    case hQ28 => exact fun _ _ _ h => h
    case hy28 => exact Or.inl ⟨by rfl, by (intro w hSw; (try dsimp only at hSw); go_simp; try with_reducible rfl)⟩
    try simp only [Act.put, List.setIfInBounds_toArray, List.set_cons_zero, List.set_cons_succ]
    refine wpE_take (i := 11) (oi := ?oi29) (v := ?v29) ?hi29 (by kernel_rfl) (by kernel_rfl) (by kernel_rfl) (by kernel_rfl) ?hQ29 ?hy29 (by assumption) ?rest29
    case hi29 => (simp only [List.getElem?_toArray]; rfl)
    case hQ29 => exact fun _ _ _ h => h
    case hy29 => exact Or.inl ⟨by rfl, by (intro w hSw; (try dsimp only at hSw); go_simp; try with_reducible rfl)⟩
    try simp only [Act.put, List.setIfInBounds_toArray, List.set_cons_zero, List.set_cons_succ]
    refine wpE_take (i := 12) (oi := ?oi30) (v := ?v30) ?hi30 (by kernel_rfl) (by kernel_rfl) (by kernel_rfl) (by kernel_rfl) ?hQ30 ?hy30 (by assumption) ?rest30
    case hi30 => (simp only [List.getElem?_toArray]; rfl)
    case hQ30 => exact fun _ _ _ h => h
    case hy30 => exact Or.inl ⟨by rfl, by (intro w hSw; (try dsimp only at hSw); go_simp; try with_reducible rfl)⟩
    try simp only [Act.put, List.setIfInBounds_toArray, List.set_cons_zero, List.set_cons_succ]
    refine wpE_take (i := 13) (oi := ?oi31) (v := ?v31) ?hi31 (by kernel_rfl) (by kernel_rfl) (by kernel_rfl) (by kernel_rfl) ?hQ31 ?hy31 (by assumption) ?rest31
    case hi31 => (simp only [List.getElem?_toArray]; rfl)
    case hQ31 => exact fun _ _ _ h => h
    case hy31 => exact Or.inl ⟨by rfl, by (intro w hSw; (try dsimp only at hSw); go_simp; try with_reducible rfl)⟩
    try simp only [Act.put, List.setIfInBounds_toArray, List.set_cons_zero, List.set_cons_succ]
    refine wpE_one (i := 14) (o := ?o34) ?ho34 (by kernel_rfl) (fun K hK => ?_)
    case ho34 => (simp only [List.getElem?_toArray]; rfl)
    refine ROD.steps (by rfl) (.tmp 68) (.tmp 75) (by rfl) w.heap.size gl cap k (L.length - (k + 1)) (L1.take k) HTK.out (by rfl) (HR6.out.front (by rw [HLS.out]; omega)) gl off2 (cap - (k + 1)) (L1.drop (k + 1)) HDK.out (by rfl) HRDD.out (L.length - 1) (by omega) (by omega) HK6.out.size ?_
    intro g7 cap7 w7 hr7 hg7 ho7
    have hkp7 := grown_keeps hg7
    have hp7 := HP6.out.keeps hkp7 (fun hy => by injection hy with hy; have h1 := HPLT.out; have h2 := HGL.out; omega)
    have HR7 := Lib.hid hr7
    have HP7 := Lib.hid hp7
    have HK7 := Lib.hid (HK6.out.trans (hkp7.more fun g' hg' => .inr (by injection hg' with hg'; rw [← hg']; exact HGL.out)))
    have HG7 : Hid (w.heap.size ≤ g7) := Lib.hid (own_base hr7 g7 rfl)
    have bx7 : w7.cell? ⟨pw, 0, none⟩ = some (.slice (some ⟨gl, 0, none⟩) L.length cap) := hp7.cell 0
    have fz7 : ∀ o, w7.frozen? ⟨pw, o, none⟩ = false := fun o => HP7.out.frozen o
    refine hK.out _ _ bx7 (fun hHeld => ?_)
    clear hK K hr7 hg7 ho7 hkp7 hp7
    refine wpE_take (i := 15) (oi := ?oi32) (v := ?v32) ?hi32 (by kernel_rfl) (by kernel_rfl) (by kernel_rfl) (by kernel_rfl) ?hQ32 ?hy32 (by assumption) ?rest32
    case hi32 => (simp only [List.getElem?_toArray]; rfl)
    case hQ32 => exact fun _ _ _ h => h
    case hy32 => exact Or.inl ⟨by rfl, by (intro w hSw; (try dsimp only at hSw); go_simp; try with_reducible rfl)⟩
    try simp only [Act.put, List.setIfInBounds_toArray, List.set_cons_zero, List.set_cons_succ]
    refine wpE_take (i := 16) (oi := ?oi33) (v := ?v33) ?hi33 (by kernel_rfl) (by kernel_rfl) (by kernel_rfl) (by kernel_rfl) ?hQ33 ?hy33 (by assumption) ?rest33
    case hi33 => (simp only [List.getElem?_toArray]; rfl)
    case hQ33 => exact fun _ _ _ h => h
    case hy33 => exact Or.inl ⟨by rfl, by (intro w hSw; (try dsimp only at hSw); go_simp; try with_reducible rfl)⟩
    try simp only [Act.put, List.setIfInBounds_toArray, List.set_cons_zero, List.set_cons_succ]
    refine wpE_last (i := 17) (o := ?o36) ?ho36 (by kernel_rfl) (by kernel_rfl) (by kernel_rfl) (fun K hK => ?_)
    case ho36 => (simp only [List.getElem?_toArray]; rfl)
    go_simp
    refine hK.out _ _ ?_
    clear hK K hHeld bx7 fz7
    have HX := Lib.hid (HFIN.out (w7.setCell ⟨pw, 0, none⟩ (.slice (some ⟨g7, 0, none⟩) (L.length - 1) cap7)) (L1.take k ++ L1.drop (k + 1)) g7 (L.length - 1) cap7 (by rw [List.length_append, HTK.out, HDK.out]; omega) (HP7.out.set_ 0 _) (own_far HR7.out (p := ⟨pw, 0, none⟩) (fun hy => by have h0 : some g7 = some pw := hy; injection h0 with h0; have h1 := HPLT.out; have h2 := HG7.out; omega) _) (HK7.out.setCell (p := ⟨pw, 0, none⟩) (fun _ => .inl rfl) _))
    go_wp2_with fail
    go_ret
    exact ⟨by trivial, by rw [HRQ.out, ← HT1.out, ← HT2.out]; exact HX.out.1, HX.out.2⟩
  · have HRQ : Hid (R = L.set k ⟨f0, f1, f2, oq - qty, f4⟩) := Lib.hid (by rw [HRK.out, if_neg hz])
    have hz0 : (oq - qty == 0) = false := by rw [beq_eq_false_iff_ne]; omega
    have HX := Lib.hid (HFIN.out w5 _ gl L.length cap (List.length_set ..) HP5.out HR5.out HK5.out)
    go_wp2_with fail
    go_ret
    exact ⟨by trivial, by rw [HRQ.out]; exact HX.out.1, HX.out.2⟩
end
end Go.Proofs.Ytmhljdkhekjfmaa
