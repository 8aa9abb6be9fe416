/- The walk of cornhillref9.Add. -/
import Derived.Test.YtmhljdkhekjfmaaR94
import Derived.Deep.RegionHeld3
namespace Go.Proofs.Ytmhljdkhekjfmaa
open Go.RowKit

theorem pos_step {L : List Od} {k : Nat} {o : Od} {side price : Int} (ho : L[k]? = some o) (h : refPos L side price = k + ((L.drop k).takeWhile (aheadO side price)).length) :
    (aheadO side price o = true → refPos L side price = (k + 1) + ((L.drop (k + 1)).takeWhile (aheadO side price)).length) ∧ (aheadO side price o = false → refPos L side price = k) := by
  obtain ⟨h1, h2⟩ := get_of ho
  rw [List.drop_eq_getElem_cons h1, h2] at h
  refine ⟨fun ha => ?_, fun ha => ?_⟩
  · rw [List.takeWhile_cons_of_pos ha, List.length_cons] at h
    omega
  · rw [List.takeWhile_cons_of_neg (by rw [ha]; simp)] at h
    exact h
theorem pos_end {L : List Od} {k : Nat} {side price : Int} (hk : L.length ≤ k) (h : refPos L side price = k + ((L.drop k).takeWhile (aheadO side price)).length) : refPos L side price = k := by
  rw [List.drop_of_length_le hk] at h
  exact h
theorem top_next {L : List Od} {k : Nat} {o : Od} {side price : Int} (ho : L[k]? = some o) : refTop (L.take (k + 1)) side price = (refTop (L.take k) side price && !(decide (o.side = side) && !betterP side price o.price)) := by
  unfold refTop
  rw [take_next ho, List.all_append]
  simp
theorem set_same {α : Type} {l : List α} {i : Nat} {x : α} (h : l[i]? = some x) : l.set i x = l := by
  obtain ⟨h1, h2⟩ := get_of h
  rw [← h2]
  exact List.set_getElem_self h1
def mixU (L : List Od) (side : Int) (i : Nat) : List Od := (L.take i).map (untop side) ++ L.drop i
theorem mixU_len (L : List Od) (side : Int) (i : Nat) : (mixU L side i).length = L.length := by
  unfold mixU
  rw [List.length_append, List.length_map, ← List.length_append, List.take_append_drop]
theorem mixU_get {L : List Od} {side : Int} {i : Nat} {o : Od} (ho : L[i]? = some o) : (mixU L side i)[i]? = some o := by
  have hi := lt_of_get ho
  unfold mixU
  rw [List.getElem?_append_right (by rw [List.length_map, List.length_take]; omega), List.length_map, List.length_take, Nat.min_eq_left (by omega), Nat.sub_self, List.getElem?_drop, Nat.add_zero, ho]
theorem mixU_set {L : List Od} {side : Int} {i : Nat} {o : Od} (ho : L[i]? = some o) : mixU L side (i + 1) = (mixU L side i).set i (untop side o) := by
  obtain ⟨h1, h2⟩ := get_of ho
  unfold mixU
  rw [take_next ho, List.map_append, List.set_append_right _ _ (by rw [List.length_map, List.length_take]; omega), List.length_map, List.length_take, Nat.min_eq_left (by omega), Nat.sub_self, List.append_assoc, List.drop_eq_getElem_cons h1, h2]
  rfl
theorem mixU_same {L : List Od} {side : Int} {i : Nat} {o : Od} (ho : L[i]? = some o) (hs : ¬ o.side = side) : mixU L side (i + 1) = mixU L side i := by
  rw [mixU_set ho, show untop side o = o from if_neg hs]
  exact set_same (mixU_get ho)
/-- a slice of one, as a step of a region that draws its order -/
theorem step_one {w : World} {ops : Array Oper} {o : Oper} {a : Act} {K : Act → World → Prop} {Q : Exit → Act → World → Prop} {E : Prop} {f0 f1 f2 f3 : Int} {f4 : Bool} (hgd : o.guard = none) (t : Nat)
    (ho : o.op = .buildSlice 48 1 #[(0, .tmp t)]) (hx : a.tmps[t]?.getD undef = .agg #[.int .i64 f0, .int .i64 f1, .int .i64 f2, .int .i64 f3, .bool f4])
    (h : K (a.put o.dst (.slice (some ⟨w.heap.size, 0, none⟩) 1 1)) (w.alloc (.cells #[.int .i64 f0, .int .i64 f1, .int .i64 f2, .int .i64 f3, .bool f4] 89))) :
    if Region.wanted o (yielded ops a.tmps) = true then Oper.wp Try.prog o a w K Q else E := by
  have hw : Region.wanted o (yielded ops a.tmps) = true := by simp [Region.wanted, hgd]
  rw [if_pos hw]
  unfold Oper.wp execOp
  simp only [ho]
  go_simp
  exact h
section
variable {W w w' : World} {pw : Nat} {L : List Od}
theorem refAdd_side {L : List Od} {id side price qty : Int} (h : isB side = false) : refAdd L id side price qty = (L, 21) := by unfold refAdd; rw [if_pos h]
theorem refAdd_qty {L : List Od} {id side price qty : Int} (h : isB side = true) (hq : qty < 1 ∨ 1000000 < qty) : refAdd L id side price qty = (L, 24) := by unfold refAdd; rw [h, if_neg (by simp), if_pos hq]
set_option maxRecDepth 100000 in
set_option maxHeartbeats 8000000 in
theorem add_ref_no (w : World) (pw : Nat) (id side price qty : Int) (hb : isB side = false) :
    Calls Try.prog 36 #[.pointer (some ⟨pw, 0, none⟩), .int .i64 id, .int .i64 side, .int .i64 price, .int .i64 qty] w fun e w' => e = .returned (.int .i64 21) ∧ w = w' := by
  have h1 : (side != 1) = true := by
    rw [bne_iff_ne]; rintro rfl; cases hb
  have h2 : (side != 2) = true := by
    rw [bne_iff_ne]; rintro rfl; cases hb
  clear hb
  go_enter Try.func36, Try.ntmps36
  go_wp2_with fail
  go_ret
  exact ⟨by trivial, by trivial⟩
set_option maxRecDepth 100000 in
set_option maxHeartbeats 8000000 in
theorem add_ref_qty (w : World) (pw : Nat) (id side price qty : Int) (hs : side = 1 ∨ side = 2) (hq : qty < 1 ∨ 1000000 < qty) :
    Calls Try.prog 36 #[.pointer (some ⟨pw, 0, none⟩), .int .i64 id, .int .i64 side, .int .i64 price, .int .i64 qty] w fun e w' => e = .returned (.int .i64 24) ∧ w = w' := by
  have HS := Lib.hid hs
  clear hs
  go_enter Try.func36, Try.ntmps36
  go_upto_region 1 with (fail)
  go_cut [21] (fun v wx => v = .bool false ∧ w = wx)
  case first =>
    rcases HS.out with rfl | rfl
    · go_wp2_with fail
      go_meet
      exact ⟨rfl, rfl⟩
    · go_wp2_with fail
      go_meet
      exact ⟨rfl, rfl⟩
  case rest =>
  obtain ⟨rfl, rfl⟩ := hcut
  rcases hq with hq | hq
  · go_wp2_with fail
    go_ret
    exact ⟨by trivial, by trivial⟩
  · have hq1 : ¬ qty < 1 := by omega
    go_wp2_with fail
    go_ret
    exact ⟨by trivial, by trivial⟩
set_option maxRecDepth 100000 in
set_option maxHeartbeats 8000000 in
theorem add_ref_taken (h : RB W w pw L) (hl : L.length ≤ 250) (id side price qty : Int) (hs : side = 1 ∨ side = 2) (hq : 1 ≤ qty ∧ qty ≤ 1000000) (ht : (L.find? (fun o => o.id == id)).isSome = true) :
    Calls Try.prog 36 #[.pointer (some ⟨pw, 0, none⟩), .int .i64 id, .int .i64 side, .int .i64 price, .int .i64 qty] w fun e w' => e = .returned (.int .i64 25) ∧ w = w' := by
  have HS := Lib.hid hs
  have HT := Lib.hid ht
  have hq1 : ¬ qty < 1 := by omega
  have hq2 : ¬ 1000000 < qty := by omega
  have hfr := find_ref h hl id
  clear hs ht h hq
  go_enter Try.func36, Try.ntmps36
  go_upto_region 1 with (fail)
  go_cut [21] (fun v wx => v = .bool false ∧ w = wx)
  case first =>
    rcases HS.out with rfl | rfl
    · go_wp2_with fail
      go_meet
      exact ⟨rfl, rfl⟩
    · go_wp2_with fail
      go_meet
      exact ⟨rfl, rfl⟩
  case rest =>
  obtain ⟨rfl, rfl⟩ := hcut
  go_wp2_with fail
  refine hfr.mono ?_
  rintro e w2 ⟨⟨r, rfl, hr⟩, rfl⟩
  obtain ⟨k, rfl⟩ : ∃ k : Nat, r = k := by
    rcases hr with ⟨_, h1⟩ | ⟨k, o', rfl, _⟩
    · have := HT.out; rw [h1] at this; cases this
    · exact ⟨k, rfl⟩
  have hk0 : (0 : Int) ≤ (k : Int) := by omega
  clear hr hfr
  go_wp2_with fail
  go_ret
  exact ⟨by trivial, by trivial⟩
set_option maxRecDepth 100000 in
set_option maxHeartbeats 8000000 in
theorem add_ref_full (h : RB W w pw L) (hl : L.length = 250) (id side price qty : Int) (hs : side = 1 ∨ side = 2) (hq : 1 ≤ qty ∧ qty ≤ 1000000) (ht : (L.find? (fun o => o.id == id)).isSome = false) :
    Calls Try.prog 36 #[.pointer (some ⟨pw, 0, none⟩), .int .i64 id, .int .i64 side, .int .i64 price, .int .i64 qty] w fun e w' => e = .returned (.int .i64 13) ∧ w = w' := by
  have HS := Lib.hid hs
  have HT := Lib.hid ht
  have hq1 : ¬ qty < 1 := by omega
  have hq2 : ¬ 1000000 < qty := by omega
  have hfr := find_ref h (by omega) id
  obtain ⟨a, c, hbx, _⟩ := h.box
  rw [hl] at hbx
  have BX : w.cell? ⟨pw, 0, none⟩ = some (.slice a 250 c) := hbx.cell 0
  clear hs ht h hq hbx
  go_enter Try.func36, Try.ntmps36
  go_upto_region 1 with (fail)
  go_cut [21] (fun v wx => v = .bool false ∧ w = wx)
  case first =>
    rcases HS.out with rfl | rfl
    · go_wp2_with fail
      go_meet
      exact ⟨rfl, rfl⟩
    · go_wp2_with fail
      go_meet
      exact ⟨rfl, rfl⟩
  case rest =>
  obtain ⟨rfl, rfl⟩ := hcut
  go_wp2_with fail
  refine hfr.mono ?_
  rintro e w2 ⟨⟨r, rfl, hr⟩, rfl⟩
  obtain rfl : r = -1 := by
    rcases hr with ⟨h1, _⟩ | ⟨k, o', _, _, _, h1⟩
    · exact h1
    · have := HT.out; rw [h1] at this; cases this
  clear hr hfr
  go_wp2_with fail
  go_ret
  exact ⟨by trivial, by trivial⟩
set_option maxRecDepth 100000 in
set_option maxHeartbeats 16000000 in
theorem add_ref_good (h : RB W w pw L) (hl : L.length < 250) (id side price qty : Int) (hs : side = 1 ∨ side = 2) (hq : 1 ≤ qty ∧ qty ≤ 1000000) (ht : (L.find? (fun o => o.id == id)).isSome = false) (R : List Od) (hRR : R = (if refTop L side price = true then L.map (untop side) else L).take (refPos L side price) ++ [⟨id, side, price, qty, refTop L side price⟩] ++ (if refTop L side price = true then L.map (untop side) else L).drop (refPos L side price)) :
    Calls Try.prog 36 #[.pointer (some ⟨pw, 0, none⟩), .int .i64 id, .int .i64 side, .int .i64 price, .int .i64 qty] w fun e w' => e = .returned (.int .i64 0) ∧ RB W w' pw R ∧ Keeps (fun g => g = pw) w w' := by
  have HRR := Lib.hid hRR
  clear hRR
  have HS := Lib.hid hs
  have HT := Lib.hid ht
  have HH := Lib.hid h
  have hq1 : ¬ qty < 1 := by omega
  have hq2 : ¬ 1000000 < qty := by omega
  have hfr := find_ref h (by omega) id
  have hl250 : ¬ (250 : Int) ≤ (L.length : Int) := by omega
  obtain ⟨a, c, hbx, hrw⟩ := h.box
  have BX : w.cell? ⟨pw, 0, none⟩ = some (.slice a L.length c) := hbx.cell 0
  have HPB : Hid (Blk w pw 50 #[.slice a L.length c]) := Lib.hid hbx
  have HPL : Hid (pw < w.heap.size) := Lib.hid hbx.lt
  have HRW := Lib.hid hrw
  clear hs ht h hq hbx hrw
  go_enter Try.func36, Try.ntmps36
  go_upto_region 1 with (fail)
  go_cut [21] (fun v wx => v = .bool false ∧ w = wx)
  case first =>
    rcases HS.out with rfl | rfl
    · go_wp2_with fail
      go_meet
      exact ⟨rfl, rfl⟩
    · go_wp2_with fail
      go_meet
      exact ⟨rfl, rfl⟩
  case rest =>
  obtain ⟨rfl, rfl⟩ := hcut
  go_wp2_with fail
  refine hfr.mono ?_
  rintro e w2 ⟨⟨r, rfl, hr⟩, rfl⟩
  obtain rfl : r = -1 := by
    rcases hr with ⟨h1, _⟩ | ⟨k, o', _, _, _, h1⟩
    · exact h1
    · have := HT.out; rw [h1] at this; cases this
  clear hr hfr
  go_upto_region 10 with (fail)
  have hnx : Blk (w.alloc (.cells #[.int .i64 id, .int .i64 side, .int .i64 price, .int .i64 qty, .bool true] 89)) w.heap.size 89 #[.int .i64 id, .int .i64 side, .int .i64 price, .int .i64 qty, .bool true] := Blk.new _ _ _
  have hb1 := Below.allocN w (.cells #[.int .i64 id, .int .i64 side, .int .i64 price, .int .i64 qty, .bool true] 89)
  have bx1 := (hb1.cell (p := ⟨pw, 0, none⟩) HPL.out).trans BX
  have HR1 := Lib.hid (HRW.out.below hb1)
  have hs1 : (w.alloc (.cells #[.int .i64 id, .int .i64 side, .int .i64 price, .int .i64 qty, .bool true] 89)).heap.size = w.heap.size + 1 := by simp
  obtain ⟨gx, hgx⟩ : ∃ gx, w.heap.size = gx := ⟨_, rfl⟩
  have HGX : Hid (w.heap.size = gx) := Lib.hid hgx
  rw [hgx] at hnx hs1 ⊢
  generalize w.alloc (.cells #[.int .i64 id, .int .i64 side, .int .i64 price, .int .i64 qty, .bool true] 89) = w1 at *
  have HB1 := Lib.hid hb1
  have HX1 := Lib.hid hnx
  have HS1 := Lib.hid hs1
  clear hnx hb1 hs1 hgx BX HRW
  obtain ⟨_, _, he, hac, hrd⟩ := HR1.out.rd
  injection he with he1 _ he2
  subst he1 he2
  have HAD : Hid (∀ ad, a = some ad → ∃ b off, ad = ⟨b, off, none⟩) := Lib.hid fun ad hab => by
    rcases HR1.out.2 with ⟨hv, _⟩ | ⟨g, cap, cur, hv, _⟩
    · injection hv with hv; rw [hv] at hab; cases hab
    · injection hv with hv; rw [hv] at hab; injection hab with hab; exact ⟨g, 0, hab.symm⟩
  have hba := Below.allocN w1 (.cells #[] 89)
  have HRD2 := Lib.hid (hrd.below hba)
  have HE2 : Hid (ROD.Row (w1.alloc (.cells #[] 89)) w1.heap.size (.slice (some ⟨w1.heap.size, 0, none⟩) 0 0) []) := Lib.hid (Lay.Row.empty w1)
  have HB2 := Lib.hid (HB1.out.trans (hba.mono HB1.out.size))
  have HX2 := Lib.hid (HX1.out.below hba)
  have HSZ : Hid ((w1.alloc (.cells #[] 89)).heap.size = gx + 2) := Lib.hid (by have := HS1.out; simp; omega)
  have bx2 := (hba.cell (p := ⟨pw, 0, none⟩) (show pw < w1.heap.size by have := HB1.out.size; have := HPL.out; omega)).trans bx1
  clear hrd hba
  have HAC := Lib.hid hac
  clear hac
  go_wp2_with (first
    | (at_builtin; go_loud (refine ROD.pushes rfl (.tmp 43) (.tmp 47) rfl w1.heap.size (.slice (some ⟨w1.heap.size, 0, none⟩) 0 0) [] rfl HE2.out a c L rfl HAC.out HRD2.out HAD.out (by have h0 : ([] : List Od).length = 0 := rfl; omega) (by have h0 := HSZ.out; have h1 := HS1.out; omega) ?_)))
  intro v' w3 hr3 hg3 ho3
  try rw [List.nil_append] at hr3
  obtain ⟨gl, cap, _, rfl, hgl, _⟩ := hr3.some_of (by
    rcases ho3 with h5 | h5
    · rw [h5]; simp [Value.ownBlock]
    · rw [h5]; simp)
  have hb3 := grown_below hg3 HB2.out (fun y hy => by have h0 : some w1.heap.size = some y := hy; injection h0 with h0; have := HB1.out.size; omega)
  have hx3 := HX2.out.keeps (grown_keeps hg3) (fun hy => by have h0 : some w1.heap.size = some gx := hy; injection h0 with h0; have := HS1.out; omega)
  have HR3 : Hid (ROD.Row w3 (gx + 1) (.slice (some ⟨gl, 0, none⟩) L.length cap) L) := Lib.hid (hr3.base (by rw [HS1.out]; exact Nat.le_refl _))
  have HB3 := Lib.hid hb3
  have HX3 := Lib.hid hx3
  have HGL : Hid (gx + 1 ≤ gl) := Lib.hid (by rw [← HS1.out]; exact hgl)
  clear hr3 hg3 ho3 hb3 hx3 hgl HR1 HRD2 HE2 HB2 HX2 HSZ HAC HAD bx1 bx2 HX1 HB1
  go_wp2_with fail
  as_aux_lemma =>
  go_loopw [14] (fun i w' => ∃ k : Nat, i = .int .i64 k ∧ k ≤ L.length ∧ ROD.Row w' (gx + 1) (.slice (some ⟨gl, 0, none⟩) L.length cap) L ∧ Blk w' gx 89 #[.int .i64 id, .int .i64 side, .int .i64 price, .int .i64 qty, .bool (refTop (L.take k) side price)] ∧ Below w.heap.size w w') (fun i _ => L.length - (intOf i).toNat)
  case atStart => exact ⟨0, rfl, Nat.zero_le _, HR3.out, HX3.out, HB3.out⟩
  case round =>
    clear HR3 HX3 HB3
    obtain ⟨k, rfl, hk, hr, hx, hb⟩ := hrel
    obtain ⟨w4, rfl⟩ : ∃ wo : World, wo = wr := ⟨_, rfl⟩
    have HR4 := Lib.hid hr
    have HX4 := Lib.hid hx
    have HB4 := Lib.hid hb
    clear hr hx hb
    by_cases hlt : k < L.length
    · as_aux_lemma =>
      have hlt' : (k : Int) < (L.length : Int) := by omega
      obtain ⟨o, ho⟩ : ∃ o, L[k]? = some o := ⟨_, List.getElem?_eq_getElem hlt⟩
      obtain ⟨g, off, he, _, hc⟩ := HR4.out.rd_some k o ho
      injection he with he
      injection he with he1 he2
      subst he1 he2
      have HTN := Lib.hid (top_next (side := side) (price := price) ho)
      obtain ⟨f0, f1, f2, f3, f4⟩ := o
      have c1 : w4.cell? ⟨gl, k * 5 + 1, none⟩ = some (.int .i64 f1) := by have := hc 1 _ rfl; rw [Nat.zero_add] at this; exact this
      have c2 : w4.cell? ⟨gl, k * 5 + 2, none⟩ = some (.int .i64 f2) := by have := hc 2 _ rfl; rw [Nat.zero_add] at this; exact this
      clear hc ho
      by_cases hs : f1 = side
      · subst hs
        obtain ⟨bb, hbb⟩ : ∃ bb, betterP f1 price f2 = bb := ⟨_, rfl⟩
        have hbt := better_ref f1 price f2 w4
        rw [hbb] at hbt
        have HBB := Lib.hid hbb
        clear hbb
        go_wp2_with fail
        refine hbt.mono ?_
        rintro e w5 ⟨rfl, rfl⟩
        clear hbt c1 c2
        cases bb with
        | true =>
          have HT2 : Hid (refTop (L.take (k + 1)) f1 price = refTop (L.take k) f1 price) := Lib.hid (by rw [HTN.out]; simp [HBB.out])
          go_wp2_with fail
          go_roundw
          case rel => exact ⟨k + 1, by go_num, by omega, HR4.out, by rw [HT2.out]; exact HX4.out, HB4.out⟩
          case measure => simp [intOf]; omega
        | false =>
          have HT2 : Hid (refTop (L.take (k + 1)) f1 price = false) := Lib.hid (by rw [HTN.out]; simp [HBB.out])
          have z4 : w4.cell? ⟨gx, 4, none⟩ = some (.bool (refTop (L.take k) f1 price)) := HX4.out.cell 4
          have fz : ∀ o, w4.frozen? ⟨gx, o, none⟩ = false := fun o => HX4.out.frozen o
          have HX5 : Hid (Blk (w4.setCell ⟨gx, 4, none⟩ (.bool false)) gx 89 #[.int .i64 id, .int .i64 f1, .int .i64 price, .int .i64 qty, .bool false]) := Lib.hid (HX4.out.set_ 4 _)
          have HR5 : Hid (ROD.Row (w4.setCell ⟨gx, 4, none⟩ (.bool false)) (gx + 1) (.slice (some ⟨gl, 0, none⟩) L.length cap) L) := Lib.hid (own_far HR4.out (fun hy => by have h0 : some gl = some gx := hy; injection h0 with h0; have := HGL.out; omega) _)
          have HB5 := Lib.hid (HB4.out.setCell (p := ⟨gx, 4, none⟩) (by rw [HGX.out]; exact Nat.le_refl _) (.bool false))
          go_wp2_with fail
          clear z4 fz
          go_roundw
          case rel => exact ⟨k + 1, by go_num, by omega, HR5.out, by rw [HT2.out]; exact HX5.out, HB5.out⟩
          case measure => simp [intOf]; omega
      · have hsb : (f1 == side) = false := by rw [beq_eq_false_iff_ne]; exact hs
        have HT2 : Hid (refTop (L.take (k + 1)) side price = refTop (L.take k) side price) := Lib.hid (by rw [HTN.out]; simp [hs])
        go_wp2_with fail
        go_roundw
        case rel => exact ⟨k + 1, by go_num, by omega, HR4.out, by rw [HT2.out]; exact HX4.out, HB4.out⟩
        case measure => simp [intOf]; omega
    · obtain rfl : k = L.length := by omega
      have hx := HX4.out
      rw [List.take_length] at hx
      replace HX4 := Lib.hid hx
      clear hx hk
      obtain ⟨T, hT⟩ : ∃ T, refTop L side price = T := ⟨_, rfl⟩
      rw [hT] at HX4
      have HTT := Lib.hid hT
      clear hT
      go_wp2_with fail
      as_aux_lemma =>
      go_loopw [13] (fun i w' => ∃ k : Nat, i = .int .i64 k ∧ k ≤ L.length ∧ refPos L side price = k + ((L.drop k).takeWhile (aheadO side price)).length ∧ w4 = w') (fun i _ => L.length - (intOf i).toNat)
      case atStart => exact ⟨0, rfl, Nat.zero_le _, (Nat.zero_add _).symm, rfl⟩
      case round =>
        obtain ⟨k, rfl, hk, hp, rfl⟩ := hrel
        have HP := Lib.hid hp
        clear hp
        go_upto_region 17 with (fail)
        go_cut [106] (fun v wx => ∃ bb : Bool, v = .bool bb ∧ (bb = true → k < L.length ∧ refPos L side price = (k + 1) + ((L.drop (k + 1)).takeWhile (aheadO side price)).length) ∧ (bb = false → refPos L side price = k) ∧ w4 = wx)
        case first =>
          as_aux_lemma =>
          by_cases hlt : k < L.length
          · have hlt' : (k : Int) < (L.length : Int) := by omega
            obtain ⟨o, ho⟩ : ∃ o, L[k]? = some o := ⟨_, List.getElem?_eq_getElem hlt⟩
            have HPS := Lib.hid (pos_step ho HP.out)
            obtain ⟨g, off, he, _, hc⟩ := HR4.out.rd_some k o ho
            injection he with he
            injection he with he1 he2
            subst he1 he2
            obtain ⟨f0, f1, f2, f3, f4⟩ := o
            have c1 : w4.cell? ⟨gl, k * 5 + 1, none⟩ = some (.int .i64 f1) := by have := hc 1 _ rfl; rw [Nat.zero_add] at this; exact this
            have c2 : w4.cell? ⟨gl, k * 5 + 2, none⟩ = some (.int .i64 f2) := by have := hc 2 _ rfl; rw [Nat.zero_add] at this; exact this
            clear hc ho
            rcases Int.lt_trichotomy f1 side with h1 | h1 | h1
            · have HA : Hid (aheadO side price ⟨f0, f1, f2, f3, f4⟩ = true) := Lib.hid (by unfold aheadO; simp [h1])
              go_wp2_with fail
              go_meet
              exact ⟨true, rfl, fun _ => ⟨hlt, HPS.out.1 HA.out⟩, fun h => (by cases h), rfl⟩
            · subst h1
              obtain ⟨bb, hbb⟩ : ∃ bb, betterP f1 price f2 = bb := ⟨_, rfl⟩
              have HA : Hid (aheadO f1 price ⟨f0, f1, f2, f3, f4⟩ = !bb) := Lib.hid (by unfold aheadO; simp [hbb])
              have hbt := better_ref f1 price f2 w4
              rw [hbb] at hbt
              clear hbb
              go_wp2_with fail
              refine hbt.mono ?_
              rintro e w5 ⟨rfl, rfl⟩
              clear hbt c1 c2
              cases bb with
              | true =>
                go_wp2_with fail
                go_meet
                exact ⟨false, rfl, fun h => (by cases h), fun _ => HPS.out.2 HA.out, rfl⟩
              | false =>
                go_wp2_with fail
                go_meet
                exact ⟨true, rfl, fun _ => ⟨hlt, HPS.out.1 HA.out⟩, fun h => (by cases h), rfl⟩
            · have h2 : ¬ f1 < side := by omega
              have h3 : (f1 == side) = false := by rw [beq_eq_false_iff_ne]; omega
              have HA : Hid (aheadO side price ⟨f0, f1, f2, f3, f4⟩ = false) := Lib.hid (by unfold aheadO; rw [decide_eq_false h2, decide_eq_false (show ¬ f1 = side by omega)]; rfl)
              go_wp2_with fail
              go_meet
              exact ⟨false, rfl, fun h => (by cases h), fun _ => HPS.out.2 HA.out, rfl⟩
          · go_wp2_with fail
            go_meet
            exact ⟨false, rfl, fun h => (by cases h), fun _ => pos_end (by omega) HP.out, rfl⟩
        case rest =>
        obtain ⟨bb, rfl, hb1, hb2, rfl⟩ := hcut
        cases bb with
        | true =>
          obtain ⟨hlt, hp2⟩ := hb1 rfl
          have HP2 := Lib.hid hp2
          clear hb1 hb2 hp2
          go_wp2_with fail
          go_roundw
          case rel => exact ⟨k + 1, by go_num, by omega, HP2.out, by trivial⟩
          case measure => simp [intOf]; omega
        | false =>
          have HPOS := Lib.hid (hb2 rfl)
          clear hb1 hb2 HP
          go_wp2_with fail
          as_aux_lemma =>
          go_loopw [15] (fun i w' => ∃ i' : Nat, i = .int .i64 i' ∧ i' ≤ L.length ∧ (T = false → i' = 0) ∧ ROD.Row w' (gx + 1) (.slice (some ⟨gl, 0, none⟩) L.length cap) (mixU L side i') ∧ Blk w' gx 89 #[.int .i64 id, .int .i64 side, .int .i64 price, .int .i64 qty, .bool T] ∧ Below w.heap.size w w') (fun i _ => L.length - (intOf i).toNat)
          case atStart => exact ⟨0, rfl, Nat.zero_le _, fun _ => rfl, HR4.out, HX4.out, HB4.out⟩
          case round =>
            clear HR4 HX4 HB4
            obtain ⟨i, rfl, hi, ht0, hr, hx, hb⟩ := hrel
            obtain ⟨w5, rfl⟩ : ∃ wo : World, wo = wr := ⟨_, rfl⟩
            have HR5 := Lib.hid hr
            have HX5 := Lib.hid hx
            have HB5 := Lib.hid hb
            have HT0 := Lib.hid ht0
            have z4 : w5.cell? ⟨gx, 4, none⟩ = some (.bool T) := hx.cell 4
            clear hr hx hb ht0
            go_upto_region 20 with (fail)
            go_cut [116] (fun v wx => ∃ bb : Bool, v = .bool bb ∧ (bb = true → i < L.length ∧ T = true) ∧ (bb = false → ¬ (i < L.length ∧ T = true)) ∧ w5 = wx)
            case first =>
              by_cases hlt : i < L.length
              · have hlt' : (i : Int) < (L.length : Int) := by omega
                go_wp2_with fail
                go_meet
                exact ⟨T, rfl, fun h => ⟨hlt, h⟩, fun h h2 => (by rw [h2.2] at h; cases h), rfl⟩
              · go_wp2_with fail
                go_meet
                exact ⟨false, rfl, fun h => (by cases h), fun _ h2 => hlt h2.1, rfl⟩
            case rest =>
            obtain ⟨bb, rfl, hb1, hb2, rfl⟩ := hcut
            cases bb with
            | true =>
              obtain ⟨hlt, hT1⟩ := hb1 rfl
              have HT1 := Lib.hid hT1
              clear hb1 hb2 hT1 z4
              have hlt' : (i : Int) < (L.length : Int) := by omega
              obtain ⟨o, ho⟩ : ∃ o, L[i]? = some o := ⟨_, List.getElem?_eq_getElem hlt⟩
              have HMG := Lib.hid (mixU_get (side := side) ho)
              have HMS := Lib.hid (mixU_set (side := side) ho)
              have HMN := Lib.hid (mixU_same (side := side) ho)
              obtain ⟨g, off, he, _, hc⟩ := HR5.out.rd_some i o HMG.out
              injection he with he
              injection he with he1 he2
              subst he1 he2
              obtain ⟨f0, f1, f2, f3, f4⟩ := o
              have c1 : w5.cell? ⟨gl, i * 5 + 1, none⟩ = some (.int .i64 f1) := by have := hc 1 _ rfl; rw [Nat.zero_add] at this; exact this
              have c4 : w5.cell? ⟨gl, i * 5 + 4, none⟩ = some (.bool f4) := by have := hc 4 _ rfl; rw [Nat.zero_add] at this; exact this
              clear hc ho
              by_cases hs : f1 = side
              · subst hs
                obtain ⟨gl2, cap2, _, hv2, _, hgt⟩ := HR5.out.some_of (by simp [Value.ownBlock])
                injection hv2 with hv2
                injection hv2 with hv2
                injection hv2 with hv2
                subst hv2
                have fz : ∀ o, w5.frozen? ⟨gl, o, none⟩ = false := fun o => Blk.frozen hgt o
                have HR6 : Hid (ROD.Row (w5.setCell ⟨gl, i * 5 + 4, none⟩ (.bool false)) (gx + 1) (.slice (some ⟨gl, 0, none⟩) L.length cap) (mixU L f1 (i + 1))) := Lib.hid (by
                  rw [HMS.out, show untop f1 ⟨f0, f1, f2, f3, f4⟩ = ⟨f0, f1, f2, f3, false⟩ from if_pos rfl]
                  exact Lay.Row.set_ HR5.out (e' := (⟨f0, f1, f2, f3, false⟩ : Od)) (k := 4) (u := .bool false) HMG.out (by decide) rfl)
                have HX6 := Lib.hid (HX5.out.keeps ((Keeps.refl (fun k => k = gl) w5).setCell (p := ⟨gl, i * 5 + 4, none⟩) (fun _ => rfl) (.bool false)) (fun h => by have := HGL.out; omega))
                have HB6 := Lib.hid (HB5.out.setCell (p := ⟨gl, i * 5 + 4, none⟩) (show w.heap.size ≤ gl by have := HGL.out; have := HGX.out; omega) (.bool false))
                clear hgt
                go_wp2_with fail
                clear c1 c4 fz
                go_roundw
                case rel => exact ⟨i + 1, by go_num, by omega, fun h => (by rw [HT1.out] at h; cases h), HR6.out, HX6.out, HB6.out⟩
                case measure => simp [intOf]; omega
              · have hsb : (f1 == side) = false := by rw [beq_eq_false_iff_ne]; exact hs
                go_wp2_with fail
                go_roundw
                case rel => exact ⟨i + 1, by go_num, by omega, fun h => (by rw [HT1.out] at h; cases h), by rw [HMN.out hs]; exact HR5.out, HX5.out, HB5.out⟩
                case measure => simp [intOf]; omega
            | false =>
              have HL1 : Hid (mixU L side i = if refTop L side price = true then L.map (untop side) else L) := Lib.hid (by
                rw [HTT.out]
                have h2 := hb2 rfl
                cases hT : T with
                | true =>
                  have hi2 : i = L.length := by
                    have : ¬ i < L.length := fun h => h2 ⟨h, hT⟩
                    omega
                  rw [if_pos rfl, hi2]
                  unfold mixU
                  rw [List.take_length, List.drop_length, List.append_nil]
                | false =>
                  rw [if_neg (by simp), HT0.out hT]
                  rfl)
              have HN1 := Lib.hid (mixU_len L side i)
              generalize mixU L side i = L1 at *
              clear hb1 hb2 z4 HT0
              have HZ := Lib.hid HX5.out
              have z0 : w5.cell? ⟨gx, 0, none⟩ = some (.int .i64 id) := HZ.out.cell 0
              have z1 : w5.cell? ⟨gx, 1, none⟩ = some (.int .i64 side) := HZ.out.cell 1
              have z2 : w5.cell? ⟨gx, 2, none⟩ = some (.int .i64 price) := HZ.out.cell 2
              have z3 : w5.cell? ⟨gx, 3, none⟩ = some (.int .i64 qty) := HZ.out.cell 3
              have z4 : w5.cell? ⟨gx, 4, none⟩ = some (.bool T) := HZ.out.cell 4
              have hkc : k ≤ cap := by
                rcases HR5.out.2 with ⟨hv, _⟩ | ⟨g9, cap9, cur9, hv, _, _, hh, _⟩
                · injection hv with hv; cases hv
                · injection hv with _ _ hv; rw [hv]; have := HN1.out; omega
              have hkn : (k : Int) ≤ (L.length : Int) := by omega
              have hk0 : (0 : Int) ≤ (k : Int) := by omega
              obtain ⟨off2, hoff⟩ : ∃ off2, off2 = (if cap = k then 0 else k * 5) := ⟨_, rfl⟩
              have hadr : (if cap = k then (some ⟨gl, 0, none⟩ : Option Addr) else some ⟨gl, k * 5, none⟩) = some ⟨gl, off2, none⟩ := by
                rw [hoff]; split <;> rfl
              have HOFF := Lib.hid hoff
              have HRCAP : Hid (L.length ≤ cap) := Lib.hid (by
                rcases HR5.out.2 with ⟨hv, _⟩ | ⟨g9, cap9, cur9, hv, _, _, hh, _⟩
                · injection hv with hv; cases hv
                · injection hv with _ _ hv; rw [hv]; have := HN1.out; omega)
              clear hoff
              go_upto_region 24 with (fail)
              refine wp_region_E (S := fun w' => w'.cell? ⟨gx, 0, none⟩ = some (.int .i64 id) ∧ w'.cell? ⟨gx, 1, none⟩ = some (.int .i64 side) ∧ w'.cell? ⟨gx, 2, none⟩ = some (.int .i64 price) ∧ w'.cell? ⟨gx, 3, none⟩ = some (.int .i64 qty) ∧ w'.cell? ⟨gx, 4, none⟩ = some (.bool T)) (by kernel_rfl) ⟨z0, z1, z2, z3, z4⟩ (fun hHeld => ?_)
              have HBD0 := Lib.hid (Below.drewN_of w5 1)
              have HRd : Hid (ROD.Row w5.drew (gx + 1) (.slice (some ⟨gl, 0, none⟩) L.length cap) L1) := Lib.hid (HR5.out.below HBD0.out)
              have HXd : Hid (Blk w5.drew gx 89 #[.int .i64 id, .int .i64 side, .int .i64 price, .int .i64 qty, .bool T]) := Lib.hid (HX5.out.below HBD0.out)
              have HBd : Hid (Below w.heap.size w w5.drew) := Lib.hid (HB5.out.trans (HBD0.out.mono HB5.out.size))
              clear HBD0 HR5 HX5 HB5 HZ z0 z1 z2 z3 z4
              generalize w5.drew = wd at *
              have HSS : Hid (∀ w', Below wd.heap.size wd w' → w'.cell? ⟨gx, 0, none⟩ = some (.int .i64 id) ∧ w'.cell? ⟨gx, 1, none⟩ = some (.int .i64 side) ∧ w'.cell? ⟨gx, 2, none⟩ = some (.int .i64 price) ∧ w'.cell? ⟨gx, 3, none⟩ = some (.int .i64 qty) ∧ w'.cell? ⟨gx, 4, none⟩ = some (.bool T)) := Lib.hid fun w' hb => ⟨(HXd.out.below hb).cell 0, (HXd.out.below hb).cell 1, (HXd.out.below hb).cell 2, (HXd.out.below hb).cell 3, (HXd.out.below hb).cell 4⟩
              have HPW : Hid (Blk wd pw 50 #[.slice a L.length c]) := Lib.hid (HPB.out.below HBd.out)
              have HPL2 : Hid (pw < wd.heap.size) := Lib.hid HPW.out.lt
              have HTK : Hid ((L1.take k).length = k) := Lib.hid (by rw [List.length_take, HN1.out]; omega)
              have HTK1 : Hid ((L1.take k ++ [(⟨id, side, price, qty, T⟩ : Od)]).length = k + 1) := Lib.hid (by rw [List.length_append, HTK.out]; rfl)
              have HDK : Hid ((L1.drop k).length = L.length - k) := Lib.hid (by rw [List.length_drop, HN1.out])
              have HLN : Hid ((L1.take k ++ [(⟨id, side, price, qty, T⟩ : Od)] ++ L1.drop k).length = L.length + 1) := Lib.hid (by rw [List.length_append, HTK1.out, HDK.out]; omega)
              have HRDD : Hid (∀ w1, Below wd.heap.size wd w1 → ROD.Rd w1 (some ⟨gl, off2, none⟩) (L1.drop k)) := Lib.hid (by
                intro w1 hbw1
                rw [HOFF.out]
                by_cases hcap : cap = k
                · rw [if_pos hcap]
                  have h0 : L1.drop k = [] := List.eq_nil_of_length_eq_zero (by rw [HDK.out]; have := HRCAP.out; omega)
                  rw [h0]
                  exact Lay.Rd.nil
                · rw [if_neg hcap]
                  intro j e hj
                  rw [List.getElem?_drop] at hj
                  obtain ⟨b, off, h1, h2, h3⟩ := (HRd.out.rd_some.below hbw1) (k + j) e hj
                  injection h1 with h1
                  injection h1 with h1 h4
                  subst h1 h4
                  refine ⟨gl, k * 5, rfl, h2, ?_⟩
                  rw [show k * 5 + j * ROD.m = 0 + (k + j) * ROD.m by rw [Nat.add_mul, Nat.zero_add]; rfl]
                  exact h3)
              have HBwd : Hid (Below wd.heap.size wd wd) := Lib.hid (Below.refl _ _)
              refine wpE_take (i := 0) (oi := ?oi3) (v := ?v3) ?hi3 (by kernel_rfl) (by kernel_rfl) (by kernel_rfl) (by kernel_rfl) ?hQ3 ?hy3 (by assumption) ?rest3
              case hi3 => (simp only [List.getElem?_toArray]; rfl)
              case hQ3 => exact fun _ _ _ h => h
              case hy3 => exact Or.inl ⟨by rfl, by (intro w hSw; (try dsimp only at hSw); go_simp; try with_reducible rfl)⟩
              try simp only [Act.put, List.setIfInBounds_toArray, List.set_cons_zero, List.set_cons_succ]
              refine wpE_take (i := 2) (oi := ?oi4) (v := ?v4) ?hi4 (by kernel_rfl) (by kernel_rfl) (by kernel_rfl) (by kernel_rfl) ?hQ4 ?hy4 (by assumption) ?rest4
              case hi4 => (simp only [List.getElem?_toArray]; rfl)
              case hQ4 => exact fun _ _ _ h => h
              case hy4 => exact Or.inl ⟨by rfl, by (intro w hSw; (try dsimp only at hSw); go_simp; try with_reducible rfl)⟩
              try simp only [Act.put, List.setIfInBounds_toArray, List.set_cons_zero, List.set_cons_succ]
              refine wpE_take (i := 3) (oi := ?oi5) (v := ?v5) ?hi5 (by kernel_rfl) (by kernel_rfl) (by kernel_rfl) (by kernel_rfl) ?hQ5 ?hy5 (by assumption) ?rest5
              case hi5 => (simp only [List.getElem?_toArray]; rfl)
              case hQ5 => exact fun _ _ _ h => h
              case hy5 => exact Or.inl ⟨by rfl, by (intro w hSw; (try dsimp only at hSw); go_simp; try with_reducible rfl)⟩
              try simp only [Act.put, List.setIfInBounds_toArray, List.set_cons_zero, List.set_cons_succ]
              refine wpE_take (i := 4) (oi := ?oi6) (v := ?v6) ?hi6 (by kernel_rfl) (by kernel_rfl) (by kernel_rfl) (by kernel_rfl) ?hQ6 ?hy6 (by assumption) ?rest6
              case hi6 => (simp only [List.getElem?_toArray]; rfl)
              case hQ6 => exact fun _ _ _ h => h
              case hy6 => exact Or.inl ⟨by rfl, by (intro w hSw; (try dsimp only at hSw); go_simp; try with_reducible rfl)⟩
              try simp only [Act.put, List.setIfInBounds_toArray, List.set_cons_zero, List.set_cons_succ]
              refine wpE_take (i := 6) (oi := ?oi7) (v := ?v7) ?hi7 (by kernel_rfl) (by kernel_rfl) (by kernel_rfl) (by kernel_rfl) ?hQ7 ?hy7 (by assumption) ?rest7
              case hi7 => (simp only [List.getElem?_toArray]; rfl)
              case hQ7 => exact fun _ _ _ h => h
              case hy7 => exact Or.inl ⟨by rfl, by (intro w hSw; (try dsimp only at hSw); go_simp; try with_reducible rfl)⟩
              try simp only [Act.put, List.setIfInBounds_toArray, List.set_cons_zero, List.set_cons_succ]
              refine wpE_take (i := 9) (oi := ?oi8) (v := ?v8) ?hi8 (by kernel_rfl) (by kernel_rfl) (by kernel_rfl) (by kernel_rfl) ?hQ8 ?hy8 (by assumption) ?rest8
              case hi8 => (simp only [List.getElem?_toArray]; rfl)
              case hQ8 => exact fun _ _ _ h => h
              case hy8 => exact Or.inl ⟨by rfl, by (intro w hSw; (try dsimp only at hSw); go_simp; try with_reducible rfl)⟩
              try simp only [Act.put, List.setIfInBounds_toArray, List.set_cons_zero, List.set_cons_succ]
              refine wpE_take (i := 10) (oi := ?oi9) (v := ?v9) ?hi9 (by kernel_rfl) (by kernel_rfl) (by kernel_rfl) (by kernel_rfl) ?hQ9 ?hy9 (by assumption) ?rest9
              case hi9 => (simp only [List.getElem?_toArray]; rfl)
              case hQ9 => exact fun _ _ _ h => h
              case hy9 => exact Or.inl ⟨by rfl, by (intro w hSw; (try dsimp only at hSw); go_simp; try with_reducible rfl)⟩
              try simp only [Act.put, List.setIfInBounds_toArray, List.set_cons_zero, List.set_cons_succ]
              refine wpE_take (i := 11) (oi := ?oi10) (v := ?v10) ?hi10 (by kernel_rfl) (by kernel_rfl) (by kernel_rfl) (by kernel_rfl) ?hQ10 ?hy10 (by assumption) ?rest10
              case hi10 => (simp only [List.getElem?_toArray]; rfl)
              case hQ10 => exact fun _ _ _ h => h
              case hy10 => exact Or.inl ⟨by rfl, by (intro w hSw; (try dsimp only at hSw); go_simp; try with_reducible rfl)⟩
              try simp only [Act.put, List.setIfInBounds_toArray, List.set_cons_zero, List.set_cons_succ]
              refine wpE_two (i := 1) (j := 7) (oi := ?oa1) (oj := ?ob1) ?ha1 ?hb1 (by kernel_rfl) (fun K hK => ?_) (fun K hK => ?_)
              case ha1 => (simp only [List.getElem?_toArray]; rfl)
              case hb1 => (simp only [List.getElem?_toArray]; rfl)
              · as_aux_lemma =>
                go_simp
                have hba := Below.allocN wd (.cells #[] 89)
                have hbb := HBwd.out.trans (hba.mono HBwd.out.size)
                refine hK.out _ _ (HSS.out _ hbb) (fun hHeld => ?_)
                clear hK K
                have hE0 : ROD.Row (wd.alloc (.cells #[] 89)) wd.heap.size (.slice (some ⟨wd.heap.size, 0, none⟩) 0 0) [] := Lay.Row.empty wd
                have hz0 : (wd.alloc (.cells #[] 89)).heap.size = wd.heap.size + 1 := by simp
                obtain ⟨ge, hge⟩ : ∃ ge, wd.heap.size = ge := ⟨_, rfl⟩
                have HGE : Hid (wd.heap.size = ge) := Lib.hid hge
                rw [hge] at hE0 hz0 ⊢
                clear hge
                generalize wd.alloc (.cells #[] 89) = we at *
                have HE := Lib.hid hE0
                have HBwe := Lib.hid hbb
                have HZwe := Lib.hid hz0
                clear hba hbb hE0 hz0
                replace HE := Lib.hid (HE.out.base (show wd.heap.size ≤ ge by have h1 := HGE.out; omega))
                refine wpE_two (i := 5) (j := 7) (oi := ?oa2) (oj := ?ob2) ?ha2 ?hb2 (by kernel_rfl) (fun K hK => ?_) (fun K hK => ?_)
                case ha2 => (simp only [List.getElem?_toArray]; rfl)
                case hb2 => (simp only [List.getElem?_toArray]; rfl)
                
                · as_aux_lemma =>
                  refine ROD.steps (by rfl) (.tmp 131) (.tmp 134) (by rfl) wd.heap.size ge 0 0 k [] rfl (by rfl) HE.out gl 0 cap (L1.take k) HTK.out (by rfl) ((HRd.out.rd_some.below HBwe.out).take k) k (by omega) (by omega) HBwe.out.size ?_
                  intro g1 cap1 wf hrf hgf hof
                  try rw [List.nil_append] at hrf
                  have hbf := grown_below hgf HBwe.out (own_base HE.out)
                  have HF := Lib.hid hrf
                  have HBwf := Lib.hid hbf
                  have HGF := Lib.hid (grown_keeps hgf)
                  refine hK.out _ _ (HSS.out _ hbf) (fun hHeld => ?_)
                  clear hK K hrf hbf hgf hof
                  try simp only [Act.put, List.setIfInBounds_toArray, List.set_cons_zero, List.set_cons_succ]
                  refine wpE_one (i := 7) (o := ?o17) ?ho17 (by kernel_rfl) (fun K hK => ?_)
                  case ho17 => (simp only [List.getElem?_toArray]; rfl)
                  refine step_one (by rfl) 136 (by rfl) (by rfl) ?_
                  have hba := Below.allocN wf (.cells #[.int .i64 id, .int .i64 side, .int .i64 price, .int .i64 qty, .bool T] 89)
                  have hbb := HBwf.out.trans (hba.mono HBwf.out.size)
                  refine hK.out _ _ (HSS.out _ hbb) (fun hHeld => ?_)
                  clear hK K
                  try simp only [Act.put, List.setIfInBounds_toArray, List.set_cons_zero, List.set_cons_succ]
                  have hN0 : Blk (wf.alloc (.cells #[.int .i64 id, .int .i64 side, .int .i64 price, .int .i64 qty, .bool T] 89)) wf.heap.size 89 #[.int .i64 id, .int .i64 side, .int .i64 price, .int .i64 qty, .bool T] := Blk.new _ _ _
                  have hz0 : (wf.alloc (.cells #[.int .i64 id, .int .i64 side, .int .i64 price, .int .i64 qty, .bool T] 89)).heap.size = wf.heap.size + 1 := by simp
                  obtain ⟨gn, hgn⟩ : ∃ gn, wf.heap.size = gn := ⟨_, rfl⟩
                  have HGN : Hid (wf.heap.size = gn) := Lib.hid hgn
                  rw [hgn] at hN0 hz0 ⊢
                  clear hgn
                  have hF0 := HF.out.below hba
                  generalize wf.alloc (.cells #[.int .i64 id, .int .i64 side, .int .i64 price, .int .i64 qty, .bool T] 89) = wc at *
                  have HN := Lib.hid hN0
                  have HBwc := Lib.hid hbb
                  have HZwc := Lib.hid hz0
                  clear hba hbb hN0 hz0
                  replace HF := Lib.hid hF0
                  clear hF0
                  refine wpE_one (i := 8) (o := ?o18) ?ho18 (by kernel_rfl) (fun K hK => ?_)
                  case ho18 => (simp only [List.getElem?_toArray]; rfl)
                  refine ROD.steps (by rfl) (.tmp 135) (.tmp 137) (by rfl) wd.heap.size g1 cap1 k 1 (L1.take k) HTK.out (by rfl) HF.out gn 0 1 [(⟨id, side, price, qty, T⟩ : Od)] rfl (by rfl) (CellsAt.rd HN.out.lt (Blk.cellsAt HN.out)) (k + 1) rfl (by omega) HBwc.out.size ?_
                  intro g2 cap2 wg hrg hgg hog
                  have hbg := grown_below hgg HBwc.out (own_base HF.out)
                  have HG := Lib.hid hrg
                  have HBwg := Lib.hid hbg
                  refine hK.out _ _ (HSS.out _ hbg) (fun hHeld => ?_)
                  clear hK K hrg hbg hgg hog
                  try simp only [Act.put, List.setIfInBounds_toArray, List.set_cons_zero, List.set_cons_succ]
                  refine wpE_one (i := 12) (o := ?o19) ?ho19 (by kernel_rfl) (fun K hK => ?_)
                  case ho19 => (simp only [List.getElem?_toArray]; rfl)
                  refine ROD.steps (by rfl) (.tmp 138) (.tmp 141) (by rfl) wd.heap.size g2 cap2 (k + 1) (L.length - k) (L1.take k ++ [(⟨id, side, price, qty, T⟩ : Od)]) HTK1.out (by rfl) HG.out gl off2 (cap - k) (L1.drop k) HDK.out (by rfl) (HRDD.out _ HBwg.out) (L.length + 1) (by omega) (by omega) HBwg.out.size ?_
                  intro g3 cap3 wh hrh hgh hoh
                  have hbh := grown_below hgh HBwg.out (own_base HG.out)
                  have hg3 : wd.heap.size ≤ g3 := own_base hrh g3 rfl
                  have HH3 := Lib.hid hrh
                  have HBwh := Lib.hid hbh
                  have HG3 := Lib.hid hg3
                  have hpw := HPW.out.below hbh
                  have HPW3 := Lib.hid hpw
                  have bxp : wh.cell? ⟨pw, 0, none⟩ = some (.slice a L.length c) := hpw.cell 0
                  have fzp : ∀ o, wh.frozen? ⟨pw, o, none⟩ = false := fun o => HPW3.out.frozen o
                  refine hK.out _ _ (HSS.out _ hbh) (fun hHeld => ?_)
                  clear hK K hrh hbh hgh hoh hpw hg3
                  try simp only [Act.put, List.setIfInBounds_toArray, List.set_cons_zero, List.set_cons_succ]
                  refine wpE_take (i := 13) (oi := ?oi11) (v := ?v11) ?hi11 (by kernel_rfl) (by kernel_rfl) (by kernel_rfl) (by kernel_rfl) ?hQ11 ?hy11 (by assumption) ?rest11
                  case hi11 => (simp only [List.getElem?_toArray]; rfl)
                  case hQ11 => exact fun _ _ _ h => h
                  case hy11 => exact Or.inl ⟨by rfl, by (intro w hSw; (try dsimp only at hSw); go_simp; try with_reducible rfl)⟩
                  try simp only [Act.put, List.setIfInBounds_toArray, List.set_cons_zero, List.set_cons_succ]
                  refine wpE_take (i := 14) (oi := ?oi12) (v := ?v12) ?hi12 (by kernel_rfl) (by kernel_rfl) (by kernel_rfl) (by kernel_rfl) ?hQ12 ?hy12 (by assumption) ?rest12
                  case hi12 => (simp only [List.getElem?_toArray]; rfl)
                  case hQ12 => exact fun _ _ _ h => h
                  case hy12 => exact Or.inl ⟨by rfl, by (intro w hSw; (try dsimp only at hSw); go_simp; try with_reducible rfl)⟩
                  try simp only [Act.put, List.setIfInBounds_toArray, List.set_cons_zero, List.set_cons_succ]
                  refine wpE_last (i := 15) (o := ?o27) ?ho27 (by kernel_rfl) (by kernel_rfl) (by kernel_rfl) (fun K hK => ?_)
                  case ho27 => (simp only [List.getElem?_toArray]; rfl)
                  go_simp
                  refine hK.out _ _ ?_
                  clear hK K hHeld bxp fzp
                  have hrb : RB W (wh.setCell ⟨pw, 0, none⟩ (.slice (some ⟨g3, 0, none⟩) (L.length + 1) cap3)) pw (L1.take k ++ [(⟨id, side, price, qty, T⟩ : Od)] ++ L1.drop k) := by
                    have hWw : W.heap.size ≤ wd.heap.size := Nat.le_trans HH.out.bel.size HBd.out.size
                    refine ⟨⟨some ⟨g3, 0, none⟩, cap3, ?_, ?_⟩, HH.out.base, ?_⟩
                    · rw [HLN.out]; exact HPW3.out.set_ 0 _
                    · rw [HLN.out]
                      have hof : ROD.Row (wh.setCell ⟨pw, 0, none⟩ (.slice (some ⟨g3, 0, none⟩) (L.length + 1) cap3)) wd.heap.size (.slice (some ⟨g3, 0, none⟩) (L.length + 1) cap3) (L1.take k ++ [(⟨id, side, price, qty, T⟩ : Od)] ++ L1.drop k) := own_far HH3.out (p := ⟨pw, 0, none⟩) (fun hy => by have h0 : some g3 = some pw := hy; injection h0 with h0; have h1 := HPL2.out; have h2 := HG3.out; omega) _
                      exact hof.base hWw
                    · exact ((HH.out.bel.trans (HBd.out.mono HH.out.bel.size)).trans (HBwh.out.mono hWw)).setCell (p := ⟨pw, 0, none⟩) HH.out.base _
                  have hkp : Keeps (fun g => g = pw) w (wh.setCell ⟨pw, 0, none⟩ (.slice (some ⟨g3, 0, none⟩) (L.length + 1) cap3)) :=
                    (Below.keeps (F := fun g => g = pw) (HBd.out.trans (HBwh.out.mono HBd.out.size))).setCell (p := ⟨pw, 0, none⟩) (fun _ => rfl) _
                  have HRB := Lib.hid hrb
                  have HKP := Lib.hid hkp
                  clear hrb hkp
                  go_wp2_with fail
                  go_ret
                  exact ⟨by trivial, by rw [HRR.out, ← HL1.out, HPOS.out, HTT.out]; exact HRB.out, HKP.out⟩
                · as_aux_lemma =>
                  refine step_one (by rfl) 136 (by rfl) (by rfl) ?_
                  have hba := Below.allocN we (.cells #[.int .i64 id, .int .i64 side, .int .i64 price, .int .i64 qty, .bool T] 89)
                  have hbb := HBwe.out.trans (hba.mono HBwe.out.size)
                  refine hK.out _ _ (HSS.out _ hbb) (fun hHeld => ?_)
                  clear hK K
                  try simp only [Act.put, List.setIfInBounds_toArray, List.set_cons_zero, List.set_cons_succ]
                  have hN0 : Blk (we.alloc (.cells #[.int .i64 id, .int .i64 side, .int .i64 price, .int .i64 qty, .bool T] 89)) we.heap.size 89 #[.int .i64 id, .int .i64 side, .int .i64 price, .int .i64 qty, .bool T] := Blk.new _ _ _
                  have hz0 : (we.alloc (.cells #[.int .i64 id, .int .i64 side, .int .i64 price, .int .i64 qty, .bool T] 89)).heap.size = we.heap.size + 1 := by simp
                  obtain ⟨gn, hgn⟩ : ∃ gn, we.heap.size = gn := ⟨_, rfl⟩
                  have HGN : Hid (we.heap.size = gn) := Lib.hid hgn
                  rw [hgn] at hN0 hz0 ⊢
                  clear hgn
                  have hE1 := HE.out.below hba
                  generalize we.alloc (.cells #[.int .i64 id, .int .i64 side, .int .i64 price, .int .i64 qty, .bool T] 89) = wc at *
                  have HN := Lib.hid hN0
                  have HBwc := Lib.hid hbb
                  have HZwc := Lib.hid hz0
                  clear hba hbb hN0 hz0
                  replace HE := Lib.hid hE1
                  clear hE1
                  refine wpE_one (i := 5) (o := ?o20) ?ho20 (by kernel_rfl) (fun K hK => ?_)
                  case ho20 => (simp only [List.getElem?_toArray]; rfl)
                  refine ROD.steps (by rfl) (.tmp 131) (.tmp 134) (by rfl) wd.heap.size ge 0 0 k [] rfl (by rfl) HE.out gl 0 cap (L1.take k) HTK.out (by rfl) ((HRd.out.rd_some.below HBwc.out).take k) k (by omega) (by omega) HBwc.out.size ?_
                  intro g1 cap1 wf hrf hgf hof
                  try rw [List.nil_append] at hrf
                  have hbf := grown_below hgf HBwc.out (own_base HE.out)
                  have HF := Lib.hid hrf
                  have HBwf := Lib.hid hbf
                  have HGF := Lib.hid (grown_keeps hgf)
                  refine hK.out _ _ (HSS.out _ hbf) (fun hHeld => ?_)
                  clear hK K hrf hbf hgf hof
                  try simp only [Act.put, List.setIfInBounds_toArray, List.set_cons_zero, List.set_cons_succ]
                  have hN1 := HN.out.keeps HGF.out (fun hy => by have h0 : some ge = some gn := hy; injection h0 with h0; have h1 := HGE.out; have h2 := HZwe.out; have h3 := HGN.out; omega)
                  replace HN := Lib.hid hN1
                  clear hN1
                  refine wpE_one (i := 8) (o := ?o21) ?ho21 (by kernel_rfl) (fun K hK => ?_)
                  case ho21 => (simp only [List.getElem?_toArray]; rfl)
                  refine ROD.steps (by rfl) (.tmp 135) (.tmp 137) (by rfl) wd.heap.size g1 cap1 k 1 (L1.take k) HTK.out (by rfl) HF.out gn 0 1 [(⟨id, side, price, qty, T⟩ : Od)] rfl (by rfl) (CellsAt.rd HN.out.lt (Blk.cellsAt HN.out)) (k + 1) rfl (by omega) HBwf.out.size ?_
                  intro g2 cap2 wg hrg hgg hog
                  have hbg := grown_below hgg HBwf.out (own_base HF.out)
                  have HG := Lib.hid hrg
                  have HBwg := Lib.hid hbg
                  refine hK.out _ _ (HSS.out _ hbg) (fun hHeld => ?_)
                  clear hK K hrg hbg hgg hog
                  try simp only [Act.put, List.setIfInBounds_toArray, List.set_cons_zero, List.set_cons_succ]
                  refine wpE_one (i := 12) (o := ?o22) ?ho22 (by kernel_rfl) (fun K hK => ?_)
                  case ho22 => (simp only [List.getElem?_toArray]; rfl)
                  refine ROD.steps (by rfl) (.tmp 138) (.tmp 141) (by rfl) wd.heap.size g2 cap2 (k + 1) (L.length - k) (L1.take k ++ [(⟨id, side, price, qty, T⟩ : Od)]) HTK1.out (by rfl) HG.out gl off2 (cap - k) (L1.drop k) HDK.out (by rfl) (HRDD.out _ HBwg.out) (L.length + 1) (by omega) (by omega) HBwg.out.size ?_
                  intro g3 cap3 wh hrh hgh hoh
                  have hbh := grown_below hgh HBwg.out (own_base HG.out)
                  have hg3 : wd.heap.size ≤ g3 := own_base hrh g3 rfl
                  have HH3 := Lib.hid hrh
                  have HBwh := Lib.hid hbh
                  have HG3 := Lib.hid hg3
                  have hpw := HPW.out.below hbh
                  have HPW3 := Lib.hid hpw
                  have bxp : wh.cell? ⟨pw, 0, none⟩ = some (.slice a L.length c) := hpw.cell 0
                  have fzp : ∀ o, wh.frozen? ⟨pw, o, none⟩ = false := fun o => HPW3.out.frozen o
                  refine hK.out _ _ (HSS.out _ hbh) (fun hHeld => ?_)
                  clear hK K hrh hbh hgh hoh hpw hg3
                  try simp only [Act.put, List.setIfInBounds_toArray, List.set_cons_zero, List.set_cons_succ]
                  refine wpE_take (i := 13) (oi := ?oi13) (v := ?v13) ?hi13 (by kernel_rfl) (by kernel_rfl) (by kernel_rfl) (by kernel_rfl) ?hQ13 ?hy13 (by assumption) ?rest13
                  case hi13 => (simp only [List.getElem?_toArray]; rfl)
                  case hQ13 => exact fun _ _ _ h => h
                  case hy13 => exact Or.inl ⟨by rfl, by (intro w hSw; (try dsimp only at hSw); go_simp; try with_reducible rfl)⟩
                  try simp only [Act.put, List.setIfInBounds_toArray, List.set_cons_zero, List.set_cons_succ]
                  refine wpE_take (i := 14) (oi := ?oi14) (v := ?v14) ?hi14 (by kernel_rfl) (by kernel_rfl) (by kernel_rfl) (by kernel_rfl) ?hQ14 ?hy14 (by assumption) ?rest14
                  case hi14 => (simp only [List.getElem?_toArray]; rfl)
                  case hQ14 => exact fun _ _ _ h => h
                  case hy14 => exact Or.inl ⟨by rfl, by (intro w hSw; (try dsimp only at hSw); go_simp; try with_reducible rfl)⟩
                  try simp only [Act.put, List.setIfInBounds_toArray, List.set_cons_zero, List.set_cons_succ]
                  refine wpE_last (i := 15) (o := ?o28) ?ho28 (by kernel_rfl) (by kernel_rfl) (by kernel_rfl) (fun K hK => ?_)
                  case ho28 => (simp only [List.getElem?_toArray]; rfl)
                  go_simp
                  refine hK.out _ _ ?_
                  clear hK K hHeld bxp fzp
                  have hrb : RB W (wh.setCell ⟨pw, 0, none⟩ (.slice (some ⟨g3, 0, none⟩) (L.length + 1) cap3)) pw (L1.take k ++ [(⟨id, side, price, qty, T⟩ : Od)] ++ L1.drop k) := by
                    have hWw : W.heap.size ≤ wd.heap.size := Nat.le_trans HH.out.bel.size HBd.out.size
                    refine ⟨⟨some ⟨g3, 0, none⟩, cap3, ?_, ?_⟩, HH.out.base, ?_⟩
                    · rw [HLN.out]; exact HPW3.out.set_ 0 _
                    · rw [HLN.out]
                      have hof : ROD.Row (wh.setCell ⟨pw, 0, none⟩ (.slice (some ⟨g3, 0, none⟩) (L.length + 1) cap3)) wd.heap.size (.slice (some ⟨g3, 0, none⟩) (L.length + 1) cap3) (L1.take k ++ [(⟨id, side, price, qty, T⟩ : Od)] ++ L1.drop k) := own_far HH3.out (p := ⟨pw, 0, none⟩) (fun hy => by have h0 : some g3 = some pw := hy; injection h0 with h0; have h1 := HPL2.out; have h2 := HG3.out; omega) _
                      exact hof.base hWw
                    · exact ((HH.out.bel.trans (HBd.out.mono HH.out.bel.size)).trans (HBwh.out.mono hWw)).setCell (p := ⟨pw, 0, none⟩) HH.out.base _
                  have hkp : Keeps (fun g => g = pw) w (wh.setCell ⟨pw, 0, none⟩ (.slice (some ⟨g3, 0, none⟩) (L.length + 1) cap3)) :=
                    (Below.keeps (F := fun g => g = pw) (HBd.out.trans (HBwh.out.mono HBd.out.size))).setCell (p := ⟨pw, 0, none⟩) (fun _ => rfl) _
                  have HRB := Lib.hid hrb
                  have HKP := Lib.hid hkp
                  clear hrb hkp
                  go_wp2_with fail
                  go_ret
                  exact ⟨by trivial, by rw [HRR.out, ← HL1.out, HPOS.out, HTT.out]; exact HRB.out, HKP.out⟩
              · as_aux_lemma =>
                refine step_one (by rfl) 136 (by rfl) (by rfl) ?_
                have hba := Below.allocN wd (.cells #[.int .i64 id, .int .i64 side, .int .i64 price, .int .i64 qty, .bool T] 89)
                have hbb := HBwd.out.trans (hba.mono HBwd.out.size)
                refine hK.out _ _ (HSS.out _ hbb) (fun hHeld => ?_)
                clear hK K
                try simp only [Act.put, List.setIfInBounds_toArray, List.set_cons_zero, List.set_cons_succ]
                have hN0 : Blk (wd.alloc (.cells #[.int .i64 id, .int .i64 side, .int .i64 price, .int .i64 qty, .bool T] 89)) wd.heap.size 89 #[.int .i64 id, .int .i64 side, .int .i64 price, .int .i64 qty, .bool T] := Blk.new _ _ _
                have hz0 : (wd.alloc (.cells #[.int .i64 id, .int .i64 side, .int .i64 price, .int .i64 qty, .bool T] 89)).heap.size = wd.heap.size + 1 := by simp
                obtain ⟨gn, hgn⟩ : ∃ gn, wd.heap.size = gn := ⟨_, rfl⟩
                have HGN : Hid (wd.heap.size = gn) := Lib.hid hgn
                rw [hgn] at hN0 hz0 ⊢
                clear hgn
                generalize wd.alloc (.cells #[.int .i64 id, .int .i64 side, .int .i64 price, .int .i64 qty, .bool T] 89) = wc at *
                have HN := Lib.hid hN0
                have HBwc := Lib.hid hbb
                have HZwc := Lib.hid hz0
                clear hba hbb hN0 hz0
                refine wpE_one (i := 1) (o := ?o23) ?ho23 (by kernel_rfl) (fun K hK => ?_)
                case ho23 => (simp only [List.getElem?_toArray]; rfl)
                go_simp
                have hba := Below.allocN wc (.cells #[] 89)
                have hbb := HBwc.out.trans (hba.mono HBwc.out.size)
                refine hK.out _ _ (HSS.out _ hbb) (fun hHeld => ?_)
                clear hK K
                have hE0 : ROD.Row (wc.alloc (.cells #[] 89)) wc.heap.size (.slice (some ⟨wc.heap.size, 0, none⟩) 0 0) [] := Lay.Row.empty wc
                have hz0 : (wc.alloc (.cells #[] 89)).heap.size = wc.heap.size + 1 := by simp
                obtain ⟨ge, hge⟩ : ∃ ge, wc.heap.size = ge := ⟨_, rfl⟩
                have HGE : Hid (wc.heap.size = ge) := Lib.hid hge
                rw [hge] at hE0 hz0 ⊢
                clear hge
                have hN2 := HN.out.below hba
                generalize wc.alloc (.cells #[] 89) = we at *
                have HE := Lib.hid hE0
                have HBwe := Lib.hid hbb
                have HZwe := Lib.hid hz0
                clear hba hbb hE0 hz0
                replace HN := Lib.hid hN2
                clear hN2
                replace HE := Lib.hid (HE.out.base (show wd.heap.size ≤ ge by have h1 := HGE.out; have h2 := HBwc.out.size; omega))
                refine wpE_one (i := 5) (o := ?o24) ?ho24 (by kernel_rfl) (fun K hK => ?_)
                case ho24 => (simp only [List.getElem?_toArray]; rfl)
                refine ROD.steps (by rfl) (.tmp 131) (.tmp 134) (by rfl) wd.heap.size ge 0 0 k [] rfl (by rfl) HE.out gl 0 cap (L1.take k) HTK.out (by rfl) ((HRd.out.rd_some.below HBwe.out).take k) k (by omega) (by omega) HBwe.out.size ?_
                intro g1 cap1 wf hrf hgf hof
                try rw [List.nil_append] at hrf
                have hbf := grown_below hgf HBwe.out (own_base HE.out)
                have HF := Lib.hid hrf
                have HBwf := Lib.hid hbf
                have HGF := Lib.hid (grown_keeps hgf)
                refine hK.out _ _ (HSS.out _ hbf) (fun hHeld => ?_)
                clear hK K hrf hbf hgf hof
                try simp only [Act.put, List.setIfInBounds_toArray, List.set_cons_zero, List.set_cons_succ]
                have hN1 := HN.out.keeps HGF.out (fun hy => by have h0 : some ge = some gn := hy; injection h0 with h0; have h1 := HGE.out; have h2 := HZwc.out; have h3 := HGN.out; omega)
                replace HN := Lib.hid hN1
                clear hN1
                refine wpE_one (i := 8) (o := ?o25) ?ho25 (by kernel_rfl) (fun K hK => ?_)
                case ho25 => (simp only [List.getElem?_toArray]; rfl)
                refine ROD.steps (by rfl) (.tmp 135) (.tmp 137) (by rfl) wd.heap.size g1 cap1 k 1 (L1.take k) HTK.out (by rfl) HF.out gn 0 1 [(⟨id, side, price, qty, T⟩ : Od)] rfl (by rfl) (CellsAt.rd HN.out.lt (Blk.cellsAt HN.out)) (k + 1) rfl (by omega) HBwf.out.size ?_
                intro g2 cap2 wg hrg hgg hog
                have hbg := grown_below hgg HBwf.out (own_base HF.out)
                have HG := Lib.hid hrg
                have HBwg := Lib.hid hbg
                refine hK.out _ _ (HSS.out _ hbg) (fun hHeld => ?_)
                clear hK K hrg hbg hgg hog
                try simp only [Act.put, List.setIfInBounds_toArray, List.set_cons_zero, List.set_cons_succ]
                refine wpE_one (i := 12) (o := ?o26) ?ho26 (by kernel_rfl) (fun K hK => ?_)
                case ho26 => (simp only [List.getElem?_toArray]; rfl)
                refine ROD.steps (by rfl) (.tmp 138) (.tmp 141) (by rfl) wd.heap.size g2 cap2 (k + 1) (L.length - k) (L1.take k ++ [(⟨id, side, price, qty, T⟩ : Od)]) HTK1.out (by rfl) HG.out gl off2 (cap - k) (L1.drop k) HDK.out (by rfl) (HRDD.out _ HBwg.out) (L.length + 1) (by omega) (by omega) HBwg.out.size ?_
                intro g3 cap3 wh hrh hgh hoh
                have hbh := grown_below hgh HBwg.out (own_base HG.out)
                have hg3 : wd.heap.size ≤ g3 := own_base hrh g3 rfl
                have HH3 := Lib.hid hrh
                have HBwh := Lib.hid hbh
                have HG3 := Lib.hid hg3
                have hpw := HPW.out.below hbh
                have HPW3 := Lib.hid hpw
                have bxp : wh.cell? ⟨pw, 0, none⟩ = some (.slice a L.length c) := hpw.cell 0
                have fzp : ∀ o, wh.frozen? ⟨pw, o, none⟩ = false := fun o => HPW3.out.frozen o
                refine hK.out _ _ (HSS.out _ hbh) (fun hHeld => ?_)
                clear hK K hrh hbh hgh hoh hpw hg3
                try simp only [Act.put, List.setIfInBounds_toArray, List.set_cons_zero, List.set_cons_succ]
                refine wpE_take (i := 13) (oi := ?oi15) (v := ?v15) ?hi15 (by kernel_rfl) (by kernel_rfl) (by kernel_rfl) (by kernel_rfl) ?hQ15 ?hy15 (by assumption) ?rest15
                case hi15 => (simp only [List.getElem?_toArray]; rfl)
                case hQ15 => exact fun _ _ _ h => h
                case hy15 => exact Or.inl ⟨by rfl, by (intro w hSw; (try dsimp only at hSw); go_simp; try with_reducible rfl)⟩
                try simp only [Act.put, List.setIfInBounds_toArray, List.set_cons_zero, List.set_cons_succ]
                refine wpE_take (i := 14) (oi := ?oi16) (v := ?v16) ?hi16 (by kernel_rfl) (by kernel_rfl) (by kernel_rfl) (by kernel_rfl) ?hQ16 ?hy16 (by assumption) ?rest16
                case hi16 => (simp only [List.getElem?_toArray]; rfl)
                case hQ16 => exact fun _ _ _ h => h
                case hy16 => exact Or.inl ⟨by rfl, by (intro w hSw; (try dsimp only at hSw); go_simp; try with_reducible rfl)⟩
                try simp only [Act.put, List.setIfInBounds_toArray, List.set_cons_zero, List.set_cons_succ]
                refine wpE_last (i := 15) (o := ?o29) ?ho29 (by kernel_rfl) (by kernel_rfl) (by kernel_rfl) (fun K hK => ?_)
                case ho29 => (simp only [List.getElem?_toArray]; rfl)
                go_simp
                refine hK.out _ _ ?_
                clear hK K hHeld bxp fzp
                have hrb : RB W (wh.setCell ⟨pw, 0, none⟩ (.slice (some ⟨g3, 0, none⟩) (L.length + 1) cap3)) pw (L1.take k ++ [(⟨id, side, price, qty, T⟩ : Od)] ++ L1.drop k) := by
                  have hWw : W.heap.size ≤ wd.heap.size := Nat.le_trans HH.out.bel.size HBd.out.size
                  refine ⟨⟨some ⟨g3, 0, none⟩, cap3, ?_, ?_⟩, HH.out.base, ?_⟩
                  · rw [HLN.out]; exact HPW3.out.set_ 0 _
                  · rw [HLN.out]
                    have hof : ROD.Row (wh.setCell ⟨pw, 0, none⟩ (.slice (some ⟨g3, 0, none⟩) (L.length + 1) cap3)) wd.heap.size (.slice (some ⟨g3, 0, none⟩) (L.length + 1) cap3) (L1.take k ++ [(⟨id, side, price, qty, T⟩ : Od)] ++ L1.drop k) := own_far HH3.out (p := ⟨pw, 0, none⟩) (fun hy => by have h0 : some g3 = some pw := hy; injection h0 with h0; have h1 := HPL2.out; have h2 := HG3.out; omega) _
                    exact hof.base hWw
                  · exact ((HH.out.bel.trans (HBd.out.mono HH.out.bel.size)).trans (HBwh.out.mono hWw)).setCell (p := ⟨pw, 0, none⟩) HH.out.base _
                have hkp : Keeps (fun g => g = pw) w (wh.setCell ⟨pw, 0, none⟩ (.slice (some ⟨g3, 0, none⟩) (L.length + 1) cap3)) :=
                  (Below.keeps (F := fun g => g = pw) (HBd.out.trans (HBwh.out.mono HBd.out.size))).setCell (p := ⟨pw, 0, none⟩) (fun _ => rfl) _
                have HRB := Lib.hid hrb
                have HKP := Lib.hid hkp
                clear hrb hkp
                go_wp2_with fail
                go_ret
                exact ⟨by trivial, by rw [HRR.out, ← HL1.out, HPOS.out, HTT.out]; exact HRB.out, HKP.out⟩
end
end Go.Proofs.Ytmhljdkhekjfmaa
