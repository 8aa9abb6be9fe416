/- Merged: InsM Ins2M. -/
import Derived.Test.YtmaijkoopjocdaaGA
/- The walk of slices.Insert at api.Msg. -/
namespace Go.Proofs.Ytmaijkoopjocdaa
open Go.RowKit
theorem info_rungM : (Try.prog.info? 34).map (fun i => (i.zero, i.size, i.bytes)) = some (some (.agg #[.int .i64 0, .int .i64 0, .int .i64 0, .int .i64 0, .int .i64 0, .int .i64 0, .bool false]), 7, 56) := MSG.info
theorem run_copy9M {w : World} {g gs o os : Nat} {cur : Array Value} (hb : Blk w g 34 cur) (dn dc sn sc : Nat) (L : List Mg) (hn : L.length = Nat.min sn dn)
  (hsrc : ∀ j v, (L.flatMap Mg.cells)[j]? = some v → w.cell? ⟨gs, os + j, none⟩ = some v) (hfit : o + (L.flatMap Mg.cells).length ≤ cur.size) (ty : TypeId) :
  (Builtin.copy_ #[51, 51] ty #[.slice (some ⟨g, o, none⟩) dn dc, .slice (some ⟨gs, os, none⟩) sn sc]).run Try.prog w = .ok (.int .i64 L.length) (w.setRow g (cur.toList.take o ++ L.flatMap Mg.cells ++ cur.toList.drop (o + (L.flatMap Mg.cells).length)).toArray) := by
 have hl := run_loadCells_list (P := Try.prog) w ⟨gs, os, none⟩ (L.flatMap Mg.cells) (fun j v hj => by rw [add_at]; exact hsrc j v hj)
 have hst := run_storeCells_at Try.prog g o 34 (L.flatMap Mg.cells) 0 cur w hb (by simpa using hfit) (MSG.ones L)
 rw [fm_length Mg.cells 7 (fun _ => rfl)] at hl
 obtain ⟨i0, hi, hz0, hz1, hz2⟩ := info_parts info_rungM
 have hu : Try.prog.underlying 51 = some (.slice 34) := Try.underlying51
 simp only [Nat.add_zero] at hst
 simp [Builtin.copy_, run_underlying hu, Builtin.lenOf, Builtin.firstCells, sizeOf, typeInfo, hi, hz1, ← hn, hl, hst, goInt]
/-- slices.overlaps of two blocks -/
theorem run_overM {w : World} {gv g : Nat} {xs cur : Array Value} (hv : Blk w gv 34 xs) (hg : Blk w g 34 cur) (hne : gv ≠ g) (h0 : cur.size ≠ 0) (o vn vc ln lc : Nat) :
  (callFunc 54 #[.slice (some ⟨gv, 0, none⟩) vn vc, .slice (some ⟨g, o, none⟩) ln lc]).run Try.prog w = .ok (.value (.bool false)) w := by
 obtain ⟨i0, hi, hz0, hz1, hz2⟩ := info_parts info_rungM
 have hz : ∀ w : World, (Go.sizeOf 34).run Try.prog w = .ok 7 w := fun w => by simp [sizeOf, typeInfo, hi, hz1]
 rw [run_callFunc_extern Try.func54 (by kernel_rfl) (by kernel_rfl) (by kernel_rfl) (e := Extern.SlicesOverlaps.overlaps #[51, 51] #[4]) (by kernel_rfl),
  Lib.run_overlaps_apart w 51 4 34 Try.underlying51 7 hz ⟨gv, 0, none⟩ ⟨g, o, none⟩ vn vc ln lc hne 34 34 xs.size cur.size ?_ ?_ h0 (hv.frozen 0) (hv.frozen _)]
 ·rfl
 ·have hv' : w.heap[gv]? = some (.cells xs 34 (0, 0)) := hv
  simp [World.shape?, hv']
 ·have hg' : w.heap[g]? = some (.cells cur 34 (0, 0)) := hg
  simp [World.shape?, hg']

/-- what an insertion leaves -/
def InsOutM (w : World) (B : Nat) (s : Value) (R : List Mg) (i : Nat) (x : Mg) (v' : Value) (w' : World) : Prop :=
 MSG.Row w' B v' (R.take i ++ [x] ++ R.drop i) ∧ Keeps (fun g => s.ownBlock = some g) w w' ∧ (v'.ownBlock = s.ownBlock ∨ ∃ g, v'.ownBlock = some g ∧ w.heap.size ≤ g)
theorem fm_takeM {R : List Mg} {i : Nat} (hi : i ≤ R.length) : (R.flatMap Mg.cells).take (i * 7) = (R.take i).flatMap Mg.cells := by
 have e : R = R.take i ++ R.drop i := (List.take_append_drop i R).symm
 have hl : ((R.take i).flatMap Mg.cells).length = i * 7 := by rw [fm_length Mg.cells 7 (fun _ => rfl), List.length_take, Nat.min_eq_left hi]
 conv => lhs; rw [e, List.flatMap_append]
 rw [List.take_append_of_le_length (by omega), List.take_of_length_le (by omega)]
theorem fm_dlenM (R : List Mg) (i : Nat) : ((R.drop i).flatMap Mg.cells).length = (R.length - i) * 7 := by rw [fm_length Mg.cells 7 (fun _ => rfl), List.length_drop]
theorem fm_dgetM {R : List Mg} {i : Nat} (hi : i ≤ R.length) (j : Nat) : ((R.drop i).flatMap Mg.cells)[j]? = (R.flatMap Mg.cells)[i * 7 + j]? := by
 have e : R = R.take i ++ R.drop i := (List.take_append_drop i R).symm
 have hl : ((R.take i).flatMap Mg.cells).length = i * 7 := by rw [fm_length Mg.cells 7 (fun _ => rfl), List.length_take, Nat.min_eq_left hi]
 conv => rhs; rw [e, List.flatMap_append]
 rw [List.getElem?_append_right (by omega), hl, Nat.add_sub_cancel_left]
set_option maxRecDepth 100000 in
set_option maxHeartbeats 8000000 in
theorem insert_roomM {w : World} {B g gv n c i : Nat} {cur : Array Value} {R : List Mg} {x : Mg} (hb : Blk w g 34 cur) (hn : R.length = n) (hc : cur.size = c * 7) (ht : cur.toList.take (n * 7) = R.flatMap Mg.cells) (hBg : B ≤ g) (hcm : c ≤ maxLen)
  (hi : i < n) (hroom : n + 1 ≤ c) (hv : Blk w gv 34 x.cells.toArray) (hne : gv ≠ g) (hl : n ≤ 900000) :
  Calls Try.prog 26 #[.slice (some ⟨g, 0, none⟩) n c, .int .i64 i, .slice (some ⟨gv, 0, none⟩) 1 1] w fun e w' => e = .returned (.slice (some ⟨g, 0, none⟩) (n + 1) c) ∧ MSG.Row w' B (.slice (some ⟨g, 0, none⟩) (n + 1) c) (R.take i ++ [x] ++ R.drop i) ∧ Keeps (fun k => k = g) w w' := by
 have hcl : cur.toList.length = c * 7 := by rw [Array.length_toList, hc]
 have hdl := fm_dlenM R i
 rw [hn] at hdl
 have hX : ([x].flatMap Mg.cells).length = 7 := rfl
 have hD : (R.drop i).length = n - i := by rw [List.length_drop, hn]
 have hcur0 : cur.size ≠ 0 := by omega
 have hov := fun (o vn vc ln lc : Nat) => run_overM hv.drew hb.drew hne hcur0 o vn vc ln lc
 have hov0 := fun (o vn vc ln lc : Nat) => run_overM hv hb hne hcur0 o vn vc ln lc
 have hget : ∀ j v, ((R.drop i).flatMap Mg.cells)[j]? = some v → w.cell? ⟨g, i * 7 + j, none⟩ = some v := by
  intro j v hj
  rw [hb.cell, ← Array.getElem?_toList]
  rw [fm_dgetM (by omega), ← ht, List.getElem?_take] at hj
  split at hj
  ·exact hj
  ·cases hj
 have hcp1 := fun (ty : TypeId) (dc sc : Nat) => run_copy9M (w := w.drew) (g := g) (gs := g) (o := (i + 1) * 7) (os := i * 7) hb.drew (n - i) dc (n + 1 - i) sc (R.drop i) (by rw [hD]; simp only [Nat.min_def]; split <;> omega) hget (by rw [hdl]; omega) ty
 have hb1 : Blk (w.drew.setRow g (cur.toList.take ((i + 1) * 7) ++ (R.drop i).flatMap Mg.cells ++ cur.toList.drop ((i + 1) * 7 + ((R.drop i).flatMap Mg.cells).length)).toArray) g 34 (cur.toList.take ((i + 1) * 7) ++ (R.drop i).flatMap Mg.cells ++ cur.toList.drop ((i + 1) * 7 + ((R.drop i).flatMap Mg.cells).length)).toArray := hb.drew.row _
 have hk1 : Keeps (fun k => k = g) w (w.drew.setRow g (cur.toList.take ((i + 1) * 7) ++ (R.drop i).flatMap Mg.cells ++ cur.toList.drop ((i + 1) * 7 + ((R.drop i).flatMap Mg.cells).length)).toArray) := (Below.keeps (Below.drewN_of w 1)).trans (keeps_row _ _ _)
 have hfin := ins_a (P := (R.take i).flatMap Mg.cells) (X := [x].flatMap Mg.cells) (D := (R.drop i).flatMap Mg.cells) (cur := cur.toList) (a := i * 7) (by
  rw [← fm_takeM (by omega), ← ht, List.take_take, Nat.min_eq_left (by omega)]) (by rw [hX, hdl, hcl]; omega)
 rw [hX, show i * 7 + 7 = (i + 1) * 7 by omega] at hfin
 generalize hcu1 : cur.toList.take ((i + 1) * 7) ++ (R.drop i).flatMap Mg.cells ++ cur.toList.drop ((i + 1) * 7 + ((R.drop i).flatMap Mg.cells).length) = cu1 at *
 have hcl1 : cu1.length = c * 7 := by
  rw [← hcu1, List.length_append, List.length_append, List.length_take, List.length_drop, hdl, hcl]; omega
 clear hcu1
 generalize hw1 : w.drew.setRow g cu1.toArray = w1 at *
 have hv1 : Blk w1 gv 34 x.cells.toArray := hv.keeps hk1 hne
 have hcp2 := fun (ty : TypeId) (dc sc : Nat) => run_copy9M (w := w1) (g := g) (gs := gv) (o := i * 7) (os := 0) hb1 (n + 1 - i) dc 1 sc [x] (by simp only [Nat.min_def, List.length_singleton]; split <;> omega) (fun j v hj => by
  rw [Nat.zero_add, hv1.cell]
  simpa using hj) (by rw [hX, List.size_toArray, hcl1]; omega) ty
 rw [List.toList_toArray] at hcp2
 have hb2 := hb1.row (cu1.take (i * 7) ++ [x].flatMap Mg.cells ++ cu1.drop (i * 7 + ([x].flatMap Mg.cells).length)).toArray
 have hk2 := hk1.trans (keeps_row w1 g (cu1.take (i * 7) ++ [x].flatMap Mg.cells ++ cu1.drop (i * 7 + ([x].flatMap Mg.cells).length)).toArray)
 have e2 : i * 7 + ([x].flatMap Mg.cells).length = (i + 1) * 7 := by rw [hX]; omega
 rw [e2, hfin] at hb2 hk2
 replace hcp2 := fun ty dc sc => by
  have h := hcp2 ty dc sc
  rw [e2, hfin] at h
  exact h
 generalize hcu2 : (R.take i).flatMap Mg.cells ++ [x].flatMap Mg.cells ++ (R.drop i).flatMap Mg.cells ++ cur.toList.drop ((i + 1) * 7 + ((R.drop i).flatMap Mg.cells).length) = cu2 at *
 generalize hw2 : w1.setRow g cu2.toArray = w2 at *
 have HCU2 := Lib.hid hcu2
 have HCP1 := Lib.hid hcp1
 have HCP2 := Lib.hid hcp2
 have HB2 := Lib.hid hb2
 have HK2 := Lib.hid hk2
 have HOV := Lib.hid hov0
 have hw := hcm
 unfold maxLen at hw
 have q1 : ¬ (c = i) := by omega
 have q2 : ¬ (c = i + 1) := by omega
 have y1 : IntKind.i64.wrap ((n : Int) + 1) = (n : Int) + 1 := IntWalk.i64_in _ (by omega)
 have y2 : IntKind.i64.wrap ((i : Int) + 1) = (i : Int) + 1 := IntWalk.i64_in _ (by omega)
 have z1 : (0 : Int) ≤ (i : Int) + 1 := by omega
 have z2 : i ≤ n := by omega
 have z3 : i ≤ n + 1 := by omega
 have z4 : (i : Int) ≤ (n : Int) + 1 := by omega
 clear hw2 hcu2 hcp1 hcp2 hb2 hk2 hov hov0 hb1 hk1 hv1 hget hfin
 have hov2 := HOV.out
 go_enter Try.func26, Try.ntmps26
 go_wp2_with (simp only [hov2])
 have hcp1 := HCP1.out
 refine wp_region_E (S := fun _ => True) (by kernel_rfl) True.intro (fun hHeld => ?_)
 refine wpE_tk 0 (oi := ?o1) (v := ?v1) ?h1 (by kernel_rfl) ?q1 ?y1 (by assumption) ?_
 case h1 => (simp only [List.getElem?_toArray]; rfl)
 case q1 => exact fun _ _ _ h => h
 case y1 => exact Or.inl ⟨by rfl, by (intro w hSw; (try dsimp only at hSw); go_simp; try with_reducible rfl)⟩
 try simp only [Act.put, sA, sB, sC]
 refine wpE_tk 1 (oi := ?o2) (v := ?v2) ?h2 (by kernel_rfl) ?q2 ?y2 (by assumption) ?_
 case h2 => (simp only [List.getElem?_toArray]; rfl)
 case q2 => exact fun _ _ _ h => h
 case y2 => exact Or.inl ⟨by rfl, by (intro w hSw; (try dsimp only at hSw); go_simp; try with_reducible rfl)⟩
 try simp only [Act.put, sA, sB, sC]
 refine wpE_tk 2 (oi := ?o3) (v := ?v3) ?h3 (by kernel_rfl) ?q3 ?y3 (by assumption) ?_
 case h3 => (simp only [List.getElem?_toArray]; rfl)
 case q3 => exact fun _ _ _ h => h
 case y3 => exact Or.inl ⟨by rfl, by (intro w hSw; (try dsimp only at hSw); go_simp; try with_reducible rfl)⟩
 try simp only [Act.put, sA, sB, sC]
 refine wpE_tk 3 (oi := ?o4) (v := ?v4) ?h4 (by kernel_rfl) ?q4 ?y4 (by assumption) ?_
 case h4 => (simp only [List.getElem?_toArray]; rfl)
 case q4 => exact fun _ _ _ h => h
 case y4 => exact Or.inl ⟨by rfl, by (intro w hSw; (try dsimp only at hSw); go_simp; try with_reducible rfl)⟩
 try simp only [Act.put, sA, sB, sC]
 refine wpE_tk 4 (oi := ?o5) (v := ?v5) ?h5 (by kernel_rfl) ?q5 ?y5 (by assumption) ?_
 case h5 => (simp only [List.getElem?_toArray]; rfl)
 case q5 => exact fun _ _ _ h => h
 case y5 => exact Or.inl ⟨by rfl, by (intro w hSw; (try dsimp only at hSw); go_simp; try with_reducible rfl)⟩
 try simp only [Act.put, sA, sB, sC]
 refine wpE_tk 5 (oi := ?o6) (v := ?v6) ?h6 (by kernel_rfl) ?q6 ?y6 (by assumption) ?_
 case h6 => (simp only [List.getElem?_toArray]; rfl)
 case q6 => exact fun _ _ _ h => h
 case y6 => exact Or.inl ⟨by rfl, by (intro w hSw; (try dsimp only at hSw); go_simp; try with_reducible rfl)⟩
 try simp only [Act.put, sA, sB, sC]
 refine wpE_tk 6 (oi := ?o7) (v := ?v7) ?h7 (by kernel_rfl) ?q7 ?y7 (by assumption) ?_
 case h7 => (simp only [List.getElem?_toArray]; rfl)
 case q7 => exact fun _ _ _ h => h
 case y7 => exact Or.inl ⟨by rfl, by (intro w hSw; (try dsimp only at hSw); go_simp; try with_reducible rfl)⟩
 try simp only [Act.put, sA, sB, sC]
 refine wpE_tk 7 (oi := ?o8) (v := ?v8) ?h8 (by kernel_rfl) ?q8 ?y8 (by assumption) ?_
 case h8 => (simp only [List.getElem?_toArray]; rfl)
 case q8 => exact fun _ _ _ h => h
 case y8 => exact Or.inl ⟨by rfl, by (intro w hSw; (try dsimp only at hSw); go_simp; try with_reducible rfl)⟩
 try simp only [Act.put, sA, sB, sC]
 refine wpE_last (i := 8) (o := ?o17) ?ho17 (by kernel_rfl) (by kernel_rfl) (by kernel_rfl) (fun K hK => ?_)
 case ho17 => (simp only [List.getElem?_toArray]; rfl)
 go_simp
 refine hK.out _ _ ?_
 clear hK K hcp1 hHeld
 have hcp2 := HCP2.out
 go_wp2_with fail
 go_ret
 refine ⟨by trivial, ?_, HK2.out⟩
 have hlen : (R.take i ++ [x] ++ R.drop i).length = n + 1 := by
  rw [List.length_append, List.length_append, List.length_take, List.length_drop, List.length_singleton, hn]; omega
 have hfl : (R.take i ++ [x] ++ R.drop i).flatMap Mg.cells = (R.take i).flatMap Mg.cells ++ [x].flatMap Mg.cells ++ (R.drop i).flatMap Mg.cells := by rw [List.flatMap_append, List.flatMap_append]
 have hl3 : ((R.take i).flatMap Mg.cells ++ [x].flatMap Mg.cells ++ (R.drop i).flatMap Mg.cells).length = (n + 1) * 7 := by
  rw [← hfl, fm_length Mg.cells 7 (fun _ => rfl), hlen]
 refine ⟨by show ((R.take i ++ [x] ++ R.drop i).flatMap Mg.cells).length = _; rw [hfl, hl3, hlen]; rfl, .inr ⟨g, c, _, by rw [hlen], hBg, HB2.out, by rw [hlen]; exact hroom, hcm, ?_, ?_⟩⟩
 ·rw [← HCU2.out, List.size_toArray, List.length_append, hl3, List.length_drop, hdl, hcl]
  show _ = c * 7
  omega
 ·show List.take ((R.take i ++ [x] ++ R.drop i).length * 7) _ = (R.take i ++ [x] ++ R.drop i).flatMap Mg.cells
  rw [hlen, hfl, List.toList_toArray, ← HCU2.out, List.take_append_of_le_length (by rw [hl3]; exact Nat.le_refl _), List.take_of_length_le (by rw [hl3]; exact Nat.le_refl _)]

set_option maxRecDepth 100000 in
set_option maxHeartbeats 8000000 in
theorem insert_growM {w : World} {B g gv n i : Nat} {cur : Array Value} {R : List Mg} {x : Mg} (hb : Blk w g 34 cur) (hn : R.length = n) (hc : cur.size = n * 7) (ht : cur.toList.take (n * 7) = R.flatMap Mg.cells) (hB : B ≤ w.heap.size)
  (hi : i < n) (hv : Blk w gv 34 x.cells.toArray) (hl : n ≤ 900000) :
  Calls Try.prog 26 #[.slice (some ⟨g, 0, none⟩) n n, .int .i64 i, .slice (some ⟨gv, 0, none⟩) 1 1] w fun e w' => ∃ c', e = .returned (.slice (some ⟨w.heap.size, 0, none⟩) (n + 1) c') ∧ MSG.Row w' B (.slice (some ⟨w.heap.size, 0, none⟩) (n + 1) c') (R.take i ++ [x] ++ R.drop i) ∧ Keeps (fun _ => False) w w' := by
 have hcl : cur.toList.length = n * 7 := by rw [Array.length_toList, hc]
 have hdl := fm_dlenM R i
 rw [hn] at hdl
 have hX : ([x].flatMap Mg.cells).length = 7 := rfl
 have hD : (R.drop i).length = n - i := by rw [List.length_drop, hn]
 have hTl : ((R.take i).flatMap Mg.cells).length = i * 7 := by rw [fm_length Mg.cells 7 (fun _ => rfl), List.length_take]; omega
 have hget0 : ∀ (j : Nat) (v : Value), (R.flatMap Mg.cells)[j]? = some v → w.cell? ⟨g, j, none⟩ = some v := by
  intro j v hj
  rw [hb.cell, ← Array.getElem?_toList]
  rw [← ht, List.getElem?_take] at hj
  split at hj
  ·exact hj
  ·cases hj
 obtain ⟨i0, hi0, hz0, hz1, hz2⟩ := info_parts info_rungM
 obtain ⟨k, hk⟩ : ∃ k : Nat, n + 1 - i = k := ⟨_, rfl⟩
 have hik : i + k = n + 1 := by omega
 have hold : (Builtin.firstCells i0.size i (.slice (some ⟨g, 0, none⟩) i n)).run Try.prog w.drew = .ok ((R.take i).flatMap Mg.cells).toArray w.drew := by
  have h := run_loadCells_list (P := Try.prog) w.drew ⟨g, 0, none⟩ ((R.take i).flatMap Mg.cells) (fun j v hj => by
   rw [add_at, Nat.zero_add]
   have hj2 : j < i * 7 := by have := lt_of_get hj; omega
   rw [← fm_takeM (by omega), List.getElem?_take, if_pos hj2] at hj
   exact hget0 j v hj)
  rw [hTl] at h
  rw [hz1]
  simpa [Builtin.firstCells] using h
 have hap := fun ty => Lib.run_append_grow_zeros (P := Try.prog) w 51 3 ty 34 i0 _ .i64 .i64 Try.underlying51 Try.underlying3 hi0 hz0 (some ⟨g, 0, none⟩) i n ((R.take i).flatMap Mg.cells) hold k (by omega) (by rw [hz1]; omega) (by omega) (by omega) (by rw [hz2]; omega) (by rw [hz2, hik]; exact growslice_fits (by omega) (by omega))
 rw [hik] at hap
 have hcg := grownCap_ge w (n + 1) n 34
 have hcm := grownCap_le_maxLen w (n + 1) n 34 (by unfold maxLen; omega)
 generalize grownCap w (n + 1) n 34 = c' at *
 obtain ⟨cu0, hcu0⟩ : ∃ cu0, ((R.take i).flatMap Mg.cells).toArray ++ Builtin.zeroCells (Value.agg #[.int .i64 0, .int .i64 0, .int .i64 0, .int .i64 0, .int .i64 0, .int .i64 0, .bool false]).cells k ++ Builtin.zeroCells (Value.agg #[.int .i64 0, .int .i64 0, .int .i64 0, .int .i64 0, .int .i64 0, .int .i64 0, .bool false]).cells (c' - (n + 1)) = cu0 := ⟨_, rfl⟩
 rw [hcu0] at hap
 have hs0 : cu0.size = c' * 7 := by
  rw [← hcu0, Array.size_append, Array.size_append, List.size_toArray, hTl]
  simp [Builtin.zeroCells, Value.cells]
  omega
 have hcl0 : cu0.toList.length = c' * 7 := by rw [Array.length_toList, hs0]
 have ht0 : cu0.toList.take (i * 7) = (R.take i).flatMap Mg.cells := by
  rw [← hcu0, Array.toList_append, Array.toList_append, List.toList_toArray, List.append_assoc, List.take_append_of_le_length (by omega), List.take_of_length_le (by omega)]
 clear hcu0 hold hi0 hz0 hz1 hz2
 have hb1 : Blk (w.drew.alloc (.cells cu0 34)) w.heap.size 34 cu0 := Blk.new w.drew _ _
 have hk1 : Below w.heap.size w (w.drew.alloc (.cells cu0 34)) := (Below.drewN_of w 1).trans (Below.allocN w.drew _)
 generalize hw1 : w.drew.alloc (.cells cu0 34) = w1 at *
 have hv1 := hv.below hk1
 have hg1 := hb.below hk1
 have hcp2 := fun (ty : TypeId) (dc sc : Nat) => run_copy9M (w := w1) (g := w.heap.size) (gs := gv) (o := i * 7) (os := 0) hb1 k dc 1 sc [x] (by simp only [Nat.min_def, List.length_singleton]; split <;> omega) (fun j v hj => by
  rw [Nat.zero_add, hv1.cell]
  simpa using hj) (by rw [hX, hs0]; omega) ty
 have hb2 := hb1.row (cu0.toList.take (i * 7) ++ [x].flatMap Mg.cells ++ cu0.toList.drop (i * 7 + ([x].flatMap Mg.cells).length)).toArray
 have hk2 : Keeps (fun k => k = w.heap.size) w1 (w1.setRow w.heap.size (cu0.toList.take (i * 7) ++ [x].flatMap Mg.cells ++ cu0.toList.drop (i * 7 + ([x].flatMap Mg.cells).length)).toArray) := keeps_row _ _ _
 have hfin := ins_b (P := (R.take i).flatMap Mg.cells) (X := [x].flatMap Mg.cells) (D := (R.drop i).flatMap Mg.cells) (cur := cu0.toList) (a := i * 7) ht0 (by rw [hX, hdl, hcl0]; omega)
 generalize hcu1 : cu0.toList.take (i * 7) ++ [x].flatMap Mg.cells ++ cu0.toList.drop (i * 7 + ([x].flatMap Mg.cells).length) = cu1 at *
 have hcl1 : cu1.length = c' * 7 := by
  rw [← hcu1, List.length_append, List.length_append, List.length_take, List.length_drop, hX, hcl0]; omega
 clear hcu1
 generalize hw2 : w1.setRow w.heap.size cu1.toArray = w2 at *
 have hne : ¬ g = w.heap.size := Nat.ne_of_lt hb.lt
 have hg2 : Blk w2 g 34 cur := hg1.keeps hk2 hne
 have hb02 : Below w.heap.size w w2 := hk1.trans (hk2.below (fun g hg => by (have hg' : g = w.heap.size := hg); omega) hk1.size)
 have hcp3 := fun (ty : TypeId) (dc sc : Nat) => run_copy9M (w := w2.drew) (g := w.heap.size) (gs := g) (o := (i + 1) * 7) (os := i * 7) hb2.drew (n - i) dc (n - i) sc (R.drop i) (by rw [hD]; simp only [Nat.min_def]; split <;> omega) (fun j v hj => by
  rw [fm_dgetM (by omega)] at hj
  have h := hget0 _ v hj
  rw [hb.cell] at h
  rw [hg2.drew.cell]; exact h) (by rw [hdl, List.size_toArray, hcl1]; omega) ty
 rw [List.toList_toArray] at hcp3
 have hb3 := hb2.drew.row (cu1.take ((i + 1) * 7) ++ (R.drop i).flatMap Mg.cells ++ cu1.drop ((i + 1) * 7 + ((R.drop i).flatMap Mg.cells).length)).toArray
 have hk3 := keeps_row w2.drew w.heap.size (cu1.take ((i + 1) * 7) ++ (R.drop i).flatMap Mg.cells ++ cu1.drop ((i + 1) * 7 + ((R.drop i).flatMap Mg.cells).length)).toArray
 rw [hX, show i * 7 + 7 = (i + 1) * 7 by omega] at hfin
 rw [hfin] at hb3 hk3
 replace hcp3 := fun ty dc sc => by
  have h := hcp3 ty dc sc
  rw [hfin] at h
  exact h
 generalize hcu2 : (R.take i).flatMap Mg.cells ++ [x].flatMap Mg.cells ++ (R.drop i).flatMap Mg.cells ++ cu0.toList.drop ((i + 1) * 7 + ((R.drop i).flatMap Mg.cells).length) = cu2 at *
 have hbf : Below w.heap.size w (w2.drew.setRow w.heap.size cu2.toArray) := hb02.drew.trans (hk3.below (fun g hg => by (have hg' : g = w.heap.size := hg); omega) hb02.size)
 generalize hw3 : w2.drew.setRow w.heap.size cu2.toArray = w3 at *
 have HCU2 := Lib.hid hcu2
 have HAP := Lib.hid hap
 have HCP2 := Lib.hid hcp2
 have HCP3 := Lib.hid hcp3
 have HB3 := Lib.hid hb3
 have HBF := Lib.hid hbf
 have HHS := Lib.hid (Eq.refl w.heap.size)
 have hw := hcm
 unfold maxLen at hw
 have q1 : ¬ (c' = i) := by omega
 have q2 : ¬ (c' = i + 1) := by omega
 have q3 : ¬ (n = i) := by omega
 have y1 : IntKind.i64.wrap ((n : Int) + 1) = (n : Int) + 1 := IntWalk.i64_in _ (by omega)
 have y2 : IntKind.i64.wrap ((i : Int) + 1) = (i : Int) + 1 := IntWalk.i64_in _ (by omega)
 have y3 : IntKind.i64.wrap ((n : Int) + 1 - (i : Int)) = (k : Int) := by rw [show (n : Int) + 1 - (i : Int) = (k : Int) by omega]; exact IntWalk.i64_in _ (by omega)
 have z1 : (0 : Int) ≤ (i : Int) + 1 := by omega
 have z2 : i ≤ n := by omega
 have z3 : i ≤ n + 1 := by omega
 have z4 : (i : Int) ≤ (n : Int) + 1 := by omega
 clear hw1 hw2 hw3 hcu2 hap hcp2 hcp3 hb3 hbf hb1 hk1 hv1 hg1 hb2 hk2 hfin hg2 hb02 hk3 ht0
 go_enter Try.func26, Try.ntmps26
 go_upto_region 9 with (fail)
 have hcp2 := HCP2.out
 go_wp2_with (first
  | (at_builtin; refine Lib.wpList_append_run _ rfl _ _ _ _ rfl _ _ rfl rfl _ _ (HAP.out _) ?_))
 clear hcp2
 have hcp3 := HCP3.out
 refine wp_region_E (S := fun _ => True) (by kernel_rfl) True.intro (fun hHeld => ?_)
 refine wpE_tk 0 (oi := ?o9) (v := ?v9) ?h9 (by kernel_rfl) ?q9 ?y9 (by assumption) ?_
 case h9 => (simp only [List.getElem?_toArray]; rfl)
 case q9 => exact fun _ _ _ h => h
 case y9 => exact Or.inl ⟨by rfl, by (intro w hSw; (try dsimp only at hSw); go_simp; try with_reducible rfl)⟩
 try simp only [Act.put, sA, sB, sC]
 refine wpE_tk 1 (oi := ?o10) (v := ?v10) ?h10 (by kernel_rfl) ?q10 ?y10 (by assumption) ?_
 case h10 => (simp only [List.getElem?_toArray]; rfl)
 case q10 => exact fun _ _ _ h => h
 case y10 => exact Or.inl ⟨by rfl, by (intro w hSw; (try dsimp only at hSw); go_simp; try with_reducible rfl)⟩
 try simp only [Act.put, sA, sB, sC]
 refine wpE_tk 2 (oi := ?o11) (v := ?v11) ?h11 (by kernel_rfl) ?q11 ?y11 (by assumption) ?_
 case h11 => (simp only [List.getElem?_toArray]; rfl)
 case q11 => exact fun _ _ _ h => h
 case y11 => exact Or.inl ⟨by rfl, by (intro w hSw; (try dsimp only at hSw); go_simp; try with_reducible rfl)⟩
 try simp only [Act.put, sA, sB, sC]
 refine wpE_tk 3 (oi := ?o12) (v := ?v12) ?h12 (by kernel_rfl) ?q12 ?y12 (by assumption) ?_
 case h12 => (simp only [List.getElem?_toArray]; rfl)
 case q12 => exact fun _ _ _ h => h
 case y12 => exact Or.inl ⟨by rfl, by (intro w hSw; (try dsimp only at hSw); go_simp; try with_reducible rfl)⟩
 try simp only [Act.put, sA, sB, sC]
 refine wpE_tk 4 (oi := ?o13) (v := ?v13) ?h13 (by kernel_rfl) ?q13 ?y13 (by assumption) ?_
 case h13 => (simp only [List.getElem?_toArray]; rfl)
 case q13 => exact fun _ _ _ h => h
 case y13 => exact Or.inl ⟨by rfl, by (intro w hSw; (try dsimp only at hSw); go_simp; try with_reducible rfl)⟩
 try simp only [Act.put, sA, sB, sC]
 refine wpE_tk 5 (oi := ?o14) (v := ?v14) ?h14 (by kernel_rfl) ?q14 ?y14 (by assumption) ?_
 case h14 => (simp only [List.getElem?_toArray]; rfl)
 case q14 => exact fun _ _ _ h => h
 case y14 => exact Or.inl ⟨by rfl, by (intro w hSw; (try dsimp only at hSw); go_simp; try with_reducible rfl)⟩
 try simp only [Act.put, sA, sB, sC]
 refine wpE_tk 6 (oi := ?o15) (v := ?v15) ?h15 (by kernel_rfl) ?q15 ?y15 (by assumption) ?_
 case h15 => (simp only [List.getElem?_toArray]; rfl)
 case q15 => exact fun _ _ _ h => h
 case y15 => exact Or.inl ⟨by rfl, by (intro w hSw; (try dsimp only at hSw); go_simp; try with_reducible rfl)⟩
 try simp only [Act.put, sA, sB, sC]
 refine wpE_tk 7 (oi := ?o16) (v := ?v16) ?h16 (by kernel_rfl) ?q16 ?y16 (by assumption) ?_
 case h16 => (simp only [List.getElem?_toArray]; rfl)
 case q16 => exact fun _ _ _ h => h
 case y16 => exact Or.inl ⟨by rfl, by (intro w hSw; (try dsimp only at hSw); go_simp; try with_reducible rfl)⟩
 try simp only [Act.put, sA, sB, sC]
 refine wpE_last (i := 8) (o := ?o18) ?ho18 (by kernel_rfl) (by kernel_rfl) (by kernel_rfl) (fun K hK => ?_)
 case ho18 => (simp only [List.getElem?_toArray]; rfl)
 go_simp
 refine hK.out _ _ ?_
 clear hK K hcp3 hHeld
 go_wp2_with fail
 go_ret
 refine ⟨c', by trivial, ?_, (Below.keeps HBF.out)⟩
 have hlen : (R.take i ++ [x] ++ R.drop i).length = n + 1 := by
  rw [List.length_append, List.length_append, List.length_take, List.length_drop, List.length_singleton, hn]; omega
 have hfl : (R.take i ++ [x] ++ R.drop i).flatMap Mg.cells = (R.take i).flatMap Mg.cells ++ [x].flatMap Mg.cells ++ (R.drop i).flatMap Mg.cells := by rw [List.flatMap_append, List.flatMap_append]
 have hl3 : ((R.take i).flatMap Mg.cells ++ [x].flatMap Mg.cells ++ (R.drop i).flatMap Mg.cells).length = (n + 1) * 7 := by
  rw [← hfl, fm_length Mg.cells 7 (fun _ => rfl), hlen]
 refine ⟨by show ((R.take i ++ [x] ++ R.drop i).flatMap Mg.cells).length = _; rw [hfl, hl3, hlen]; rfl, .inr ⟨w.heap.size, c', _, by rw [hlen], hB, HB3.out, by rw [hlen]; exact hcg, hcm, ?_, ?_⟩⟩
 ·rw [← HCU2.out, List.size_toArray, List.length_append, hl3, List.length_drop, hdl, hcl0]
  show _ = c' * 7
  omega
 ·show List.take ((R.take i ++ [x] ++ R.drop i).length * 7) _ = (R.take i ++ [x] ++ R.drop i).flatMap Mg.cells
  rw [hlen, hfl, List.toList_toArray, ← HCU2.out, List.take_append_of_le_length (by rw [hl3]; exact Nat.le_refl _), List.take_of_length_le (by rw [hl3]; exact Nat.le_refl _)]
end Go.Proofs.Ytmaijkoopjocdaa

/- The walk of slices.Insert at api.Msg, whole. -/
namespace Go.Proofs.Ytmaijkoopjocdaa
open Go.RowKit

set_option maxRecDepth 100000 in
set_option maxHeartbeats 8000000 in
theorem insert_endM {w : World} {B gv : Nat} {s : Value} {R : List Mg} {x : Mg} (h : MSG.Row w B s R) (hv : Blk w gv 34 x.cells.toArray) (hB : B ≤ w.heap.size) (hl : R.length ≤ 900000) :
  Calls Try.prog 26 #[s, .int .i64 R.length, .slice (some ⟨gv, 0, none⟩) 1 1] w fun e w' => ∃ v', e = .returned v' ∧ MSG.Row w' B v' (R ++ [x]) ∧ Keeps (fun g => s.ownBlock = some g) w w' ∧ (v'.ownBlock = s.ownBlock ∨ v'.ownBlock = some w.heap.size) := by
 have HH := Lib.hid h
 have HV := Lib.hid hv
 rcases h.2 with ⟨hs, h0⟩ | ⟨g, c, cur, hs, hBg, hb, hnc, hcm, hcs, hct⟩
 ·subst hs
  rw [h0]
  clear h hv
  go_enter Try.func26, Try.ntmps26
  go_wp2_with (first
   | (at_builtin; go_loud (refine MSG.push rfl (.tmp 23) (.tmp 24) rfl B (.slice none 0 0) R rfl HH.out gv x rfl HV.out.lt HV.out.cellsAt (by omega) hB ?_)))
  intro v' w6 hr6 hg6 ho6
  have HR := Lib.hid hr6
  have HG := Lib.hid (grown_keeps hg6)
  have HO := Lib.hid ho6
  clear hr6 hg6 ho6
  go_wp2_with fail
  go_ret
  exact ⟨_, rfl, HR.out, HG.out.more (fun k hk => hk.symm ▸ rfl), HO.out⟩
 ·subst hs
  unfold maxLen at hcm
  have q1 : R.length ≤ c := hnc
  obtain ⟨n, hn⟩ : ∃ n, R.length = n := ⟨_, rfl⟩
  rw [hn] at q1 hl ⊢
  have HN := Lib.hid hn
  replace HH : Hid (MSG.Row w B (.slice (some ⟨g, 0, none⟩) n c) R) := Lib.hid (by rw [← hn]; exact HH.out)
  clear h hv hBg hb hnc hcs hct hn
  go_enter Try.func26, Try.ntmps26
  go_wp2_with (first
   | (at_builtin; go_loud (refine MSG.push rfl (.tmp 23) (.tmp 24) rfl B (.slice (some ⟨g, 0, none⟩) n c) R rfl HH.out gv x rfl HV.out.lt HV.out.cellsAt (by rw [HN.out]; omega) hB ?_)))
  all_goals (
   intro v' w6 hr6 hg6 ho6
   have HR := Lib.hid hr6
   have HG := Lib.hid (grown_keeps hg6)
   have HO := Lib.hid ho6
   clear hr6 hg6 ho6
   go_wp2_with fail
   go_ret
   exact ⟨_, rfl, HR.out, HG.out, HO.out⟩)
theorem insert_anyM {w : World} {B gv : Nat} {s : Value} {R : List Mg} {x : Mg} {i : Nat} (h : MSG.Row w B s R) (hi : i ≤ R.length) (hv : Blk w gv 34 x.cells.toArray) (hne : s.ownBlock ≠ some gv) (hB : B ≤ w.heap.size) (hl : R.length ≤ 900000) :
  Calls Try.prog 26 #[s, .int .i64 i, .slice (some ⟨gv, 0, none⟩) 1 1] w fun e w' => ∃ v', e = .returned v' ∧ MSG.Row w' B v' (R.take i ++ [x] ++ R.drop i) ∧ Keeps (fun g => s.ownBlock = some g) w w' ∧ (v'.ownBlock = s.ownBlock ∨ v'.ownBlock = some w.heap.size) := by
 by_cases hin : i = R.length
 ·subst hin
  refine (insert_endM h hv hB hl).mono ?_
  rintro e w' ⟨v', h1, h2, h3, h4⟩
  exact ⟨v', h1, by rw [List.take_length, List.drop_length, List.append_nil]; exact h2, h3, h4⟩
 ·have hin2 : i < R.length := by omega
  rcases h.2 with ⟨hs, h0⟩ | ⟨g, c, cur, hs, hBg, hb, hnc, hcm, hcs, hct⟩
  ·omega
  ·subst hs
   have hgv : gv ≠ g := by rintro rfl; exact hne rfl
   by_cases hroom : R.length + 1 ≤ c
   ·refine (insert_roomM hb rfl hcs hct hBg hcm hin2 hroom hv hgv hl).mono ?_
    rintro e w' ⟨h1, h2, h3⟩
    exact ⟨_, h1, h2, h3.more fun k hk => by rw [hk]; rfl, .inl rfl⟩
   ·obtain rfl : c = R.length := by omega
    refine (insert_growM hb rfl hcs hct hB hin2 hv hl).mono ?_
    rintro e w' ⟨c', h1, h2, h3⟩
    exact ⟨_, h1, h2, h3.more fun _ h => h.elim, .inr rfl⟩
end Go.Proofs.Ytmaijkoopjocdaa
