/- Merged: BIns BIns2 BIns3 BIns4 BDel BTn BMut BW1 BW2. -/
import Derived.Test.YtmhljdkhekjfmaaMC
import Derived.Shelf.Spec.SlicesInsert
import Derived.Lib.AppendZerosOnto
import Derived.Laws.CopyRow
import Derived.Deep.RegionLaw
/- slices.Insert at rungs. -/
namespace Go.Proofs.Ytmhljdkhekjfmaa
open Go.RowKit

/-! ### two copies into a row -/
theorem ins_a {α : Type} {P X D cur : List α} {a : Nat} (hP : cur.take a = P) (ha : a + X.length + D.length ≤ cur.length) :
    ((cur.take (a + X.length) ++ D ++ cur.drop (a + X.length + D.length)).take a ++ X ++ (cur.take (a + X.length) ++ D ++ cur.drop (a + X.length + D.length)).drop (a + X.length)) = P ++ X ++ D ++ cur.drop (a + X.length + D.length) := by
  have h1 : (cur.take (a + X.length)).length = a + X.length := by rw [List.length_take]; omega
  have e1 : (cur.take (a + X.length) ++ D ++ cur.drop (a + X.length + D.length)).take a = P := by
    rw [List.append_assoc, List.take_append_of_le_length (by omega), List.take_take, Nat.min_eq_left (by omega), hP]
  have e2 : (cur.take (a + X.length) ++ D ++ cur.drop (a + X.length + D.length)).drop (a + X.length) = D ++ cur.drop (a + X.length + D.length) := by
    rw [List.append_assoc, List.drop_append, List.drop_eq_nil_of_le (by omega), h1, Nat.sub_self, List.nil_append]; rfl
  rw [e1, e2]
  simp
theorem ins_b {α : Type} {P X D cur : List α} {a : Nat} (hP : cur.take a = P) (ha : a + X.length + D.length ≤ cur.length) :
    ((cur.take a ++ X ++ cur.drop (a + X.length)).take (a + X.length) ++ D ++ (cur.take a ++ X ++ cur.drop (a + X.length)).drop (a + X.length + D.length)) = P ++ X ++ D ++ cur.drop (a + X.length + D.length) := by
  have h1 : (cur.take a ++ X).length = a + X.length := by rw [List.length_append, List.length_take]; omega
  have e1 : (cur.take a ++ X ++ cur.drop (a + X.length)).take (a + X.length) = P ++ X := by
    rw [List.take_append_of_le_length (by omega), List.take_of_length_le (by omega), hP]
  have e2 : (cur.take a ++ X ++ cur.drop (a + X.length)).drop (a + X.length + D.length) = cur.drop (a + X.length + D.length) := by
    rw [List.drop_append, List.drop_eq_nil_of_le (by omega), List.nil_append, h1, List.drop_drop]
    congr 1; omega
  rw [e1, e2]
theorem keeps_row (w : World) (g : Nat) (cs : Array Value) : Keeps (fun k => k = g) w (w.setRow g cs) := ⟨rfl, rfl, rfl, by simp, fun k _ h => setRow_other w g k cs h⟩
theorem Blk.row {w : World} {g : Nat} {t : TypeId} {cs : Array Value} (h : Blk w g t cs) (cs' : Array Value) : Blk (w.setRow g cs') g t cs' := setRow_heap w g cs cs' t (0, 0) h
theorem info_rung : (Try.prog.info? 69).map (fun i => (i.zero, i.size, i.bytes)) = some (some (.agg #[.int .i64 0, .int .i64 0]), 2, 16) := RG.info
theorem run_copy9 {w : World} {g gs o os : Nat} {cur : Array Value} (hb : Blk w g 69 cur) (dn dc sn sc : Nat) (L : List Rg) (hn : L.length = Nat.min sn dn)
    (hsrc : ∀ j v, (L.flatMap Rg.cells)[j]? = some v → w.cell? ⟨gs, os + j, none⟩ = some v) (hfit : o + (L.flatMap Rg.cells).length ≤ cur.size) (ty : TypeId) :
    (Builtin.copy_ #[59, 59] ty #[.slice (some ⟨g, o, none⟩) dn dc, .slice (some ⟨gs, os, none⟩) sn sc]).run Try.prog w = .ok (.int .i64 L.length) (w.setRow g (cur.toList.take o ++ L.flatMap Rg.cells ++ cur.toList.drop (o + (L.flatMap Rg.cells).length)).toArray) := by
  have hl := run_loadCells_list (P := Try.prog) w ⟨gs, os, none⟩ (L.flatMap Rg.cells) (fun j v hj => by rw [add_at]; exact hsrc j v hj)
  have hst := run_storeCells_at Try.prog g o 69 (L.flatMap Rg.cells) 0 cur w hb (by simpa using hfit) (RG.ones L)
  rw [fm_length Rg.cells 2 (fun _ => rfl)] at hl
  obtain ⟨i0, hi, hz0, hz1, hz2⟩ := info_parts info_rung
  have hu : Try.prog.underlying 59 = some (.slice 69) := Try.underlying59
  simp only [Nat.add_zero] at hst
  simp [Builtin.copy_, run_underlying hu, Builtin.lenOf, Builtin.firstCells, sizeOf, typeInfo, hi, hz1, ← hn, hl, hst, goInt]
/-- slices.overlaps of two blocks -/
theorem run_over {w : World} {gv g : Nat} {xs cur : Array Value} (hv : Blk w gv 69 xs) (hg : Blk w g 69 cur) (hne : gv ≠ g) (h0 : cur.size ≠ 0) (o vn vc ln lc : Nat) :
    (callFunc 59 #[.slice (some ⟨gv, 0, none⟩) vn vc, .slice (some ⟨g, o, none⟩) ln lc]).run Try.prog w = .ok (.value (.bool false)) w := by
  obtain ⟨i0, hi, hz0, hz1, hz2⟩ := info_parts info_rung
  have hz : ∀ w : World, (Go.sizeOf 69).run Try.prog w = .ok 2 w := fun w => by simp [sizeOf, typeInfo, hi, hz1]
  rw [run_callFunc_extern Try.func59 (by kernel_rfl) (by kernel_rfl) (by kernel_rfl) (e := Extern.SlicesOverlaps.overlaps #[59, 59] #[4]) (by kernel_rfl),
    Lib.run_overlaps_apart w 59 4 69 Try.underlying59 2 hz ⟨gv, 0, none⟩ ⟨g, o, none⟩ vn vc ln lc hne 69 69 xs.size cur.size ?_ ?_ h0 (hv.frozen 0) (hv.frozen _)]
  · rfl
  · have hv' : w.heap[gv]? = some (.cells xs 69 (0, 0)) := hv
    simp [World.shape?, hv']
  · have hg' : w.heap[g]? = some (.cells cur 69 (0, 0)) := hg
    simp [World.shape?, hg']
end Go.Proofs.Ytmhljdkhekjfmaa

/- The walk of slices.Insert at rungs. -/
namespace Go.Proofs.Ytmhljdkhekjfmaa
open Go.RowKit

/-- what an insertion leaves -/
def InsOut (w : World) (B : Nat) (s : Value) (R : List Rg) (i : Nat) (x : Rg) (v' : Value) (w' : World) : Prop :=
  RG.Row w' B v' (R.take i ++ [x] ++ R.drop i) ∧ Keeps (fun g => s.ownBlock = some g) w w' ∧ (v'.ownBlock = s.ownBlock ∨ ∃ g, v'.ownBlock = some g ∧ w.heap.size ≤ g)
theorem fm_take {R : List Rg} {i : Nat} (hi : i ≤ R.length) : (R.flatMap Rg.cells).take (i * 2) = (R.take i).flatMap Rg.cells := by
  have e : R = R.take i ++ R.drop i := (List.take_append_drop i R).symm
  have hl : ((R.take i).flatMap Rg.cells).length = i * 2 := by rw [fm_length Rg.cells 2 (fun _ => rfl), List.length_take, Nat.min_eq_left hi]
  conv => lhs; rw [e, List.flatMap_append]
  rw [List.take_append_of_le_length (by omega), List.take_of_length_le (by omega)]
theorem fm_dlen (R : List Rg) (i : Nat) : ((R.drop i).flatMap Rg.cells).length = (R.length - i) * 2 := by rw [fm_length Rg.cells 2 (fun _ => rfl), List.length_drop]
theorem fm_dget {R : List Rg} {i : Nat} (hi : i ≤ R.length) (j : Nat) : ((R.drop i).flatMap Rg.cells)[j]? = (R.flatMap Rg.cells)[i * 2 + j]? := by
  have e : R = R.take i ++ R.drop i := (List.take_append_drop i R).symm
  have hl : ((R.take i).flatMap Rg.cells).length = i * 2 := by rw [fm_length Rg.cells 2 (fun _ => rfl), List.length_take, Nat.min_eq_left hi]
  conv => rhs; rw [e, List.flatMap_append]
  rw [List.getElem?_append_right (by omega), hl, Nat.add_sub_cancel_left]
set_option maxRecDepth 100000 in
set_option maxHeartbeats 8000000 in
theorem insert_room {w : World} {B g gv n c i : Nat} {cur : Array Value} {R : List Rg} {x : Rg} (hb : Blk w g 69 cur) (hn : R.length = n) (hc : cur.size = c * 2) (ht : cur.toList.take (n * 2) = R.flatMap Rg.cells) (hBg : B ≤ g) (hcm : c ≤ maxLen)
    (hi : i < n) (hroom : n + 1 ≤ c) (hv : Blk w gv 69 x.cells.toArray) (hne : gv ≠ g) (hl : n ≤ 1000) :
    Calls Try.prog 52 #[.slice (some ⟨g, 0, none⟩) n c, .int .i64 i, .slice (some ⟨gv, 0, none⟩) 1 1] w fun e w' => e = .returned (.slice (some ⟨g, 0, none⟩) (n + 1) c) ∧ RG.Row w' B (.slice (some ⟨g, 0, none⟩) (n + 1) c) (R.take i ++ [x] ++ R.drop i) ∧ Keeps (fun k => k = g) w w' := by
  have hcl : cur.toList.length = c * 2 := by rw [Array.length_toList, hc]
  have hdl := fm_dlen R i
  rw [hn] at hdl
  have hX : ([x].flatMap Rg.cells).length = 2 := rfl
  have hD : (R.drop i).length = n - i := by rw [List.length_drop, hn]
  have hcur0 : cur.size ≠ 0 := by omega
  have hov := fun (o vn vc ln lc : Nat) => run_over hv.drew hb.drew hne hcur0 o vn vc ln lc
  have hov0 := fun (o vn vc ln lc : Nat) => run_over hv hb hne hcur0 o vn vc ln lc
  have hget : ∀ j v, ((R.drop i).flatMap Rg.cells)[j]? = some v → w.cell? ⟨g, i * 2 + j, none⟩ = some v := by
    intro j v hj
    rw [hb.cell, ← Array.getElem?_toList]
    rw [fm_dget (by omega), ← ht, List.getElem?_take] at hj
    split at hj
    · exact hj
    · cases hj
  have hcp1 := fun (ty : TypeId) (dc sc : Nat) => run_copy9 (w := w.drew) (g := g) (gs := g) (o := (i + 1) * 2) (os := i * 2) hb.drew (n - i) dc (n + 1 - i) sc (R.drop i) (by rw [hD]; simp only [Nat.min_def]; split <;> omega) hget (by rw [hdl]; omega) ty
  have hb1 : Blk (w.drew.setRow g (cur.toList.take ((i + 1) * 2) ++ (R.drop i).flatMap Rg.cells ++ cur.toList.drop ((i + 1) * 2 + ((R.drop i).flatMap Rg.cells).length)).toArray) g 69 (cur.toList.take ((i + 1) * 2) ++ (R.drop i).flatMap Rg.cells ++ cur.toList.drop ((i + 1) * 2 + ((R.drop i).flatMap Rg.cells).length)).toArray := hb.drew.row _
  have hk1 : Keeps (fun k => k = g) w (w.drew.setRow g (cur.toList.take ((i + 1) * 2) ++ (R.drop i).flatMap Rg.cells ++ cur.toList.drop ((i + 1) * 2 + ((R.drop i).flatMap Rg.cells).length)).toArray) := (Below.keeps (Below.drewN_of w 1)).trans (keeps_row _ _ _)
  have hfin := ins_a (P := (R.take i).flatMap Rg.cells) (X := [x].flatMap Rg.cells) (D := (R.drop i).flatMap Rg.cells) (cur := cur.toList) (a := i * 2) (by
    rw [← fm_take (by omega), ← ht, List.take_take, Nat.min_eq_left (by omega)]) (by rw [hX, hdl, hcl]; omega)
  rw [hX, show i * 2 + 2 = (i + 1) * 2 by omega] at hfin
  generalize hcu1 : cur.toList.take ((i + 1) * 2) ++ (R.drop i).flatMap Rg.cells ++ cur.toList.drop ((i + 1) * 2 + ((R.drop i).flatMap Rg.cells).length) = cu1 at *
  have hcl1 : cu1.length = c * 2 := by
    rw [← hcu1, List.length_append, List.length_append, List.length_take, List.length_drop, hdl, hcl]; omega
  clear hcu1
  generalize hw1 : w.drew.setRow g cu1.toArray = w1 at *
  have hv1 : Blk w1 gv 69 x.cells.toArray := hv.keeps hk1 hne
  have hcp2 := fun (ty : TypeId) (dc sc : Nat) => run_copy9 (w := w1) (g := g) (gs := gv) (o := i * 2) (os := 0) hb1 (n + 1 - i) dc 1 sc [x] (by simp only [Nat.min_def, List.length_singleton]; split <;> omega) (fun j v hj => by
    rw [Nat.zero_add, hv1.cell]
    simpa using hj) (by rw [hX, List.size_toArray, hcl1]; omega) ty
  rw [List.toList_toArray] at hcp2
  have hb2 := hb1.row (cu1.take (i * 2) ++ [x].flatMap Rg.cells ++ cu1.drop (i * 2 + ([x].flatMap Rg.cells).length)).toArray
  have hk2 := hk1.trans (keeps_row w1 g (cu1.take (i * 2) ++ [x].flatMap Rg.cells ++ cu1.drop (i * 2 + ([x].flatMap Rg.cells).length)).toArray)
  have e2 : i * 2 + ([x].flatMap Rg.cells).length = (i + 1) * 2 := by rw [hX]; omega
  rw [e2, hfin] at hb2 hk2
  replace hcp2 := fun ty dc sc => by
    have h := hcp2 ty dc sc
    rw [e2, hfin] at h
    exact h
  generalize hcu2 : (R.take i).flatMap Rg.cells ++ [x].flatMap Rg.cells ++ (R.drop i).flatMap Rg.cells ++ cur.toList.drop ((i + 1) * 2 + ((R.drop i).flatMap Rg.cells).length) = cu2 at *
  generalize hw2 : w1.setRow g cu2.toArray = w2 at *
  have HCU2 := Lib.hid hcu2
  have HCP1 := Lib.hid hcp1
  have HCP2 := Lib.hid hcp2
  have HB2 := Lib.hid hb2
  have HK2 := Lib.hid hk2
  have HOV := Lib.hid hov0
  have hw := hcm
  unfold maxLen at hw
  have q1 : ¬ (c = i) := by omega
  have q2 : ¬ (c = i + 1) := by omega
  have y1 : IntKind.i64.wrap ((n : Int) + 1) = (n : Int) + 1 := IntWalk.i64_in _ (by omega)
  have y2 : IntKind.i64.wrap ((i : Int) + 1) = (i : Int) + 1 := IntWalk.i64_in _ (by omega)
  have z1 : (0 : Int) ≤ (i : Int) + 1 := by omega
  have z2 : i ≤ n := by omega
  have z3 : i ≤ n + 1 := by omega
  have z4 : (i : Int) ≤ (n : Int) + 1 := by omega
  clear hw2 hcu2 hcp1 hcp2 hb2 hk2 hov hov0 hb1 hk1 hv1 hget hfin
  have hov2 := HOV.out
  go_enter Try.func52, Try.ntmps52
  go_wp2_with (simp only [hov2])
  have hcp1 := HCP1.out
  refine wp_region_E (S := fun _ => True) (by kernel_rfl) True.intro (fun hHeld => ?_)
  refine wpE_take (i := 0) (oi := ?oi1) (v := ?v1) ?hi1 (by kernel_rfl) (by kernel_rfl) (by kernel_rfl) (by kernel_rfl) ?hQ1 ?hy1 (by assumption) ?rest1
  case hi1 => (simp only [List.getElem?_toArray]; rfl)
  case hQ1 => exact fun _ _ _ h => h
  case hy1 => exact Or.inl ⟨by rfl, by (intro w hSw; (try dsimp only at hSw); go_simp; try with_reducible rfl)⟩
  try simp only [Act.put, List.setIfInBounds_toArray, List.set_cons_zero, List.set_cons_succ]
  refine wpE_take (i := 1) (oi := ?oi2) (v := ?v2) ?hi2 (by kernel_rfl) (by kernel_rfl) (by kernel_rfl) (by kernel_rfl) ?hQ2 ?hy2 (by assumption) ?rest2
  case hi2 => (simp only [List.getElem?_toArray]; rfl)
  case hQ2 => exact fun _ _ _ h => h
  case hy2 => exact Or.inl ⟨by rfl, by (intro w hSw; (try dsimp only at hSw); go_simp; try with_reducible rfl)⟩
  try simp only [Act.put, List.setIfInBounds_toArray, List.set_cons_zero, List.set_cons_succ]
  refine wpE_take (i := 2) (oi := ?oi3) (v := ?v3) ?hi3 (by kernel_rfl) (by kernel_rfl) (by kernel_rfl) (by kernel_rfl) ?hQ3 ?hy3 (by assumption) ?rest3
  case hi3 => (simp only [List.getElem?_toArray]; rfl)
  case hQ3 => exact fun _ _ _ h => h
  case hy3 => exact Or.inl ⟨by rfl, by (intro w hSw; (try dsimp only at hSw); go_simp; try with_reducible rfl)⟩
  try simp only [Act.put, List.setIfInBounds_toArray, List.set_cons_zero, List.set_cons_succ]
  refine wpE_take (i := 3) (oi := ?oi4) (v := ?v4) ?hi4 (by kernel_rfl) (by kernel_rfl) (by kernel_rfl) (by kernel_rfl) ?hQ4 ?hy4 (by assumption) ?rest4
  case hi4 => (simp only [List.getElem?_toArray]; rfl)
  case hQ4 => exact fun _ _ _ h => h
  case hy4 => exact Or.inl ⟨by rfl, by (intro w hSw; (try dsimp only at hSw); go_simp; try with_reducible rfl)⟩
  try simp only [Act.put, List.setIfInBounds_toArray, List.set_cons_zero, List.set_cons_succ]
  refine wpE_take (i := 4) (oi := ?oi5) (v := ?v5) ?hi5 (by kernel_rfl) (by kernel_rfl) (by kernel_rfl) (by kernel_rfl) ?hQ5 ?hy5 (by assumption) ?rest5
  case hi5 => (simp only [List.getElem?_toArray]; rfl)
  case hQ5 => exact fun _ _ _ h => h
  case hy5 => exact Or.inl ⟨by rfl, by (intro w hSw; (try dsimp only at hSw); go_simp; try with_reducible rfl)⟩
  try simp only [Act.put, List.setIfInBounds_toArray, List.set_cons_zero, List.set_cons_succ]
  refine wpE_take (i := 5) (oi := ?oi6) (v := ?v6) ?hi6 (by kernel_rfl) (by kernel_rfl) (by kernel_rfl) (by kernel_rfl) ?hQ6 ?hy6 (by assumption) ?rest6
  case hi6 => (simp only [List.getElem?_toArray]; rfl)
  case hQ6 => exact fun _ _ _ h => h
  case hy6 => exact Or.inl ⟨by rfl, by (intro w hSw; (try dsimp only at hSw); go_simp; try with_reducible rfl)⟩
  try simp only [Act.put, List.setIfInBounds_toArray, List.set_cons_zero, List.set_cons_succ]
  refine wpE_take (i := 6) (oi := ?oi7) (v := ?v7) ?hi7 (by kernel_rfl) (by kernel_rfl) (by kernel_rfl) (by kernel_rfl) ?hQ7 ?hy7 (by assumption) ?rest7
  case hi7 => (simp only [List.getElem?_toArray]; rfl)
  case hQ7 => exact fun _ _ _ h => h
  case hy7 => exact Or.inl ⟨by rfl, by (intro w hSw; (try dsimp only at hSw); go_simp; try with_reducible rfl)⟩
  try simp only [Act.put, List.setIfInBounds_toArray, List.set_cons_zero, List.set_cons_succ]
  refine wpE_take (i := 7) (oi := ?oi8) (v := ?v8) ?hi8 (by kernel_rfl) (by kernel_rfl) (by kernel_rfl) (by kernel_rfl) ?hQ8 ?hy8 (by assumption) ?rest8
  case hi8 => (simp only [List.getElem?_toArray]; rfl)
  case hQ8 => exact fun _ _ _ h => h
  case hy8 => exact Or.inl ⟨by rfl, by (intro w hSw; (try dsimp only at hSw); go_simp; try with_reducible rfl)⟩
  try simp only [Act.put, List.setIfInBounds_toArray, List.set_cons_zero, List.set_cons_succ]
  refine wpE_last (i := 8) (o := ?o9) ?ho9 (by kernel_rfl) (by kernel_rfl) (by kernel_rfl) (fun K hK => ?_)
  case ho9 => (simp only [List.getElem?_toArray]; rfl)
  go_simp
  refine hK.out _ _ ?_
  clear hK K hcp1 hHeld
  have hcp2 := HCP2.out
  go_wp2_with fail
  go_ret
  refine ⟨by trivial, ?_, HK2.out⟩
  have hlen : (R.take i ++ [x] ++ R.drop i).length = n + 1 := by
    rw [List.length_append, List.length_append, List.length_take, List.length_drop, List.length_singleton, hn]; omega
  have hfl : (R.take i ++ [x] ++ R.drop i).flatMap Rg.cells = (R.take i).flatMap Rg.cells ++ [x].flatMap Rg.cells ++ (R.drop i).flatMap Rg.cells := by rw [List.flatMap_append, List.flatMap_append]
  have hl3 : ((R.take i).flatMap Rg.cells ++ [x].flatMap Rg.cells ++ (R.drop i).flatMap Rg.cells).length = (n + 1) * 2 := by
    rw [← hfl, fm_length Rg.cells 2 (fun _ => rfl), hlen]
  refine ⟨by show ((R.take i ++ [x] ++ R.drop i).flatMap Rg.cells).length = _; rw [hfl, hl3, hlen]; rfl, .inr ⟨g, c, _, by rw [hlen], hBg, HB2.out, by rw [hlen]; exact hroom, hcm, ?_, ?_⟩⟩
  · rw [← HCU2.out, List.size_toArray, List.length_append, hl3, List.length_drop, hdl, hcl]
    show _ = c * 2
    omega
  · show List.take ((R.take i ++ [x] ++ R.drop i).length * 2) _ = (R.take i ++ [x] ++ R.drop i).flatMap Rg.cells
    rw [hlen, hfl, List.toList_toArray, ← HCU2.out, List.take_append_of_le_length (by rw [hl3]; exact Nat.le_refl _), List.take_of_length_le (by rw [hl3]; exact Nat.le_refl _)]
end Go.Proofs.Ytmhljdkhekjfmaa

/- The walk of slices.Insert at rungs: no room; at the end. -/
namespace Go.Proofs.Ytmhljdkhekjfmaa
open Go.RowKit

set_option maxRecDepth 100000 in
set_option maxHeartbeats 8000000 in
theorem insert_grow {w : World} {B g gv n i : Nat} {cur : Array Value} {R : List Rg} {x : Rg} (hb : Blk w g 69 cur) (hn : R.length = n) (hc : cur.size = n * 2) (ht : cur.toList.take (n * 2) = R.flatMap Rg.cells) (hB : B ≤ w.heap.size)
    (hi : i < n) (hv : Blk w gv 69 x.cells.toArray) (hl : n ≤ 1000) :
    Calls Try.prog 52 #[.slice (some ⟨g, 0, none⟩) n n, .int .i64 i, .slice (some ⟨gv, 0, none⟩) 1 1] w fun e w' => ∃ c', e = .returned (.slice (some ⟨w.heap.size, 0, none⟩) (n + 1) c') ∧ RG.Row w' B (.slice (some ⟨w.heap.size, 0, none⟩) (n + 1) c') (R.take i ++ [x] ++ R.drop i) ∧ Keeps (fun _ => False) w w' := by
  have hcl : cur.toList.length = n * 2 := by rw [Array.length_toList, hc]
  have hdl := fm_dlen R i
  rw [hn] at hdl
  have hX : ([x].flatMap Rg.cells).length = 2 := rfl
  have hD : (R.drop i).length = n - i := by rw [List.length_drop, hn]
  have hTl : ((R.take i).flatMap Rg.cells).length = i * 2 := by rw [fm_length Rg.cells 2 (fun _ => rfl), List.length_take]; omega
  have hget0 : ∀ (j : Nat) (v : Value), (R.flatMap Rg.cells)[j]? = some v → w.cell? ⟨g, j, none⟩ = some v := by
    intro j v hj
    rw [hb.cell, ← Array.getElem?_toList]
    rw [← ht, List.getElem?_take] at hj
    split at hj
    · exact hj
    · cases hj
  obtain ⟨i0, hi0, hz0, hz1, hz2⟩ := info_parts info_rung
  obtain ⟨k, hk⟩ : ∃ k : Nat, n + 1 - i = k := ⟨_, rfl⟩
  have hik : i + k = n + 1 := by omega
  have hold : (Builtin.firstCells i0.size i (.slice (some ⟨g, 0, none⟩) i n)).run Try.prog w.drew = .ok ((R.take i).flatMap Rg.cells).toArray w.drew := by
    have h := run_loadCells_list (P := Try.prog) w.drew ⟨g, 0, none⟩ ((R.take i).flatMap Rg.cells) (fun j v hj => by
      rw [add_at, Nat.zero_add]
      have hj2 : j < i * 2 := by have := lt_of_get hj; omega
      rw [← fm_take (by omega), List.getElem?_take, if_pos hj2] at hj
      exact hget0 j v hj)
    rw [hTl] at h
    rw [hz1]
    simpa [Builtin.firstCells] using h
  have hap := fun ty => Lib.run_append_grow_zeros (P := Try.prog) w 59 3 ty 69 i0 _ .i64 .i64 Try.underlying59 Try.underlying3 hi0 hz0 (some ⟨g, 0, none⟩) i n ((R.take i).flatMap Rg.cells) hold k (by omega) (by rw [hz1]; omega) (by omega) (by omega) (by rw [hz2]; omega) (by rw [hz2, hik]; exact growslice_fits (by omega) (by omega))
  rw [hik] at hap
  have hcg := grownCap_ge w (n + 1) n 69
  have hcm := grownCap_le_maxLen w (n + 1) n 69 (by unfold maxLen; omega)
  generalize grownCap w (n + 1) n 69 = c' at *
  obtain ⟨cu0, hcu0⟩ : ∃ cu0, ((R.take i).flatMap Rg.cells).toArray ++ Builtin.zeroCells (Value.agg #[.int .i64 0, .int .i64 0]).cells k ++ Builtin.zeroCells (Value.agg #[.int .i64 0, .int .i64 0]).cells (c' - (n + 1)) = cu0 := ⟨_, rfl⟩
  rw [hcu0] at hap
  have hs0 : cu0.size = c' * 2 := by
    rw [← hcu0, Array.size_append, Array.size_append, List.size_toArray, hTl]
    simp [Builtin.zeroCells, Value.cells]
    omega
  have hcl0 : cu0.toList.length = c' * 2 := by rw [Array.length_toList, hs0]
  have ht0 : cu0.toList.take (i * 2) = (R.take i).flatMap Rg.cells := by
    rw [← hcu0, Array.toList_append, Array.toList_append, List.toList_toArray, List.append_assoc, List.take_append_of_le_length (by omega), List.take_of_length_le (by omega)]
  clear hcu0 hold hi0 hz0 hz1 hz2
  have hb1 : Blk (w.drew.alloc (.cells cu0 69)) w.heap.size 69 cu0 := Blk.new w.drew _ _
  have hk1 : Below w.heap.size w (w.drew.alloc (.cells cu0 69)) := (Below.drewN_of w 1).trans (Below.allocN w.drew _)
  generalize hw1 : w.drew.alloc (.cells cu0 69) = w1 at *
  have hv1 := hv.below hk1
  have hg1 := hb.below hk1
  have hcp2 := fun (ty : TypeId) (dc sc : Nat) => run_copy9 (w := w1) (g := w.heap.size) (gs := gv) (o := i * 2) (os := 0) hb1 k dc 1 sc [x] (by simp only [Nat.min_def, List.length_singleton]; split <;> omega) (fun j v hj => by
    rw [Nat.zero_add, hv1.cell]
    simpa using hj) (by rw [hX, hs0]; omega) ty
  have hb2 := hb1.row (cu0.toList.take (i * 2) ++ [x].flatMap Rg.cells ++ cu0.toList.drop (i * 2 + ([x].flatMap Rg.cells).length)).toArray
  have hk2 : Keeps (fun k => k = w.heap.size) w1 (w1.setRow w.heap.size (cu0.toList.take (i * 2) ++ [x].flatMap Rg.cells ++ cu0.toList.drop (i * 2 + ([x].flatMap Rg.cells).length)).toArray) := keeps_row _ _ _
  have hfin := ins_b (P := (R.take i).flatMap Rg.cells) (X := [x].flatMap Rg.cells) (D := (R.drop i).flatMap Rg.cells) (cur := cu0.toList) (a := i * 2) ht0 (by rw [hX, hdl, hcl0]; omega)
  generalize hcu1 : cu0.toList.take (i * 2) ++ [x].flatMap Rg.cells ++ cu0.toList.drop (i * 2 + ([x].flatMap Rg.cells).length) = cu1 at *
  have hcl1 : cu1.length = c' * 2 := by
    rw [← hcu1, List.length_append, List.length_append, List.length_take, List.length_drop, hX, hcl0]; omega
  clear hcu1
  generalize hw2 : w1.setRow w.heap.size cu1.toArray = w2 at *
  have hne : ¬ g = w.heap.size := Nat.ne_of_lt hb.lt
  have hg2 : Blk w2 g 69 cur := hg1.keeps hk2 hne
  have hb02 : Below w.heap.size w w2 := hk1.trans (hk2.below (fun g hg => by (have hg' : g = w.heap.size := hg); omega) hk1.size)
  have hcp3 := fun (ty : TypeId) (dc sc : Nat) => run_copy9 (w := w2.drew) (g := w.heap.size) (gs := g) (o := (i + 1) * 2) (os := i * 2) hb2.drew (n - i) dc (n - i) sc (R.drop i) (by rw [hD]; simp only [Nat.min_def]; split <;> omega) (fun j v hj => by
    rw [fm_dget (by omega)] at hj
    have h := hget0 _ v hj
    rw [hb.cell] at h
    rw [hg2.drew.cell]; exact h) (by rw [hdl, List.size_toArray, hcl1]; omega) ty
  rw [List.toList_toArray] at hcp3
  have hb3 := hb2.drew.row (cu1.take ((i + 1) * 2) ++ (R.drop i).flatMap Rg.cells ++ cu1.drop ((i + 1) * 2 + ((R.drop i).flatMap Rg.cells).length)).toArray
  have hk3 := keeps_row w2.drew w.heap.size (cu1.take ((i + 1) * 2) ++ (R.drop i).flatMap Rg.cells ++ cu1.drop ((i + 1) * 2 + ((R.drop i).flatMap Rg.cells).length)).toArray
  rw [hX, show i * 2 + 2 = (i + 1) * 2 by omega] at hfin
  rw [hfin] at hb3 hk3
  replace hcp3 := fun ty dc sc => by
    have h := hcp3 ty dc sc
    rw [hfin] at h
    exact h
  generalize hcu2 : (R.take i).flatMap Rg.cells ++ [x].flatMap Rg.cells ++ (R.drop i).flatMap Rg.cells ++ cu0.toList.drop ((i + 1) * 2 + ((R.drop i).flatMap Rg.cells).length) = cu2 at *
  have hbf : Below w.heap.size w (w2.drew.setRow w.heap.size cu2.toArray) := hb02.drew.trans (hk3.below (fun g hg => by (have hg' : g = w.heap.size := hg); omega) hb02.size)
  generalize hw3 : w2.drew.setRow w.heap.size cu2.toArray = w3 at *
  have HCU2 := Lib.hid hcu2
  have HAP := Lib.hid hap
  have HCP2 := Lib.hid hcp2
  have HCP3 := Lib.hid hcp3
  have HB3 := Lib.hid hb3
  have HBF := Lib.hid hbf
  have HHS := Lib.hid (Eq.refl w.heap.size)
  have hw := hcm
  unfold maxLen at hw
  have q1 : ¬ (c' = i) := by omega
  have q2 : ¬ (c' = i + 1) := by omega
  have q3 : ¬ (n = i) := by omega
  have y1 : IntKind.i64.wrap ((n : Int) + 1) = (n : Int) + 1 := IntWalk.i64_in _ (by omega)
  have y2 : IntKind.i64.wrap ((i : Int) + 1) = (i : Int) + 1 := IntWalk.i64_in _ (by omega)
  have y3 : IntKind.i64.wrap ((n : Int) + 1 - (i : Int)) = (k : Int) := by rw [show (n : Int) + 1 - (i : Int) = (k : Int) by omega]; exact IntWalk.i64_in _ (by omega)
  have z1 : (0 : Int) ≤ (i : Int) + 1 := by omega
  have z2 : i ≤ n := by omega
  have z3 : i ≤ n + 1 := by omega
  have z4 : (i : Int) ≤ (n : Int) + 1 := by omega
  clear hw1 hw2 hw3 hcu2 hap hcp2 hcp3 hb3 hbf hb1 hk1 hv1 hg1 hb2 hk2 hfin hg2 hb02 hk3 ht0
  go_enter Try.func52, Try.ntmps52
  go_upto_region 9 with (fail)
  have hcp2 := HCP2.out
  go_wp2_with (first
    | (at_builtin; refine Lib.wpList_append_run _ rfl _ _ _ _ rfl _ _ rfl rfl _ _ (HAP.out _) ?_))
  clear hcp2
  have hcp3 := HCP3.out
  refine wp_region_E (S := fun _ => True) (by kernel_rfl) True.intro (fun hHeld => ?_)
  refine wpE_take (i := 0) (oi := ?oi1) (v := ?v1) ?hi1 (by kernel_rfl) (by kernel_rfl) (by kernel_rfl) (by kernel_rfl) ?hQ1 ?hy1 (by assumption) ?rest1
  case hi1 => (simp only [List.getElem?_toArray]; rfl)
  case hQ1 => exact fun _ _ _ h => h
  case hy1 => exact Or.inl ⟨by rfl, by (intro w hSw; (try dsimp only at hSw); go_simp; try with_reducible rfl)⟩
  try simp only [Act.put, List.setIfInBounds_toArray, List.set_cons_zero, List.set_cons_succ]
  refine wpE_take (i := 1) (oi := ?oi2) (v := ?v2) ?hi2 (by kernel_rfl) (by kernel_rfl) (by kernel_rfl) (by kernel_rfl) ?hQ2 ?hy2 (by assumption) ?rest2
  case hi2 => (simp only [List.getElem?_toArray]; rfl)
  case hQ2 => exact fun _ _ _ h => h
  case hy2 => exact Or.inl ⟨by rfl, by (intro w hSw; (try dsimp only at hSw); go_simp; try with_reducible rfl)⟩
  try simp only [Act.put, List.setIfInBounds_toArray, List.set_cons_zero, List.set_cons_succ]
  refine wpE_take (i := 2) (oi := ?oi3) (v := ?v3) ?hi3 (by kernel_rfl) (by kernel_rfl) (by kernel_rfl) (by kernel_rfl) ?hQ3 ?hy3 (by assumption) ?rest3
  case hi3 => (simp only [List.getElem?_toArray]; rfl)
  case hQ3 => exact fun _ _ _ h => h
  case hy3 => exact Or.inl ⟨by rfl, by (intro w hSw; (try dsimp only at hSw); go_simp; try with_reducible rfl)⟩
  try simp only [Act.put, List.setIfInBounds_toArray, List.set_cons_zero, List.set_cons_succ]
  refine wpE_take (i := 3) (oi := ?oi4) (v := ?v4) ?hi4 (by kernel_rfl) (by kernel_rfl) (by kernel_rfl) (by kernel_rfl) ?hQ4 ?hy4 (by assumption) ?rest4
  case hi4 => (simp only [List.getElem?_toArray]; rfl)
  case hQ4 => exact fun _ _ _ h => h
  case hy4 => exact Or.inl ⟨by rfl, by (intro w hSw; (try dsimp only at hSw); go_simp; try with_reducible rfl)⟩
  try simp only [Act.put, List.setIfInBounds_toArray, List.set_cons_zero, List.set_cons_succ]
  refine wpE_take (i := 4) (oi := ?oi5) (v := ?v5) ?hi5 (by kernel_rfl) (by kernel_rfl) (by kernel_rfl) (by kernel_rfl) ?hQ5 ?hy5 (by assumption) ?rest5
  case hi5 => (simp only [List.getElem?_toArray]; rfl)
  case hQ5 => exact fun _ _ _ h => h
  case hy5 => exact Or.inl ⟨by rfl, by (intro w hSw; (try dsimp only at hSw); go_simp; try with_reducible rfl)⟩
  try simp only [Act.put, List.setIfInBounds_toArray, List.set_cons_zero, List.set_cons_succ]
  refine wpE_take (i := 5) (oi := ?oi6) (v := ?v6) ?hi6 (by kernel_rfl) (by kernel_rfl) (by kernel_rfl) (by kernel_rfl) ?hQ6 ?hy6 (by assumption) ?rest6
  case hi6 => (simp only [List.getElem?_toArray]; rfl)
  case hQ6 => exact fun _ _ _ h => h
  case hy6 => exact Or.inl ⟨by rfl, by (intro w hSw; (try dsimp only at hSw); go_simp; try with_reducible rfl)⟩
  try simp only [Act.put, List.setIfInBounds_toArray, List.set_cons_zero, List.set_cons_succ]
  refine wpE_take (i := 6) (oi := ?oi7) (v := ?v7) ?hi7 (by kernel_rfl) (by kernel_rfl) (by kernel_rfl) (by kernel_rfl) ?hQ7 ?hy7 (by assumption) ?rest7
  case hi7 => (simp only [List.getElem?_toArray]; rfl)
  case hQ7 => exact fun _ _ _ h => h
  case hy7 => exact Or.inl ⟨by rfl, by (intro w hSw; (try dsimp only at hSw); go_simp; try with_reducible rfl)⟩
  try simp only [Act.put, List.setIfInBounds_toArray, List.set_cons_zero, List.set_cons_succ]
  refine wpE_take (i := 7) (oi := ?oi8) (v := ?v8) ?hi8 (by kernel_rfl) (by kernel_rfl) (by kernel_rfl) (by kernel_rfl) ?hQ8 ?hy8 (by assumption) ?rest8
  case hi8 => (simp only [List.getElem?_toArray]; rfl)
  case hQ8 => exact fun _ _ _ h => h
  case hy8 => exact Or.inl ⟨by rfl, by (intro w hSw; (try dsimp only at hSw); go_simp; try with_reducible rfl)⟩
  try simp only [Act.put, List.setIfInBounds_toArray, List.set_cons_zero, List.set_cons_succ]
  refine wpE_last (i := 8) (o := ?o9) ?ho9 (by kernel_rfl) (by kernel_rfl) (by kernel_rfl) (fun K hK => ?_)
  case ho9 => (simp only [List.getElem?_toArray]; rfl)
  go_simp
  refine hK.out _ _ ?_
  clear hK K hcp3 hHeld
  go_wp2_with fail
  go_ret
  refine ⟨c', by trivial, ?_, (Below.keeps HBF.out)⟩
  have hlen : (R.take i ++ [x] ++ R.drop i).length = n + 1 := by
    rw [List.length_append, List.length_append, List.length_take, List.length_drop, List.length_singleton, hn]; omega
  have hfl : (R.take i ++ [x] ++ R.drop i).flatMap Rg.cells = (R.take i).flatMap Rg.cells ++ [x].flatMap Rg.cells ++ (R.drop i).flatMap Rg.cells := by rw [List.flatMap_append, List.flatMap_append]
  have hl3 : ((R.take i).flatMap Rg.cells ++ [x].flatMap Rg.cells ++ (R.drop i).flatMap Rg.cells).length = (n + 1) * 2 := by
    rw [← hfl, fm_length Rg.cells 2 (fun _ => rfl), hlen]
  refine ⟨by show ((R.take i ++ [x] ++ R.drop i).flatMap Rg.cells).length = _; rw [hfl, hl3, hlen]; rfl, .inr ⟨w.heap.size, c', _, by rw [hlen], hB, HB3.out, by rw [hlen]; exact hcg, hcm, ?_, ?_⟩⟩
  · rw [← HCU2.out, List.size_toArray, List.length_append, hl3, List.length_drop, hdl, hcl0]
    show _ = c' * 2
    omega
  · show List.take ((R.take i ++ [x] ++ R.drop i).length * 2) _ = (R.take i ++ [x] ++ R.drop i).flatMap Rg.cells
    rw [hlen, hfl, List.toList_toArray, ← HCU2.out, List.take_append_of_le_length (by rw [hl3]; exact Nat.le_refl _), List.take_of_length_le (by rw [hl3]; exact Nat.le_refl _)]
end Go.Proofs.Ytmhljdkhekjfmaa

/- slices.Insert at rungs, whole; slices.Delete of one rung. -/
namespace Go.Proofs.Ytmhljdkhekjfmaa
open Go.RowKit

set_option maxRecDepth 100000 in
set_option maxHeartbeats 8000000 in
theorem insert_end {w : World} {B gv : Nat} {s : Value} {R : List Rg} {x : Rg} (h : RG.Row w B s R) (hv : Blk w gv 69 x.cells.toArray) (hB : B ≤ w.heap.size) (hl : R.length ≤ 1000) :
    Calls Try.prog 52 #[s, .int .i64 R.length, .slice (some ⟨gv, 0, none⟩) 1 1] w fun e w' => ∃ v', e = .returned v' ∧ RG.Row w' B v' (R ++ [x]) ∧ Keeps (fun g => s.ownBlock = some g) w w' ∧ (v'.ownBlock = s.ownBlock ∨ v'.ownBlock = some w.heap.size) := by
  have HH := Lib.hid h
  have HV := Lib.hid hv
  rcases h.2 with ⟨hs, h0⟩ | ⟨g, c, cur, hs, hBg, hb, hnc, hcm, hcs, hct⟩
  · subst hs
    rw [h0]
    clear h hv
    go_enter Try.func52, Try.ntmps52
    go_wp2_with (first
      | (at_builtin; go_loud (refine RG.push rfl (.tmp 23) (.tmp 24) rfl B (.slice none 0 0) R rfl HH.out gv x rfl HV.out.lt HV.out.cellsAt (by omega) hB ?_)))
    intro v' w6 hr6 hg6 ho6
    have HR := Lib.hid hr6
    have HG := Lib.hid (grown_keeps hg6)
    have HO := Lib.hid ho6
    clear hr6 hg6 ho6
    go_wp2_with fail
    go_ret
    exact ⟨_, rfl, HR.out, HG.out.more (fun k hk => hk.symm ▸ rfl), HO.out⟩
  · subst hs
    unfold maxLen at hcm
    have q1 : R.length ≤ c := hnc
    obtain ⟨n, hn⟩ : ∃ n, R.length = n := ⟨_, rfl⟩
    rw [hn] at q1 hl ⊢
    have HN := Lib.hid hn
    replace HH : Hid (RG.Row w B (.slice (some ⟨g, 0, none⟩) n c) R) := Lib.hid (by rw [← hn]; exact HH.out)
    clear h hv hBg hb hnc hcs hct hn
    go_enter Try.func52, Try.ntmps52
    go_wp2_with (first
      | (at_builtin; go_loud (refine RG.push rfl (.tmp 23) (.tmp 24) rfl B (.slice (some ⟨g, 0, none⟩) n c) R rfl HH.out gv x rfl HV.out.lt HV.out.cellsAt (by rw [HN.out]; omega) hB ?_)))
    all_goals (
      intro v' w6 hr6 hg6 ho6
      have HR := Lib.hid hr6
      have HG := Lib.hid (grown_keeps hg6)
      have HO := Lib.hid ho6
      clear hr6 hg6 ho6
      go_wp2_with fail
      go_ret
      exact ⟨_, rfl, HR.out, HG.out, HO.out⟩)
theorem insert_any {w : World} {B gv : Nat} {s : Value} {R : List Rg} {x : Rg} {i : Nat} (h : RG.Row w B s R) (hi : i ≤ R.length) (hv : Blk w gv 69 x.cells.toArray) (hne : s.ownBlock ≠ some gv) (hB : B ≤ w.heap.size) (hl : R.length ≤ 1000) :
    Calls Try.prog 52 #[s, .int .i64 i, .slice (some ⟨gv, 0, none⟩) 1 1] w fun e w' => ∃ v', e = .returned v' ∧ RG.Row w' B v' (R.take i ++ [x] ++ R.drop i) ∧ Keeps (fun g => s.ownBlock = some g) w w' ∧ (v'.ownBlock = s.ownBlock ∨ v'.ownBlock = some w.heap.size) := by
  by_cases hin : i = R.length
  · subst hin
    refine (insert_end h hv hB hl).mono ?_
    rintro e w' ⟨v', h1, h2, h3, h4⟩
    exact ⟨v', h1, by rw [List.take_length, List.drop_length, List.append_nil]; exact h2, h3, h4⟩
  · have hin2 : i < R.length := by omega
    rcases h.2 with ⟨hs, h0⟩ | ⟨g, c, cur, hs, hBg, hb, hnc, hcm, hcs, hct⟩
    · omega
    · subst hs
      have hgv : gv ≠ g := by rintro rfl; exact hne rfl
      by_cases hroom : R.length + 1 ≤ c
      · refine (insert_room hb rfl hcs hct hBg hcm hin2 hroom hv hgv hl).mono ?_
        rintro e w' ⟨h1, h2, h3⟩
        exact ⟨_, h1, h2, h3.more fun k hk => by rw [hk]; rfl, .inl rfl⟩
      · obtain rfl : c = R.length := by omega
        refine (insert_grow hb rfl hcs hct hB hin2 hv hl).mono ?_
        rintro e w' ⟨c', h1, h2, h3⟩
        exact ⟨_, h1, h2, h3.more fun _ h => h.elim, .inr rfl⟩
end Go.Proofs.Ytmhljdkhekjfmaa

/- slices.Delete of one rung. -/
namespace Go.Proofs.Ytmhljdkhekjfmaa
open Go.RowKit

/-- append onto a beginning of the same row, where there is room -/
theorem run_append9 {w : World} {g os i m c sc : Nat} {cur : Array Value} (hb : Blk w g 69 cur) (L : List Rg) (hL : L.length = m) (hroom : i + m ≤ c)
    (hsrc : ∀ j v, (L.flatMap Rg.cells)[j]? = some v → w.cell? ⟨g, os + j, none⟩ = some v) (hfit : i * 2 + (L.flatMap Rg.cells).length ≤ cur.size) (ty : TypeId) :
    (Builtin.append_ #[59, 59] ty #[.slice (some ⟨g, 0, none⟩) i c, .slice (some ⟨g, os, none⟩) m sc]).run Try.prog w = .ok (.slice (some ⟨g, 0, none⟩) (i + m) c) (w.setRow g (cur.toList.take (i * 2) ++ L.flatMap Rg.cells ++ cur.toList.drop (i * 2 + (L.flatMap Rg.cells).length)).toArray) := by
  have hl := run_loadCells_list (P := Try.prog) w ⟨g, os, none⟩ (L.flatMap Rg.cells) (fun j v hj => by rw [add_at]; exact hsrc j v hj)
  have hst := run_storeCells_at Try.prog g (i * 2) 69 (L.flatMap Rg.cells) 0 cur w hb (by simpa using hfit) (RG.ones L)
  rw [fm_length Rg.cells 2 (fun _ => rfl), hL] at hl
  obtain ⟨i0, hi, hz0, hz1, hz2⟩ := info_parts info_rung
  have hu : Try.prog.underlying 59 = some (.slice 69) := Try.underlying59
  have ha : (⟨g, 0, none⟩ : Addr).add (i * 2) = ⟨g, i * 2, none⟩ := by rw [add_at, Nat.zero_add]
  simp only [Nat.add_zero] at hst
  simp [Builtin.append_, run_underlying hu, Builtin.lenOf, Builtin.firstCells, sizeOf, typeInfo, hi, hz1, hroom, hl, ha, hst]
theorem run_clear9 {w : World} {g o c : Nat} {cur : Array Value} (hb : Blk w g 69 cur) (hfit : o + 2 ≤ cur.size) (ty : TypeId) :
    (Builtin.clear_ #[59] ty #[.slice (some ⟨g, o, none⟩) 1 c]).run Try.prog w = .ok (.tuple #[]) (w.setRow g (cur.toList.take o ++ [Value.int .i64 0, Value.int .i64 0] ++ cur.toList.drop (o + 2)).toArray) := by
  obtain ⟨i0, hi, hz0, hz1, hz2⟩ := info_parts info_rung
  have hu : Try.prog.underlying 59 = some (.slice 69) := Try.underlying59
  have hst := run_storeCells_at Try.prog g o 69 [Value.int .i64 0, Value.int .i64 0] 0 cur w hb (by simpa using hfit) (by
    intro v hv
    simp only [List.mem_cons, List.not_mem_nil, or_false, or_self] at hv
    rw [hv]; rfl)
  simp only [Nat.add_zero] at hst
  have hzc : (Builtin.zeroCells (Value.agg #[.int .i64 0, .int .i64 0]).cells 1).toList = [Value.int .i64 0, Value.int .i64 0] := by
    simp [Builtin.zeroCells, Value.cells, List.range_succ]
  have hzv : (zeroValue 69).run Try.prog w = .ok (.agg #[.int .i64 0, .int .i64 0]) w := by simp [zeroValue, typeInfo, hi, hz0]
  have hst' : (storeCells ⟨g, o, none⟩ [Value.int .i64 0, Value.int .i64 0]).run Try.prog w = .ok () (w.setRow g (cur.toList.take o ++ [Value.int .i64 0, Value.int .i64 0] ++ cur.toList.drop (o + 2)).toArray) := hst
  simp only [Builtin.clear_, Sem.run_bind, run_underlying hu, Result.andThen_ok, List.getElem?_toArray, List.getElem?_cons_zero, hzv, hzc, hst']
  rfl
theorem step_eq {w : World} {ops : Array Oper} {o : Oper} {a : Act} {K : Act → World → Prop} {Q : Exit → Act → World → Prop} {E : Prop} (hgd : o.guard = none) (s x : Operand) (t t' : TypeId)
    (ho : o.op = .call { callee := .builtin .append, args := #[s, x], argTypes := #[t, t'] }) (u v : Value) (hs : a.eval s = u) (hx : a.eval x = v) {v' : Value} {w' : World}
    (hr : (Builtin.append_ #[t, t'] o.type #[u, v]).run Try.prog w = .ok v' w') (h : K (a.put o.dst v') w') : if Region.wanted o (yielded ops a.tmps) = true then Oper.wp Try.prog o a w K Q else E := by
  have hw : Region.wanted o (yielded ops a.tmps) = true := by simp [Region.wanted, hgd]
  rw [if_pos hw]
  unfold Oper.wp execOp
  simp only [ho, resolve, invoke, builtin, Sem.run_bind, Sem.run_pure, Result.andThen_ok, List.map_toArray, List.map_cons, List.map_nil, hs, hx, hr]
  exact h
set_option maxRecDepth 100000 in
set_option maxHeartbeats 8000000 in
theorem delete_any {w : World} {B : Nat} {s : Value} {R : List Rg} {i : Nat} (h : RG.Row w B s R) (hi : i < R.length) (hl : R.length ≤ 1000) :
    Calls Try.prog 55 #[s, .int .i64 i, .int .i64 ((i : Int) + 1)] w fun e w' => ∃ v', e = .returned v' ∧ RG.Row w' B v' (R.eraseIdx i) ∧ Keeps (fun g => s.ownBlock = some g) w w' ∧ v'.ownBlock = s.ownBlock := by
  rcases h.2 with ⟨hs, h0⟩ | ⟨g, c, cur, hs, hBg, hb0, hnc, hcm, hcs, hct⟩
  · omega
  subst hs
  have hb : Blk w g 69 cur := hb0
  obtain ⟨n, hn⟩ : ∃ n, R.length = n := ⟨_, rfl⟩
  have hc : cur.size = c * 2 := hcs
  have ht : cur.toList.take (n * 2) = R.flatMap Rg.cells := by rw [← hn]; exact hct
  rw [hn] at hi hl hnc
  have hcl : cur.toList.length = c * 2 := by rw [Array.length_toList, hc]
  have hdl := fm_dlen R (i + 1)
  rw [hn] at hdl
  have hD : (R.drop (i + 1)).length = n - (i + 1) := by rw [List.length_drop, hn]
  have hget0 : ∀ (j : Nat) (v : Value), (R.flatMap Rg.cells)[j]? = some v → w.cell? ⟨g, j, none⟩ = some v := by
    intro j v hj
    rw [hb.cell, ← Array.getElem?_toList]
    rw [← ht, List.getElem?_take] at hj
    split at hj
    · exact hj
    · cases hj
  have hap := fun (ty : TypeId) (os sc : Nat) (hos : os = (i + 1) * 2 ∨ n = i + 1) => run_append9 (w := w.drew) (g := g) (os := os) (i := i) (m := n - (i + 1)) (c := c) (sc := sc) hb.drew (R.drop (i + 1)) hD (by omega) (fun j v hj => by
    rcases hos with rfl | hos
    · rw [fm_dget (by omega)] at hj
      exact hget0 _ v hj
    · have h1 := lt_of_get hj
      rw [hdl] at h1; omega) (by rw [hdl, hc]; omega) ty
  have hb1 := hb.drew.row (cur.toList.take (i * 2) ++ (R.drop (i + 1)).flatMap Rg.cells ++ cur.toList.drop (i * 2 + ((R.drop (i + 1)).flatMap Rg.cells).length)).toArray
  have hk1 : Keeps (fun k => k = g) w (w.drew.setRow g (cur.toList.take (i * 2) ++ (R.drop (i + 1)).flatMap Rg.cells ++ cur.toList.drop (i * 2 + ((R.drop (i + 1)).flatMap Rg.cells).length)).toArray) := (Below.keeps (Below.drewN_of w 1)).trans (keeps_row _ _ _)
  have hP : cur.toList.take (i * 2) = (R.take i).flatMap Rg.cells := by
    rw [← fm_take (by omega), ← ht, List.take_take, Nat.min_eq_left (by omega)]
  rw [show i + (n - (i + 1)) = n - 1 by omega] at hap
  generalize hcu1 : cur.toList.take (i * 2) ++ (R.drop (i + 1)).flatMap Rg.cells ++ cur.toList.drop (i * 2 + ((R.drop (i + 1)).flatMap Rg.cells).length) = cu1 at *
  have hcl1 : cu1.length = c * 2 := by
    rw [← hcu1, List.length_append, List.length_append, List.length_take, List.length_drop, hdl, hcl]; omega
  have hPD : ((R.take i).flatMap Rg.cells ++ (R.drop (i + 1)).flatMap Rg.cells).length = (n - 1) * 2 := by
    rw [List.length_append, fm_length Rg.cells 2 (fun _ => rfl), List.length_take, hdl, hn]; omega
  have ht1 : cu1.take ((n - 1) * 2) = (R.take i).flatMap Rg.cells ++ (R.drop (i + 1)).flatMap Rg.cells := by
    rw [← hcu1, hP, List.take_append_of_le_length (by rw [hPD]; exact Nat.le_refl _), List.take_of_length_le (by rw [hPD]; exact Nat.le_refl _)]
  generalize hw1 : w.drew.setRow g cu1.toArray = w1 at *
  have hclr := fun (ty : TypeId) (sc : Nat) => run_clear9 (w := w1) (g := g) (o := (n - 1) * 2) (c := sc) hb1 (by rw [List.size_toArray, hcl1]; omega) ty
  rw [List.toList_toArray] at hclr
  have hb2 := hb1.row (cu1.take ((n - 1) * 2) ++ [Value.int .i64 0, Value.int .i64 0] ++ cu1.drop ((n - 1) * 2 + 2)).toArray
  have hk2 := hk1.trans (keeps_row w1 g (cu1.take ((n - 1) * 2) ++ [Value.int .i64 0, Value.int .i64 0] ++ cu1.drop ((n - 1) * 2 + 2)).toArray)
  generalize hcu2 : cu1.take ((n - 1) * 2) ++ [Value.int .i64 0, Value.int .i64 0] ++ cu1.drop ((n - 1) * 2 + 2) = cu2 at *
  have hcl2 : cu2.length = c * 2 := by
    rw [← hcu2, List.length_append, List.length_append, List.length_take, List.length_drop, hcl1]; simp; omega
  have ht2 : cu2.take ((n - 1) * 2) = (R.take i).flatMap Rg.cells ++ (R.drop (i + 1)).flatMap Rg.cells := by
    rw [← hcu2, ht1, List.append_assoc, List.take_append_of_le_length (by rw [hPD]; exact Nat.le_refl _), List.take_of_length_le (by rw [hPD]; exact Nat.le_refl _)]
  generalize hw2 : w1.setRow g cu2.toArray = w2 at *
  have HAP := Lib.hid hap
  have HCL := Lib.hid hclr
  have HB2 := Lib.hid hb2
  have HK2 := Lib.hid hk2
  have HT2 := Lib.hid ht2
  have HN := Lib.hid hn
  unfold maxLen at hcm
  have q1 : ¬ (c = n - 1) := by omega
  have z1 : (0 : Int) ≤ (i : Int) + 1 := by omega
  have z2 : i ≤ n := by omega
  have z3 : i ≤ c := by omega
  have z4 : i + 1 ≤ n := by omega
  have z5 : (i : Int) + 1 ≤ (n : Int) := by omega
  have z6 : (i : Int) ≤ (i : Int) + 1 := by omega
  have z7 : n - 1 ≤ n := by omega
  have z8 : n ≤ c := hnc
  have z9 : n - (n - 1) = 1 := by omega
  have y1 : ((i : Int) == (i : Int) + 1) = false := by rw [beq_eq_false_iff_ne]; omega
  obtain ⟨os, hos, hse⟩ : ∃ os, (os = (i + 1) * 2 ∨ n = i + 1) ∧ (if c = i + 1 then some (⟨g, 0, none⟩ : Addr) else some ⟨g, (i + 1) * 2, none⟩) = some ⟨g, os, none⟩ := by
    by_cases hci : c = i + 1
    · exact ⟨0, .inr (by omega), if_pos hci⟩
    · exact ⟨(i + 1) * 2, .inl rfl, if_neg hci⟩
  have HOS := Lib.hid hos
  clear hos
  clear h hb0 hb hcs hct hc ht hget0 hap hclr hb1 hb2 hk1 hk2 hP hcu1 hcu2 ht1 ht2 hw1 hw2 hdl hD hcl hPD hn
  rw [HN.out]
  go_enter Try.func55, Try.ntmps55
  go_wp2_with fail
  refine wp_region_E (S := fun _ => True) (by kernel_rfl) True.intro (fun hHeld => ?_)
  refine wpE_take (i := 0) (oi := ?oi1) (v := ?v1) ?hi1 (by kernel_rfl) (by kernel_rfl) (by kernel_rfl) (by kernel_rfl) ?hQ1 ?hy1 (by assumption) ?rest1
  case hi1 => (simp only [List.getElem?_toArray]; rfl)
  case hQ1 => exact fun _ _ _ h => h
  case hy1 => exact Or.inl ⟨by rfl, by (intro w hSw; (try dsimp only at hSw); go_simp; try with_reducible rfl)⟩
  try simp only [Act.put, List.setIfInBounds_toArray, List.set_cons_zero, List.set_cons_succ]
  refine wpE_take (i := 1) (oi := ?oi2) (v := ?v2) ?hi2 (by kernel_rfl) (by kernel_rfl) (by kernel_rfl) (by kernel_rfl) ?hQ2 ?hy2 (by assumption) ?rest2
  case hi2 => (simp only [List.getElem?_toArray]; rfl)
  case hQ2 => exact fun _ _ _ h => h
  case hy2 => exact Or.inl ⟨by rfl, by (intro w hSw; (try dsimp only at hSw); go_simp; try with_reducible rfl)⟩
  try simp only [Act.put, List.setIfInBounds_toArray, List.set_cons_zero, List.set_cons_succ]
  refine wpE_take (i := 2) (oi := ?oi3) (v := ?v3) ?hi3 (by kernel_rfl) (by kernel_rfl) (by kernel_rfl) (by kernel_rfl) ?hQ3 ?hy3 (by assumption) ?rest3
  case hi3 => (simp only [List.getElem?_toArray]; rfl)
  case hQ3 => exact fun _ _ _ h => h
  case hy3 => exact Or.inl ⟨by rfl, by (intro w hSw; (try dsimp only at hSw); go_simp; try with_reducible rfl)⟩
  try simp only [Act.put, List.setIfInBounds_toArray, List.set_cons_zero, List.set_cons_succ]
  refine wpE_take (i := 3) (oi := ?oi4) (v := ?v4) ?hi4 (by kernel_rfl) (by kernel_rfl) (by kernel_rfl) (by kernel_rfl) ?hQ4 ?hy4 (by assumption) ?rest4
  case hi4 => (simp only [List.getElem?_toArray]; rfl)
  case hQ4 => exact fun _ _ _ h => h
  case hy4 => exact Or.inl ⟨by rfl, by (intro w hSw; (try dsimp only at hSw); go_simp; try with_reducible rfl)⟩
  try simp only [Act.put, List.setIfInBounds_toArray, List.set_cons_zero, List.set_cons_succ]
  refine wpE_take (i := 4) (oi := ?oi5) (v := ?v5) ?hi5 (by kernel_rfl) (by kernel_rfl) (by kernel_rfl) (by kernel_rfl) ?hQ5 ?hy5 (by assumption) ?rest5
  case hi5 => (simp only [List.getElem?_toArray]; rfl)
  case hQ5 => exact fun _ _ _ h => h
  case hy5 => exact Or.inl ⟨by rfl, by (intro w hSw; (try dsimp only at hSw); go_simp; try with_reducible rfl)⟩
  try simp only [Act.put, List.setIfInBounds_toArray, List.set_cons_zero, List.set_cons_succ]
  refine wpE_take (i := 5) (oi := ?oi6) (v := ?v6) ?hi6 (by kernel_rfl) (by kernel_rfl) (by kernel_rfl) (by kernel_rfl) ?hQ6 ?hy6 (by assumption) ?rest6
  case hi6 => (simp only [List.getElem?_toArray]; rfl)
  case hQ6 => exact fun _ _ _ h => h
  case hy6 => exact Or.inl ⟨by rfl, by (intro w hSw; (try dsimp only at hSw); go_simp; try with_reducible rfl)⟩
  try simp only [Act.put, List.setIfInBounds_toArray, List.set_cons_zero, List.set_cons_succ]
  refine wpE_one (i := 6) (o := ?o7) ?ho7 (by kernel_rfl) (fun K hK => ?_)
  case ho7 => (simp only [List.getElem?_toArray]; rfl)
  refine step_eq (by rfl) (.tmp 22) (.tmp 25) 59 59 (by rfl) _ _ (by rfl) (by rfl) (HAP.out _ _ _ HOS.out) ?_
  refine hK.out _ _ True.intro (fun hHeld => ?_)
  clear hK K
  refine wpE_last (i := 7) (o := ?o8) ?ho8 (by kernel_rfl) (by kernel_rfl) (by kernel_rfl) (fun K hK => ?_)
  case ho8 => (simp only [List.getElem?_toArray]; rfl)
  go_simp
  refine hK.out _ _ ?_
  clear hK K hHeld
  have hclr := HCL.out
  go_wp2_with fail
  go_ret
  have hlen : (R.eraseIdx i).length = n - 1 := by rw [List.length_eraseIdx, HN.out, if_pos hi]
  have hfl : (R.eraseIdx i).flatMap Rg.cells = (R.take i).flatMap Rg.cells ++ (R.drop (i + 1)).flatMap Rg.cells := by rw [List.eraseIdx_eq_take_drop_succ, List.flatMap_append]
  refine ⟨_, rfl, ⟨by rw [hlen]; show ((R.eraseIdx i).flatMap Rg.cells).length = (n - 1) * 2; rw [fm_length Rg.cells 2 (fun _ => rfl), hlen], .inr ⟨g, c, _, by rw [hlen]; rfl, hBg, HB2.out, by rw [hlen]; omega, by unfold maxLen; exact hcm, ?_, ?_⟩⟩, HK2.out.more (fun k hk => by rw [hk]; rfl), rfl⟩
  · rw [List.size_toArray, hcl2]; rfl
  · show List.take ((R.eraseIdx i).length * 2) _ = (R.eraseIdx i).flatMap Rg.cells
    rw [hlen, hfl, List.toList_toArray, HT2.out]
end Go.Proofs.Ytmhljdkhekjfmaa

/- What turns a book: its blocks apart; each kind of turn. No walk. -/
namespace Go.Proofs.Ytmhljdkhekjfmaa
open Go.RowKit

structure Tn (w w' : World) (pb B : Nat) (d d' : BD) : Prop where
  bk : Bk w' pb d' B
  fp : ∀ g, BF pb d' g → BF pb d g ∨ w.heap.size ≤ g
  kp : Keeps (BF pb d) w w'
  same : d'.ab = d.ab ∧ d'.sb = d.sb ∧ d'.gm = d.gm
section
variable {w w' w1 : World} {pb B : Nat} {d d' d1 : BD}
theorem Tn.refl (h : Bk w pb d B) : Tn w w pb B d d := ⟨h, fun _ hg => .inl hg, Keeps.refl _ _, rfl, rfl, rfl⟩
theorem Tn.trans (h : Tn w w1 pb B d d1) (k : Tn w1 w' pb B d1 d') : Tn w w' pb B d d' := by
  refine ⟨k.bk, fun g hg => ?_, ⟨k.kp.os.trans h.kp.os, k.kp.tape.trans h.kp.tape, k.kp.output.trans h.kp.output, Nat.le_trans h.kp.size k.kp.size, fun g hg hf => ?_⟩, k.same.1.trans h.same.1, k.same.2.1.trans h.same.2.1, k.same.2.2.trans h.same.2.2⟩
  · rcases k.fp g hg with h1 | h1
    · exact h.fp g h1
    · exact .inr (Nat.le_trans h.kp.size h1)
  · rw [k.kp.block g (Nat.lt_of_lt_of_le hg h.kp.size) (fun h1 => by
      rcases h.fp g h1 with h2 | h2
      · exact hf h2
      · omega)]
    exact h.kp.block g hg hf
theorem Tn.below (h : Tn w w1 pb B d d1) (hb : Below w1.heap.size w1 w') : Tn w w' pb B d d1 :=
  h.trans ⟨h.bk.below hb, fun _ hg => .inl hg, Below.keeps hb, rfl, rfl, rfl⟩
theorem Tn.of_below (h : Bk w pb d B) (hb : Below w.heap.size w w') : Tn w w' pb B d d := ⟨h.below hb, fun _ hg => .inl hg, Below.keeps hb, rfl, rfl, rfl⟩
theorem LA.tyd {ab sb : Nat} {qa : Option Addr} {room : Nat} {A : List (List Ent)} (h : LA w ab sb qa room A) : Tyd w ab 104 ∧ Tyd w sb 110 ∧ ∀ g, qa = some ⟨g, 0, none⟩ → Tyd w g 114 := by
  obtain ⟨S, qc, Q, F, hc, _, _⟩ := h
  refine ⟨hc.hp.tyd, hc.hs.tyd, ?_⟩
  rintro g rfl
  exact own_tyd hc.hq g rfl
theorem MapAt.not_cells {g : Nat} {M : List (Int × Value)} (h : MapAt w g M) {t : TypeId} : ¬ Tyd w g t := by
  rintro ⟨cs, hc⟩
  obtain ⟨es, clock, hb, _⟩ := h
  rw [hb] at hc; cases hc
theorem Bk.lf_ne (h : Bk w pb d B) {g : Nat} (hg : LF d.ab d.sb d.qa g) : g ≠ pb ∧ g ≠ d.gm ∧ d.s0.ownBlock ≠ some g ∧ d.s1.ownBlock ≠ some g ∧ d.spv.ownBlock ≠ some g := by
  obtain ⟨t1, t2, t3⟩ := h.la.tyd
  have hm : g ≠ d.gm := by
    rintro rfl
    rcases hg with hg | hg | hg
    · rw [← hg] at t1; exact h.mp.not_cells t1
    · rw [← hg] at t2; exact h.mp.not_cells t2
    · exact h.mp.not_cells (t3 _ hg)
  refine ⟨?_, hm, ?_, ?_, ?_⟩
  · rcases hg with rfl | rfl | hg
    · exact t1.ne h.box.tyd (by decide)
    · exact t2.ne h.box.tyd (by decide)
    · exact (t3 _ hg).ne h.box.tyd (by decide)
  · intro ho
    have t4 := own_tyd h.r0 g ho
    rcases hg with rfl | rfl | hg
    · exact t1.ne t4 (by decide) rfl
    · exact t2.ne t4 (by decide) rfl
    · exact (t3 _ hg).ne t4 (by decide) rfl
  · intro ho
    have t4 := own_tyd h.r1 g ho
    rcases hg with rfl | rfl | hg
    · exact t1.ne t4 (by decide) rfl
    · exact t2.ne t4 (by decide) rfl
    · exact (t3 _ hg).ne t4 (by decide) rfl
  · intro ho
    have t4 := own_tyd h.sp g ho
    rcases hg with rfl | rfl | hg
    · exact t1.ne t4 (by decide) rfl
    · exact t2.ne t4 (by decide) rfl
    · exact (t3 _ hg).ne t4 (by decide) rfl
theorem Bk.pb_ne (h : Bk w pb d B) : pb ≠ d.gm ∧ d.s0.ownBlock ≠ some pb ∧ d.s1.ownBlock ≠ some pb ∧ d.spv.ownBlock ≠ some pb :=
  ⟨by rintro rfl; exact h.mp.not_cells h.box.tyd, fun ho => h.box.tyd.ne (own_tyd h.r0 _ ho) (by decide) rfl, fun ho => h.box.tyd.ne (own_tyd h.r1 _ ho) (by decide) rfl, fun ho => h.box.tyd.ne (own_tyd h.sp _ ho) (by decide) rfl⟩
theorem Bk.gm_ne (h : Bk w pb d B) : d.s0.ownBlock ≠ some d.gm ∧ d.s1.ownBlock ≠ some d.gm ∧ d.spv.ownBlock ≠ some d.gm :=
  ⟨fun ho => h.mp.not_cells (own_tyd h.r0 _ ho), fun ho => h.mp.not_cells (own_tyd h.r1 _ ho), fun ho => h.mp.not_cells (own_tyd h.sp _ ho)⟩
theorem Bk.sp_ne (h : Bk w pb d B) {g : Nat} (hg : d.spv.ownBlock = some g) : d.s0.ownBlock ≠ some g ∧ d.s1.ownBlock ≠ some g :=
  ⟨fun ho => (own_tyd h.sp g hg).ne (own_tyd h.r0 g ho) (by decide) rfl, fun ho => (own_tyd h.sp g hg).ne (own_tyd h.r1 g ho) (by decide) rfl⟩
/-- a cell of the book's own box -/
theorem Bk.setBox (h : Bk w pb d B) (i : Nat) (u : Value) (t0 t1 : Int) (h0 h1 : Bool) (hu : BD.cells { d with t0 := t0, t1 := t1, h0 := h0, h1 := h1 } = d.cells.setIfInBounds i u) :
    Tn w (w.setCell ⟨pb, i, none⟩ u) pb B d { d with t0 := t0, t1 := t1, h0 := h0, h1 := h1 } := by
  have hk : Keeps (fun k => k = pb) w (w.setCell ⟨pb, i, none⟩ u) := (Keeps.refl (fun k => k = pb) w).setCell (p := ⟨pb, i, none⟩) (fun _ => rfl) u
  obtain ⟨n1, n2, n3, n4⟩ := h.pb_ne
  have hl : ∀ g, LF d.ab d.sb d.qa g → g ≠ pb := fun g hg => (h.lf_ne hg).1
  refine ⟨⟨by rw [hu]; exact h.box.set_ i u, h.la.keep hk (hl _ (.inl rfl)) (hl _ (.inr (.inl rfl))) (fun g hg => hl g (.inr (.inr hg))), h.mp.keep hk (Ne.symm n1), own_keep h.r0 hk (fun g hg e => n2 (e ▸ hg)), own_keep h.r1 hk (fun g hg e => n3 (e ▸ hg)), own_keep h.sp hk (fun g hg e => n4 (e ▸ hg)), h.ne⟩, fun g hg => .inl hg, hk.more fun k hk => .inl hk, rfl, rfl, rfl⟩
/-- a call of the arena -/
theorem Bk.arena {A' : List (List Ent)} {qa' : Option Addr} (h : Bk w pb d B) (hla : LA w' d.ab d.sb qa' 250 A') (hk : Keeps (LF d.ab d.sb d.qa) w w') (hq : qa' = d.qa ∨ ∃ g, qa' = some ⟨g, 0, none⟩ ∧ w.heap.size ≤ g) :
    Tn w w' pb B d { d with A := A', qa := qa' } := by
  refine ⟨⟨h.box.keeps hk (fun hg => (h.lf_ne hg).1 rfl), hla, h.mp.keep hk (fun hg => (h.lf_ne hg).2.1 rfl), own_keep h.r0 hk (fun g hg e => (h.lf_ne e).2.2.1 hg), own_keep h.r1 hk (fun g hg e => (h.lf_ne e).2.2.2.1 hg), own_keep h.sp hk (fun g hg e => (h.lf_ne e).2.2.2.2 hg), h.ne⟩, ?_, hk.more fun k hk => .inr (.inl hk), rfl, rfl, rfl⟩
  rintro g (hg | (hg | hg | hg) | hg)
  · exact .inl (.inl hg)
  · exact .inl (.inr (.inl (.inl hg)))
  · exact .inl (.inr (.inl (.inr (.inl hg))))
  · rcases hq with hq | ⟨g', hq, hg'⟩
    · exact .inl (.inr (.inl (.inr (.inr (hq ▸ hg)))))
    · have hg2 : qa' = some ⟨g, 0, none⟩ := hg
      rw [hq] at hg2
      injection hg2 with hg2
      injection hg2 with hg2
      subst hg2
      exact .inr hg'
  · exact .inl (.inr (.inr hg))
/-- the map -/
theorem Bk.map_ {M' : List (Int × Pl)} (h : Bk w pb d B) (hm : MapAt w' d.gm (M'.map (fun x => (x.1, x.2.agg)))) (hk : Keeps (fun k => k = d.gm) w w') : Tn w w' pb B d { d with M := M' } := by
  obtain ⟨n1, _, _, _⟩ := h.pb_ne
  obtain ⟨m1, m2, m3⟩ := h.gm_ne
  have hl : ∀ g, LF d.ab d.sb d.qa g → g ≠ d.gm := fun g hg => (h.lf_ne hg).2.1
  exact ⟨⟨h.box.keeps hk n1, h.la.keep hk (hl _ (.inl rfl)) (hl _ (.inr (.inl rfl))) (fun g hg => hl g (.inr (.inr hg))), hm, own_keep h.r0 hk (fun g hg e => m1 (e ▸ hg)), own_keep h.r1 hk (fun g hg e => m2 (e ▸ hg)), own_keep h.sp hk (fun g hg e => m3 (e ▸ hg)), h.ne⟩, fun g hg => .inl hg, hk.more fun k hk => .inr (.inr (.inl hk)), rfl, rfl, rfl⟩
def BD.setR (d : BD) (side : Int) (v : Value) (R : List Rg) : BD := if side = 1 then { d with s0 := v, R0 := R } else { d with s1 := v, R1 := R }
theorem own_new {v' v : Value} {w : World} (hv : v'.ownBlock = v.ownBlock ∨ v'.ownBlock = some w.heap.size) : ∀ g, v'.ownBlock = some g → v.ownBlock = some g ∨ w.heap.size ≤ g := by
  intro g hg
  rcases hv with hv | hv
  · exact .inl (hv ▸ hg)
  · rw [hv] at hg; injection hg with hg; exact .inr (by omega)
/-- rungs of a side -/
theorem Bk.rung {v' : Value} {R' : List Rg} {side : Int} {z : Nat} (h : Bk w pb d B) (hz : z < 2) (hs : side = (z : Int) + 1) (hr : RG.Row w1 B v' R') (hk : Keeps (fun g => (d.sv side).ownBlock = some g) w w1) (hv : v'.ownBlock = (d.sv side).ownBlock ∨ v'.ownBlock = some w.heap.size) :
    Tn w (w1.setCell ⟨pb, 1 + z, none⟩ v') pb B d (d.setR side v' R') := by
  have hk2 : Keeps (fun k => k = pb) w1 (w1.setCell ⟨pb, 1 + z, none⟩ v') := (Keeps.refl (fun k => k = pb) w1).setCell (p := ⟨pb, 1 + z, none⟩) (fun _ => rfl) v'
  obtain ⟨n1, n2, n3, n4⟩ := h.pb_ne
  obtain ⟨m1, m2, m3⟩ := h.gm_ne
  have hlt := h.lt
  have hl : ∀ g, LF d.ab d.sb d.qa g → g ≠ pb := fun g hg => (h.lf_ne hg).1
  have h01 : z = 0 ∨ z = 1 := by omega
  rcases h01 with rfl | rfl
  · have hside : side = 1 := by rw [hs]; rfl
    subst hside
    have hk' : Keeps (fun g => d.s0.ownBlock = some g) w w1 := hk
    have hv' : v'.ownBlock = d.s0.ownBlock ∨ v'.ownBlock = some w.heap.size := hv
    have hon := own_new hv'
    have hbx := (h.box.keeps hk' n2).set_ 1 v'
    have hvp : ∀ g, v'.ownBlock = some g → ¬ g = pb := by
      rintro g hg rfl
      rcases hon g hg with h1 | h1
      · exact n2 h1
      · have := h.box.lt; omega
    refine ⟨⟨hbx, (h.la.keep hk' (fun e => (h.lf_ne (.inl rfl)).2.2.1 e) (fun e => (h.lf_ne (.inr (.inl rfl))).2.2.1 e) (fun g hg e => (h.lf_ne (.inr (.inr hg))).2.2.1 e)).keep hk2 (hl _ (.inl rfl)) (hl _ (.inr (.inl rfl))) (fun g hg => hl g (.inr (.inr hg))), (h.mp.keep hk' m1).keep hk2 (Ne.symm n1), own_keep hr hk2 hvp, own_keep (own_keep h.r1 hk' (fun g hg e => h.ne g e hg)) hk2 (fun g hg e => n3 (e ▸ hg)), own_keep (own_keep h.sp hk' (fun g hg e => (h.sp_ne hg).1 e)) hk2 (fun g hg e => n4 (e ▸ hg)), ?_⟩, ?_, ?_, rfl, rfl, rfl⟩
    · intro g hg h1
      rcases hon g hg with h2 | h2
      · exact h.ne g h2 h1
      · have := hlt g (.inr (.inr (.inr (.inr (.inl h1))))); omega
    · rintro g (hg | hg | hg | hg | hg)
      · exact .inl (.inl hg)
      · exact .inl (.inr (.inl hg))
      · exact .inl (.inr (.inr (.inl hg)))
      · rcases hon g hg with h1 | h1
        · exact .inl (.inr (.inr (.inr (.inl h1))))
        · exact .inr h1
      · exact .inl (.inr (.inr (.inr (.inr hg))))
    · exact (hk'.more fun k hk => .inr (.inr (.inr (.inl hk)))).trans (hk2.more fun k hk => .inl hk)
  · have hside : side = 2 := by rw [hs]; rfl
    subst hside
    have hk' : Keeps (fun g => d.s1.ownBlock = some g) w w1 := hk
    have hv' : v'.ownBlock = d.s1.ownBlock ∨ v'.ownBlock = some w.heap.size := hv
    have hon := own_new hv'
    have hbx := (h.box.keeps hk' n3).set_ 2 v'
    have hvp : ∀ g, v'.ownBlock = some g → ¬ g = pb := by
      rintro g hg rfl
      rcases hon g hg with h1 | h1
      · exact n3 h1
      · have := h.box.lt; omega
    refine ⟨⟨hbx, (h.la.keep hk' (fun e => (h.lf_ne (.inl rfl)).2.2.2.1 e) (fun e => (h.lf_ne (.inr (.inl rfl))).2.2.2.1 e) (fun g hg e => (h.lf_ne (.inr (.inr hg))).2.2.2.1 e)).keep hk2 (hl _ (.inl rfl)) (hl _ (.inr (.inl rfl))) (fun g hg => hl g (.inr (.inr hg))), (h.mp.keep hk' m2).keep hk2 (Ne.symm n1), own_keep (own_keep h.r0 hk' (fun g hg e => h.ne g hg e)) hk2 (fun g hg e => n2 (e ▸ hg)), own_keep hr hk2 hvp, own_keep (own_keep h.sp hk' (fun g hg e => (h.sp_ne hg).2 e)) hk2 (fun g hg e => n4 (e ▸ hg)), ?_⟩, ?_, ?_, rfl, rfl, rfl⟩
    · intro g hg h1
      rcases hon g h1 with h2 | h2
      · exact h.ne g hg h2
      · have := hlt g (.inr (.inr (.inr (.inl hg)))); omega
    · rintro g (hg | hg | hg | hg | hg | hg)
      · exact .inl (.inl hg)
      · exact .inl (.inr (.inl hg))
      · exact .inl (.inr (.inr (.inl hg)))
      · exact .inl (.inr (.inr (.inr (.inl hg))))
      · rcases hon g hg with h1 | h1
        · exact .inl (.inr (.inr (.inr (.inr (.inl h1)))))
        · exact .inr h1
      · exact .inl (.inr (.inr (.inr (.inr (.inr hg)))))
    · exact (hk'.more fun k hk => .inr (.inr (.inr (.inr (.inl hk))))).trans (hk2.more fun k hk => .inl hk)
/-- spare queues -/
theorem Bk.spare {v' : Value} {L' : List Nat} (h : Bk w pb d B) (hr : RowI w1 B 3 v' (L'.map (fun (n : Nat) => (n : Int)))) (hk : Keeps (fun g => d.spv.ownBlock = some g) w w1) (hon : ∀ g, v'.ownBlock = some g → d.spv.ownBlock = some g ∨ w.heap.size ≤ g) :
    Tn w (w1.setCell ⟨pb, 6, none⟩ v') pb B d { d with spv := v', sp := L' } := by
  have hk2 : Keeps (fun k => k = pb) w1 (w1.setCell ⟨pb, 6, none⟩ v') := (Keeps.refl (fun k => k = pb) w1).setCell (p := ⟨pb, 6, none⟩) (fun _ => rfl) v'
  obtain ⟨n1, n2, n3, n4⟩ := h.pb_ne
  obtain ⟨m1, m2, m3⟩ := h.gm_ne
  have hl : ∀ g, LF d.ab d.sb d.qa g → g ≠ pb := fun g hg => (h.lf_ne hg).1
  have hbx := (h.box.keeps hk n4).set_ 6 v'
  have hvp : ∀ g, v'.ownBlock = some g → ¬ g = pb := by
    rintro g hg rfl
    rcases hon g hg with h1 | h1
    · exact n4 h1
    · have := h.box.lt; omega
  refine ⟨⟨hbx, (h.la.keep hk (fun e => (h.lf_ne (.inl rfl)).2.2.2.2 e) (fun e => (h.lf_ne (.inr (.inl rfl))).2.2.2.2 e) (fun g hg e => (h.lf_ne (.inr (.inr hg))).2.2.2.2 e)).keep hk2 (hl _ (.inl rfl)) (hl _ (.inr (.inl rfl))) (fun g hg => hl g (.inr (.inr hg))), (h.mp.keep hk m3).keep hk2 (Ne.symm n1), own_keep (own_keep h.r0 hk (fun g hg e => (h.sp_ne e).1 hg)) hk2 (fun g hg e => n2 (e ▸ hg)), own_keep (own_keep h.r1 hk (fun g hg e => (h.sp_ne e).2 hg)) hk2 (fun g hg e => n3 (e ▸ hg)), own_keep hr hk2 hvp, h.ne⟩, ?_, ?_, rfl, rfl, rfl⟩
  · rintro g (hg | hg | hg | hg | hg | hg)
    · exact .inl (.inl hg)
    · exact .inl (.inr (.inl hg))
    · exact .inl (.inr (.inr (.inl hg)))
    · exact .inl (.inr (.inr (.inr (.inl hg))))
    · exact .inl (.inr (.inr (.inr (.inr (.inl hg)))))
    · rcases hon g hg with h1 | h1
      · exact .inl (.inr (.inr (.inr (.inr (.inr h1)))))
      · exact .inr h1
  · exact (hk.more fun k hk => .inr (.inr (.inr (.inr (.inr hk))))).trans (hk2.more fun k hk => .inl hk)
end
end Go.Proofs.Ytmhljdkhekjfmaa

/- What the book's calls do to its data, as plain functions. No walk. -/
namespace Go.Proofs.Ytmhljdkhekjfmaa
open Go.RowKit

/-- a book's data, wherever it lies -/
structure BA where
  A : List (List Ent)
  R0 : List Rg
  R1 : List Rg
  sp : List Nat
  M : List (Int × Pl)
  t0 : Int
  t1 : Int
  h0 : Bool
  h1 : Bool
def BD.abs (d : BD) : BA := ⟨d.A, d.R0, d.R1, d.sp, d.M, d.t0, d.t1, d.h0, d.h1⟩
def BA.R (d : BA) (side : Int) : List Rg := if side = 1 then d.R0 else d.R1
def BA.t (d : BA) (side : Int) : Int := if side = 1 then d.t0 else d.t1
def BA.h (d : BA) (side : Int) : Bool := if side = 1 then d.h0 else d.h1
def BA.setR (d : BA) (side : Int) (R : List Rg) : BA := if side = 1 then { d with R0 := R } else { d with R1 := R }
def BA.setT (d : BA) (side : Int) (id : Int) : BA := if side = 1 then { d with t0 := id } else { d with t1 := id }
def BA.setH (d : BA) (side : Int) (b : Bool) : BA := if side = 1 then { d with h0 := b } else { d with h1 := b }
def lookPl (M : List (Int × Pl)) (k : Int) : Option Pl := (M.find? (fun x => x.1 == k)).map (fun x => x.2)
def dropPl (M : List (Int × Pl)) (k : Int) : List (Int × Pl) := M.eraseP (fun x => x.1 == k)
theorem look_mv (M : List (Int × Pl)) (k : Int) : lookM (M.map (fun x => (x.1, x.2.agg))) k = (lookPl M k).map Pl.agg := by
  unfold lookM lookPl
  induction M with
  | nil => rfl
  | cons x M ih =>
    by_cases hc : x.1 = k
    · rw [List.map_cons, List.find?_cons_of_pos (by simpa using hc), List.find?_cons_of_pos (by simpa using hc)]; rfl
    · rw [List.map_cons, List.find?_cons_of_neg (by simpa using hc), List.find?_cons_of_neg (by simpa using hc)]; exact ih
theorem drop_mv (M : List (Int × Pl)) (k : Int) : dropM (M.map (fun x => (x.1, x.2.agg))) k = (dropPl M k).map (fun x => (x.1, x.2.agg)) := by
  unfold dropM dropPl
  induction M with
  | nil => rfl
  | cons x M ih =>
    by_cases hc : x.1 = k
    · rw [List.map_cons, List.eraseP_cons_of_pos (by simpa using hc), List.eraseP_cons_of_pos (by simpa using hc)]
    · rw [List.map_cons, List.eraseP_cons_of_neg (by simpa using hc), List.eraseP_cons_of_neg (by simpa using hc), ih]; rfl
theorem zero_place (w : World) : (zeroValue 71).run Try.prog w = .ok zeroPl.agg w := by
  have h : (Try.prog.info? 71).map (fun i => (i.zero, i.size, i.bytes)) = some (some zeroPl.agg, 3, 24) := by kernel_rfl
  obtain ⟨i0, hi, hz0, hz1, hz2⟩ := info_parts h
  simp [zeroValue, typeInfo, hi, hz0]
section
variable {w : World} {pb B : Nat} {d : BD}
theorem Bk.look (h : Bk w pb d B) (k : Int) : (Instr.lookup 58 (.map (some d.gm)) (.int .i64 k) true).run Try.prog w = .ok (.tuple #[((lookPl d.M k).getD zeroPl).agg, .bool (lookPl d.M k).isSome]) w := by
  have h1 := h.mp.look (P := Try.prog) Try.underlying58 Try.underlying2 zeroPl.agg zero_place k
  unfold BD.mv at h1
  rw [look_mv] at h1
  cases hl : lookPl d.M k <;> rw [hl] at h1 <;> exact h1
end
def entE (A : List (List Ent)) (i : Int) : Ent := match findA A i with | some (_, _, e) => e | none => ⟨0, 0, 0, false⟩
theorem entOf_eq (A : List (List Ent)) (i : Int) : entOf A i = ((entE A i).agg, (findA A i).isSome) := by
  unfold entOf entE
  cases findA A i with
  | none => rfl
  | some x => rfl
def fndO (d : BA) (id : Int) : Od × Bool := match lookPl d.M id with
  | none => (zeroOd, false)
  | some p => (⟨id, p.side, p.price, (entE d.A p.slot).qty, (entE d.A p.slot).top⟩, true)
/-- the arena where who led a side is its top no more -/
def oldA (A : List (List Ent)) (lp : Option Pl) (side : Int) : List (List Ent) := match lp with | some p => if p.side = side then (topA A p.slot false).1 else A | none => A
theorem oldA_yes {A : List (List Ent)} {p : Pl} {side : Int} (h : p.side = side) : oldA A (some p) side = (topA A p.slot false).1 := if_pos h
theorem oldA_no {A : List (List Ent)} {p : Pl} {side : Int} (h : ¬ p.side = side) : oldA A (some p) side = A := if_neg h
def leadB (a : BA) (id side : Int) : BA := (({ a with A := if a.h side = true then oldA a.A (lookPl a.M (a.t side)) side else a.A } : BA).setT side id).setH side true
/-- a queue for a new price -/
def qbase (a : BA) : BA × Nat := match a.sp.getLast? with | some q => ({ a with sp := a.sp.dropLast }, q) | none => ({ a with A := a.A ++ [[]] }, a.A.length)
theorem qbase_some {a : BA} {q : Nat} (h : a.sp.getLast? = some q) : qbase a = ({ a with sp := a.sp.dropLast }, q) := by unfold qbase; rw [h]
theorem qbase_none {a : BA} (h : a.sp.getLast? = none) : qbase a = ({ a with A := a.A ++ [[]] }, a.A.length) := by unfold qbase; rw [h]
theorem qbase_R (a : BA) (side : Int) : (qbase a).1.R side = a.R side := by
  unfold qbase
  split <;> rfl
def rungAt (R : List Rg) (n : Nat) : Nat := match R[n]? with | some r => r.q | none => 0
theorem rungAt_some {R : List Rg} {n : Nat} {r : Rg} (h : R[n]? = some r) : rungAt R n = r.q := by unfold rungAt; rw [h]
def insR (R : List Rg) (n : Nat) (price : Int) (q : Nat) : List Rg := R.take n ++ [Rg.mk price q] ++ R.drop n
def queueB (a : BA) (side price : Int) : BA × Nat :=
  if (fnd (a.R side) side price).2 = true then (a, rungAt (a.R side) (fnd (a.R side) side price).1)
  else ((qbase a).1.setR side (insR (a.R side) (fnd (a.R side) side price).1 price (qbase a).2), (qbase a).2)
def dropB (a : BA) (id : Int) (x : Pl) : BA :=
  let a1 : BA := { a with M := dropPl a.M id }
  let a2 := if a1.h x.side = true ∧ a1.t x.side = id then a1.setH x.side false else a1
  match (a2.R x.side)[(fnd (a2.R x.side) x.side x.price).1]? with
  | some r => if cntA a2.A r.q = 0 then { a2 with sp := a2.sp ++ [r.q] }.setR x.side ((a2.R x.side).eraseIdx (fnd (a2.R x.side) x.side x.price).1) else a2
  | none => a2
end Go.Proofs.Ytmhljdkhekjfmaa

/- The walk of the book's lead. -/
namespace Go.Proofs.Ytmhljdkhekjfmaa
open Go.RowKit

section
variable {w w' : World} {pb B : Nat} {d : BD}
theorem Bk.t_cell (h : Bk w pb d B) {side : Int} {z : Nat} (hz : z < 2) (hs : side = (z : Int) + 1) : w.cell? ⟨pb, 4 + z, none⟩ = some (.int .i64 (d.abs.t side)) ∧ w.cell? ⟨pb, 7 + z, none⟩ = some (.bool (d.abs.h side)) := by
  have hbc := BC.of h.box
  have : z = 0 ∨ z = 1 := by omega
  rcases this with rfl | rfl
  · subst hs; exact ⟨hbc.2.2.2.2.1, hbc.2.2.2.2.2.2.2.1⟩
  · subst hs; exact ⟨hbc.2.2.2.2.2.1, hbc.2.2.2.2.2.2.2.2⟩
theorem Tn.setT (h : Bk w pb d B) {side : Int} {z : Nat} (hz : z < 2) (hs : side = (z : Int) + 1) (id : Int) : ∃ d', Tn w (w.setCell ⟨pb, 4 + z, none⟩ (.int .i64 id)) pb B d d' ∧ d'.abs = d.abs.setT side id := by
  have : z = 0 ∨ z = 1 := by omega
  rcases this with rfl | rfl
  · subst hs; exact ⟨_, h.setBox 4 (.int .i64 id) id d.t1 d.h0 d.h1 rfl, rfl⟩
  · subst hs; exact ⟨_, h.setBox 5 (.int .i64 id) d.t0 id d.h0 d.h1 rfl, rfl⟩
theorem Tn.setH (h : Bk w pb d B) {side : Int} {z : Nat} (hz : z < 2) (hs : side = (z : Int) + 1) (b : Bool) : ∃ d', Tn w (w.setCell ⟨pb, 7 + z, none⟩ (.bool b)) pb B d d' ∧ d'.abs = d.abs.setH side b := by
  have : z = 0 ∨ z = 1 := by omega
  rcases this with rfl | rfl
  · subst hs; exact ⟨_, h.setBox 7 (.bool b) d.t0 d.t1 b d.h1 rfl, rfl⟩
  · subst hs; exact ⟨_, h.setBox 8 (.bool b) d.t0 d.t1 d.h0 b rfl, rfl⟩
/-- both stores -/
theorem Tn.led (h : Bk w pb d B) {side : Int} {z : Nat} (hz : z < 2) (hs : side = (z : Int) + 1) (id : Int) : ∃ d', Tn w ((w.setCell ⟨pb, 4 + z, none⟩ (.int .i64 id)).setCell ⟨pb, 7 + z, none⟩ (.bool true)).drew pb B d d' ∧ d'.abs = (d.abs.setT side id).setH side true := by
  obtain ⟨d1, h1, e1⟩ := Tn.setT h hz hs id
  obtain ⟨d2, h2, e2⟩ := Tn.setH h1.bk hz hs true
  exact ⟨d2, (h1.trans h2).below (Below.drewN_of _ 1), by rw [e2, e1]⟩
set_option maxRecDepth 100000 in
set_option maxHeartbeats 8000000 in
theorem lead_any (h : Bk w pb d B) (id side : Int) (hs : side = 1 ∨ side = 2) :
    Calls Try.prog 28 #[.pointer (some ⟨pb, 0, none⟩), .int .i64 id, .int .i64 side] w fun e w' => e = .returned (.tuple #[]) ∧ ∃ d', Tn w w' pb B d d' ∧ d'.abs = leadB d.abs id side := by
  obtain ⟨z, hz, hsz, yz⟩ := side_z hs
  obtain ⟨t1, t2⟩ := h.t_cell hz hsz
  have HB := Lib.hid h
  have HSZ := Lib.hid hsz
  have fz : ∀ o, w.frozen? ⟨pb, o, none⟩ = false := fun o => h.box.frozen o
  have n1 : ¬ (4 + z = 7 + z) := by omega
  have n2 : ¬ (7 + z = 4 + z) := by omega
  cases hh : d.abs.h side with
  | false =>
    rw [hh] at t2
    have HE : Hid (leadB d.abs id side = (d.abs.setT side id).setH side true) := Lib.hid (by unfold leadB; rw [hh]; rfl)
    clear h hsz hs hh
    go_enter Try.func28, Try.ntmps28
    go_wp2_with fail
    go_region
    obtain ⟨d', h1, h2⟩ := Tn.led HB.out hz HSZ.out id
    have H1 := Lib.hid h1
    clear h1 t1 t2 fz
    go_wp2_with fail
    go_end0
    exact ⟨by trivial, d', H1.out, by rw [h2, HE.out]⟩
  | true =>
    rw [hh] at t2
    have c0 := (BC.of h.box).1
    have c3 := (BC.of h.box).2.2.2.1
    obtain ⟨t, ht⟩ : ∃ t, d.abs.t side = t := ⟨_, rfl⟩
    rw [ht] at t1
    obtain ⟨lp, hlp⟩ : ∃ lp, lookPl d.M t = lp := ⟨_, rfl⟩
    have HLE : Hid (leadB d.abs id side = (({ d.abs with A := oldA d.A lp side } : BA).setT side id).setH side true) := Lib.hid (by
      unfold leadB
      rw [hh, ht, show d.abs.M = d.M from rfl, hlp]
      rfl)
    have HLK : Hid (∀ wv, Below w.heap.size w wv → (Instr.lookup 58 (.map (some d.gm)) (.int .i64 t) true).run Try.prog wv = .ok (.tuple #[(lp.getD zeroPl).agg, .bool lp.isSome]) wv) := Lib.hid fun wv hb => by
      rw [(h.below hb).look, hlp]
    have hbal := Below.allocN w (.cells #[.int .i64 0, .int .i64 0, .int .i64 0] 71)
    have a3 : (w.alloc (.cells #[.int .i64 0, .int .i64 0, .int .i64 0] 71)).cell? ⟨pb, 3, none⟩ = some (.map (some d.gm)) := (hbal.cell (p := ⟨pb, 3, none⟩) h.box.lt).trans c3
    have a4 : (w.alloc (.cells #[.int .i64 0, .int .i64 0, .int .i64 0] 71)).cell? ⟨pb, 4 + z, none⟩ = some (.int .i64 t) := (hbal.cell (p := ⟨pb, 4 + z, none⟩) h.box.lt).trans t1
    have hz2 : (z : Int) < 2 := by omega
    clear hbal
    clear h hsz hs hh ht hlp
    obtain ⟨p, hp⟩ : ∃ p, lp.getD zeroPl = p := ⟨_, rfl⟩
    rw [hp] at HLK
    have k1 := HLK.out w.drew (Below.drewN_of w 1)
    have k2 := HLK.out (w.alloc (.cells #[.int .i64 0, .int .i64 0, .int .i64 0] 71)).drew ((Below.allocN w (.cells #[.int .i64 0, .int .i64 0, .int .i64 0] 71)).drew)
    have k3 := HLK.out (w.drew.alloc (.cells #[.int .i64 0, .int .i64 0, .int .i64 0] 71)) ((Below.drewN_of w 1).trans (Below.allocN w.drew (.cells #[.int .i64 0, .int .i64 0, .int .i64 0] 71)))
    have k4 := HLK.out w (Below.refl _ _)
    unfold Pl.agg at k1 k2 k3 k4
    go_enter Try.func28, Try.ntmps28
    go_upto_region 1 with (fail)
    go_cut [6, 7] (fun u v wx => ∃ gx, u = .pointer (some ⟨gx, 0, none⟩) ∧ v = .bool lp.isSome ∧ Blk wx gx 71 #[.int .i64 p.side, .int .i64 p.price, .int .i64 p.slot] ∧ Below w.heap.size w wx)
    case first =>
      have hfin : Blk (w.alloc (.cells #[.int .i64 p.side, .int .i64 p.price, .int .i64 p.slot] 71)).drew w.heap.size 71 #[.int .i64 p.side, .int .i64 p.price, .int .i64 p.slot] ∧ Below w.heap.size w (w.alloc (.cells #[.int .i64 p.side, .int .i64 p.price, .int .i64 p.slot] 71)).drew := ⟨Blk.new _ _ _, (Below.allocN _ _).drew⟩
      have HFIN := Lib.hid hfin
      clear hfin
      go_region
      all_goals (go_wp2_with fail; go_meet)
      all_goals exact ⟨_, rfl, rfl, HFIN.out.1, HFIN.out.2⟩
    case rest =>
    obtain ⟨gx, rfl, rfl, hx, hb⟩ := hcut
    obtain ⟨wx, rfl⟩ : ∃ wo : World, wo = wc := ⟨_, rfl⟩
    have HX := Lib.hid hx
    have HT := Lib.hid (Tn.of_below HB.out hb)
    have HP := Lib.hid hp
    clear k1 k2 k3 k4 a3 a4 t1 t2 c0 c3 fz HLK hx hb hp
    cases lp with
    | none =>
      obtain ⟨t3, t4⟩ := HT.out.bk.t_cell hz HSZ.out
      have fz : ∀ o, wx.frozen? ⟨pb, o, none⟩ = false := fun o => HT.out.bk.box.frozen o
      go_wp2_with fail
      go_region
      obtain ⟨d', h1, h2⟩ := Tn.led HT.out.bk hz HSZ.out id
      have H1 := Lib.hid (HT.out.trans h1)
      clear h1 t3 t4 fz
      go_wp2_with fail
      go_end0
      exact ⟨by trivial, d', H1.out, by rw [h2, HLE.out]; rfl⟩
    | some p' =>
      obtain rfl : p' = p := HP.out
      have x0 : wx.cell? ⟨gx, 0, none⟩ = some (.int .i64 p'.side) := HX.out.cell 0
      have x2 : wx.cell? ⟨gx, 2, none⟩ = some (.int .i64 p'.slot) := HX.out.cell 2
      by_cases hps : p'.side = side
      · have e1 : (p'.side == side) = true := by rw [beq_iff_eq]; exact hps
        have HPS := Lib.hid hps
        have c0 := (BC.of HT.out.bk.box).1
        clear hps
        go_upto_region 3 with (fail)
        refine wp_region_E (S := fun w' => w'.cell? ⟨pb, 0, none⟩ = some (.pointer (some ⟨d.ab, 0, none⟩)) ∧ w'.cell? ⟨gx, 2, none⟩ = some (.int .i64 p'.slot)) (by kernel_rfl) ⟨c0, x2⟩ (fun hHeld => ?_)
        refine wpE_take (i := 0) (oi := ?oi1) (v := ?v1) ?hi1 (by kernel_rfl) (by kernel_rfl) (by kernel_rfl) (by kernel_rfl) ?hQ1 ?hy1 (by assumption) ?rest1
        case hi1 => (simp only [List.getElem?_toArray]; rfl)
        case hQ1 => exact fun _ _ _ h => h
        case hy1 => exact Or.inl ⟨by rfl, by (intro w hSw; (try dsimp only at hSw); go_simp; try with_reducible rfl)⟩
        try simp only [Act.put, List.setIfInBounds_toArray, List.set_cons_zero, List.set_cons_succ]
        refine wpE_take (i := 1) (oi := ?oi2) (v := ?v2) ?hi2 (by kernel_rfl) (by kernel_rfl) (by kernel_rfl) (by kernel_rfl) ?hQ2 ?hy2 (by assumption) ?rest2
        case hi2 => (simp only [List.getElem?_toArray]; rfl)
        case hQ2 => exact fun _ _ _ h => h
        case hy2 => exact Or.inl ⟨by rfl, by (intro w hSw; (try dsimp only at hSw); go_simp; try with_reducible rfl)⟩
        try simp only [Act.put, List.setIfInBounds_toArray, List.set_cons_zero, List.set_cons_succ]
        refine wpE_take (i := 2) (oi := ?oi3) (v := ?v3) ?hi3 (by kernel_rfl) (by kernel_rfl) (by kernel_rfl) (by kernel_rfl) ?hQ3 ?hy3 (by assumption) ?rest3
        case hi3 => (simp only [List.getElem?_toArray]; rfl)
        case hQ3 => exact fun _ _ _ h => h
        case hy3 => exact Or.inl ⟨by rfl, by (intro w hSw; (try dsimp only at hSw); go_simp; try with_reducible rfl)⟩
        try simp only [Act.put, List.setIfInBounds_toArray, List.set_cons_zero, List.set_cons_succ]
        refine wpE_take (i := 3) (oi := ?oi4) (v := ?v4) ?hi4 (by kernel_rfl) (by kernel_rfl) (by kernel_rfl) (by kernel_rfl) ?hQ4 ?hy4 (by assumption) ?rest4
        case hi4 => (simp only [List.getElem?_toArray]; rfl)
        case hQ4 => exact fun _ _ _ h => h
        case hy4 => exact Or.inl ⟨by rfl, by (intro w hSw; (try dsimp only at hSw); go_simp; try with_reducible rfl)⟩
        try simp only [Act.put, List.setIfInBounds_toArray, List.set_cons_zero, List.set_cons_succ]
        refine wpE_take (i := 4) (oi := ?oi5) (v := ?v5) ?hi5 (by kernel_rfl) (by kernel_rfl) (by kernel_rfl) (by kernel_rfl) ?hQ5 ?hy5 (by assumption) ?rest5
        case hi5 => (simp only [List.getElem?_toArray]; rfl)
        case hQ5 => exact fun _ _ _ h => h
        case hy5 => exact Or.inl ⟨by rfl, by (intro w hSw; (try dsimp only at hSw); go_simp; try with_reducible rfl)⟩
        try simp only [Act.put, List.setIfInBounds_toArray, List.set_cons_zero, List.set_cons_succ]
        refine wpE_take (i := 5) (oi := ?oi6) (v := ?v6) ?hi6 (by kernel_rfl) (by kernel_rfl) (by kernel_rfl) (by kernel_rfl) ?hQ6 ?hy6 (by assumption) ?rest6
        case hi6 => (simp only [List.getElem?_toArray]; rfl)
        case hQ6 => exact fun _ _ _ h => h
        case hy6 => exact Or.inl ⟨by rfl, by (intro w hSw; (try dsimp only at hSw); go_simp; try with_reducible rfl)⟩
        try simp only [Act.put, List.setIfInBounds_toArray, List.set_cons_zero, List.set_cons_succ]
        refine wpE_last (i := 6) (o := ?o7) ?ho7 (by kernel_rfl) (by kernel_rfl) (by kernel_rfl) (fun K hK => ?_)
        case ho7 => (simp only [List.getElem?_toArray]; rfl)
        go_simp
        go_at_call 47
        have HLA : Hid (LA wx.drew d.ab d.sb d.qa 250 d.A) := Lib.hid (HT.out.bk.la.below (Below.drewN_of wx 1))
        refine (la_top (w := wx.drew) HLA.out p'.slot false).mono ?_
        rintro e wy ⟨rfl, hla, hk⟩
        have hT1 := (HT.out.below (Below.drewN_of wx 1)).trans ((HT.out.bk.below (Below.drewN_of wx 1)).arena hla hk (.inl rfl))
        refine hK.out _ _ ?_
        clear hK K hHeld HLA hla hk c0 x0 x2 HX HT
        obtain ⟨wx, rfl⟩ : ∃ wo : World, wo = wy := ⟨_, rfl⟩
        have HT := Lib.hid hT1
        have HA : Hid (({ d with A := (topA d.A p'.slot false).1, qa := d.qa } : BD).abs = ({ d.abs with A := oldA d.A (some p') side } : BA)) := Lib.hid (by
          rw [oldA_yes HPS.out]; rfl)
        clear hT1
        generalize ({ d with A := (topA d.A p'.slot false).1, qa := d.qa } : BD) = d1 at *
        obtain ⟨t3, t4⟩ := HT.out.bk.t_cell hz HSZ.out
        have fz : ∀ o, wx.frozen? ⟨pb, o, none⟩ = false := fun o => HT.out.bk.box.frozen o
        go_wp2_with fail
        go_region
        obtain ⟨d', h1, h2⟩ := Tn.led HT.out.bk hz HSZ.out id
        have H1 := Lib.hid (HT.out.trans h1)
        clear h1 t3 t4 fz
        go_wp2_with fail
        go_end0
        exact ⟨by trivial, d', H1.out, by rw [h2, HLE.out, HA.out]⟩
      · have e1 : (p'.side == side) = false := by rw [beq_eq_false_iff_ne]; exact hps
        have HPS := Lib.hid hps
        clear hps
        go_upto_region 4 with (fail)
        clear x0 x2
        obtain ⟨t3, t4⟩ := HT.out.bk.t_cell hz HSZ.out
        have fz : ∀ o, wx.frozen? ⟨pb, o, none⟩ = false := fun o => HT.out.bk.box.frozen o
        go_wp2_with fail
        go_region
        obtain ⟨d', h1, h2⟩ := Tn.led HT.out.bk hz HSZ.out id
        have H1 := Lib.hid (HT.out.trans h1)
        clear h1 t3 t4 fz
        go_wp2_with fail
        go_end0
        exact ⟨by trivial, d', H1.out, by rw [h2, HLE.out, oldA_no HPS.out]; rfl⟩
end
end Go.Proofs.Ytmhljdkhekjfmaa

/- The walk of the book's queue. -/
namespace Go.Proofs.Ytmhljdkhekjfmaa
open Go.RowKit

theorem setR_abs (d : BD) (side : Int) (v : Value) (R : List Rg) : (d.setR side v R).abs = d.abs.setR side R := by
  unfold BD.setR BA.setR
  split <;> rfl
theorem row_init {w : World} {B g c m : Nat} {L : List Nat} (h : RowI w B 3 (.slice (some ⟨g, 0, none⟩) m c) (L.map (fun (n : Nat) => (n : Int)))) (hm : L.length = m) : RowI w B 3 (.slice (some ⟨g, 0, none⟩) (m - 1) c) (L.dropLast.map (fun (n : Nat) => (n : Int))) := by
  have hl : (L.dropLast.map (fun (n : Nat) => (n : Int))).length = m - 1 := by rw [List.length_map, List.length_dropLast, hm]
  rcases h.2 with ⟨hv, _⟩ | ⟨g', c', cur, hv, hb, hh, r1, r2, r3, r4⟩
  · injection hv with hv; cases hv
  · injection hv with hv hn hc
    injection hv with hv
    injection hv with hv
    subst hv; subst hc
    refine ⟨by rw [List.length_map, Nat.mul_one], .inr ⟨g, c, cur, by rw [hl], hb, hh, by rw [hl]; rw [List.length_map, hm] at r1; omega, r2, r3, ?_⟩⟩
    rw [hl]
    rw [List.length_map, hm] at r4
    have e : cur.toList.take ((m - 1) * 1) = (cur.toList.take (m * 1)).take (m - 1) := by rw [List.take_take]; congr 1; omega
    rw [e, r4, List.map_dropLast, List.map_dropLast, List.dropLast_eq_take, List.length_map, List.length_map, hm]
theorem row_last {w : World} {B g c m : Nat} {L : List Nat} {q : Nat} (h : RowI w B 3 (.slice (some ⟨g, 0, none⟩) m c) (L.map (fun (n : Nat) => (n : Int)))) (hm : L.length = m) (hq : L.getLast? = some q) : w.cell? ⟨g, m - 1, none⟩ = some (.int .i64 q) := by
  have h0 : 0 < m := by
    rcases Nat.eq_zero_or_pos m with h1 | h1
    · rw [h1] at hm; rw [List.length_eq_zero_iff.1 hm] at hq; cases hq
    · exact h1
  rcases h.2 with ⟨hv, _⟩ | ⟨g', c', cur, hv, hb, hh, r1, r2, r3, r4⟩
  · injection hv with hv; cases hv
  · injection hv with hv hn hc
    injection hv with hv
    injection hv with hv
    subst hv
    rw [List.length_map, hm] at r4
    have hb2 : Blk w g 3 cur := hh
    rw [hb2.cell, ← Array.getElem?_toList]
    have e : (cur.toList.take (m * 1))[m - 1]? = cur.toList[m - 1]? := by rw [List.getElem?_take, if_pos (by omega)]
    rw [← e, r4, List.getElem?_map, List.getElem?_map, ← hm, ← List.getLast?_eq_getElem?, hq]
    rfl
section
variable {w w' : World} {pb B : Nat} {d : BD}
set_option maxRecDepth 100000 in
set_option maxHeartbeats 16000000 in
theorem queue_any (h : Bk w pb d B) (side price : Int) (hs : side = 1 ∨ side = 2) (hl : (d.R side).length ≤ 1000) (hA : d.A.length ≤ 1000000) (hsp : d.sp.length ≤ 1000000) (hB : B ≤ w.heap.size) :
    Calls Try.prog 30 #[.pointer (some ⟨pb, 0, none⟩), .int .i64 side, .int .i64 price] w fun e w' => e = .returned (.int .i64 (queueB d.abs side price).2) ∧ ∃ d', Tn w w' pb B d d' ∧ d'.abs = (queueB d.abs side price).1 := by
  have s1 : ∀ (w : World) (o : Obj), (w.alloc o).heap.size = w.heap.size + 1 := fun w o => by simp
  obtain ⟨z, hz, hsz, yz⟩ := side_z hs
  have hz2 : (z : Int) < 2 := by omega
  obtain ⟨a, c, _, hrd, hcell⟩ := h.side_cell hz hsz
  have HB := Lib.hid h
  have HSZ := Lib.hid hsz
  have HRD := Lib.hid hrd
  have HCE := Lib.hid hcell
  have HF := Lib.hid (find_any9 h side price hs (by omega))
  have HQE : Hid (queueB d.abs side price = if (fnd (d.R side) side price).2 = true then (d.abs, rungAt (d.R side) (fnd (d.R side) side price).1) else ((qbase d.abs).1.setR side (insR (d.R side) (fnd (d.R side) side price).1 price (qbase d.abs).2), (qbase d.abs).2)) := Lib.hid rfl
  have hfx : (fnd (d.R side) side price).2 = true → ∃ r, (d.R side)[(fnd (d.R side) side price).1]? = some r := by
    intro h
    unfold fnd at h ⊢
    cases hr : (d.R side)[ahead (d.R side) side price]? with
    | some r => exact ⟨r, rfl⟩
    | none => rw [hr] at h; cases h
  have hnl0 : (fnd (d.R side) side price).1 ≤ (d.R side).length := by
    unfold fnd ahead
    exact List.Sublist.length_le (List.takeWhile_sublist _)
  clear h hsz hs hrd hcell
  go_enter Try.func30, Try.ntmps30
  go_wp2_with fail
  refine HF.out.mono ?_
  rintro e w1 ⟨rfl, hb⟩
  have HB1 := Lib.hid hb
  clear hb HF
  generalize (fnd (d.R side) side price).1 = n at *
  cases hf : (fnd (d.R side) side price).2 with
  | true =>
    obtain ⟨r, hr⟩ := hfx hf
    rw [hf, rungAt_some hr] at HQE
    obtain ⟨rb, off, rfl, hrb, hcr⟩ := HRD.out n r hr
    have hcr2 := hcr.below HB1.out hrb
    have c1 := HCE.out w1 HB1.out
    have hnl : (n : Int) < ((d.R side).length : Int) := by have := lt_of_get hr; omega
    have r1 : w1.cell? ⟨rb, off + n * 2 + 1, none⟩ = some (.int .i64 r.q) := hcr2 1 _ rfl
    clear hf hr hcr hrb hcr2 hfx
    go_wp2_with fail
    go_ret
    exact ⟨by rw [HQE.out]; rfl, d, Tn.of_below HB.out HB1.out, by rw [HQE.out]; rfl⟩
  | false =>
    rw [hf] at HQE
    replace HQE : Hid (queueB d.abs side price = ((qbase d.abs).1.setR side (insR (d.R side) n price (qbase d.abs).2), (qbase d.abs).2)) := Lib.hid HQE.out
    clear hf hfx
    have hsr := (HB.out.below HB1.out).sp
    obtain ⟨sa, sc, hsv⟩ := own_form hsr
    rw [List.length_map] at hsv
    have c6 : w1.cell? ⟨pb, 6, none⟩ = some (.slice sa d.sp.length sc) := by rw [← hsv]; exact (BC.of (HB.out.below HB1.out).box).2.2.2.2.2.2.1
    have c0 : w1.cell? ⟨pb, 0, none⟩ = some (.pointer (some ⟨d.ab, 0, none⟩)) := (BC.of (HB.out.below HB1.out).box).1
    have f6 : w1.frozen? ⟨pb, 6, none⟩ = false := (HB.out.below HB1.out).box.frozen 6
    have HSR := Lib.hid hsr
    have HSV := Lib.hid hsv
    clear hsr hsv
    go_upto_if 36 with (fail)
    go_cut [9, 10] (fun v _ wx => ∃ (d1 : BD), v = .int .i64 (qbase d.abs).2 ∧ Tn w wx pb B d d1 ∧ d1.abs = (qbase d.abs).1)
    case first =>
      cases hgl : d.sp.getLast? with
      | some q =>
        have h0 : 0 < d.sp.length := by
          rcases Nat.eq_zero_or_pos d.sp.length with h1 | h1
          · rw [List.length_eq_zero_iff.1 h1] at hgl; cases hgl
          · exact h1
        have hpos : (0 : Int) < (d.sp.length : Int) := by omega
        obtain ⟨m, hm⟩ : ∃ m, d.sp.length = m + 1 := ⟨d.sp.length - 1, by omega⟩
        obtain ⟨gs, rfl⟩ : ∃ gs, sa = some ⟨gs, 0, none⟩ := by
          rcases HSR.out.2 with ⟨h2, h3⟩ | ⟨g', c', cur, h2, _⟩
          · rw [List.length_map] at h3; omega
          · rw [HSV.out] at h2; injection h2 with h2; exact ⟨g', h2⟩
        have hsr2 := HSR.out
        rw [HSV.out] at hsr2
        have hlast := row_last hsr2 rfl hgl
        have hinit := row_init hsr2 rfl
        rw [hm] at hlast hinit c6 hpos ⊢
        rw [Nat.add_sub_cancel] at hlast hinit
        have hon : ∀ g, (Value.slice (some ⟨gs, 0, none⟩) m sc).ownBlock = some g → d.spv.ownBlock = some g ∨ w1.heap.size ≤ g := fun g hg => .inl (by rw [HSV.out]; exact hg)
        have HTN := Lib.hid ((Tn.of_below HB.out HB1.out).trans ((HB.out.below HB1.out).spare hinit (Keeps.refl _ _) hon))
        have HQB : Hid (qbase d.abs = ({ d.abs with sp := d.abs.sp.dropLast }, q)) := Lib.hid (qbase_some hgl)
        have y1 : IntKind.i64.wrap (((m + 1 : Nat) : Int) - 1) = (m : Int) := by rw [show ((m + 1 : Nat) : Int) - 1 = (m : Int) by omega]; exact IntWalk.i64_in _ (by omega)
        have y2 : IntKind.i64.wrap ((m : Int) + 1 - 1) = (m : Int) := by rw [show (m : Int) + 1 - 1 = (m : Int) by omega]; exact IntWalk.i64_in _ (by omega)
        have hsc : m + 1 ≤ sc := by
          rcases hsr2.2 with ⟨h2, _⟩ | ⟨g', c', cur, h2, _, _, h3, _⟩
          · injection h2 with h2; cases h2
          · injection h2 with _ _ h2; rw [List.length_map, hm] at h3; omega
        have hsc2 : m ≤ sc := by omega
        clear hsr2 hinit hon hgl h0
        go_wp2_with fail
        go_region
        go_wp2_with fail
        go_meet
        exact ⟨_, by rw [HQB.out], HTN.out.below (Below.drewN_of _ 1), by rw [HQB.out]; rfl⟩
      | none =>
        have h0 : d.sp.length = 0 := by rw [List.getLast?_eq_none_iff.1 hgl]; rfl
        rw [h0] at c6 ⊢
        have HQB : Hid (qbase d.abs = ({ d.abs with A := d.abs.A ++ [[]] }, d.abs.A.length)) := Lib.hid (qbase_none hgl)
        clear hgl h0
        go_wp2_with fail
        refine (la_open (HB.out.below HB1.out).la hA).mono ?_
        rintro e w2 ⟨rfl, ⟨qb, hqb, hla⟩, hk⟩
        have HTN := Lib.hid ((Tn.of_below HB.out HB1.out).trans ((HB.out.below HB1.out).arena hla hk (by
          rcases hqb with hqb | hqb
          · exact .inl hqb.symm
          · exact .inr ⟨qb, rfl, hqb⟩)))
        clear hla hk hqb c0 c6 f6
        go_wp2_with fail
        go_meet
        exact ⟨_, by rw [HQB.out]; rfl, HTN.out, by rw [HQB.out]; rfl⟩
    case rest =>
    obtain ⟨d1, rfl, ht, ha⟩ := hcut
    obtain ⟨wx, rfl⟩ : ∃ wo : World, wo = wc := ⟨_, rfl⟩
    have HT := Lib.hid ht
    have HA := Lib.hid ha
    have HRR : Hid (d1.R side = d.R side) := Lib.hid (by
      show d1.abs.R side = d.abs.R side
      rw [ha]; exact qbase_R d.abs side)
    clear ht ha HSR HSV c6 c0 f6 HB1
    obtain ⟨q, hq⟩ : ∃ q, (qbase d.abs).2 = q := ⟨_, rfl⟩
    rw [hq] at HQE ⊢
    clear hq
    obtain ⟨a1, c1', hsv1, _, hrd1⟩ := (HT.out.bk.row side).rd
    have hlen1 : (d1.R side).length = (d.R side).length := by rw [HRR.out]
    have HROW : Hid (RG.Row wx B (.slice a1 (d.R side).length c1') (d.R side)) := Lib.hid (by
      have h := HT.out.bk.row side
      rw [hsv1, HRR.out] at h
      exact h)
    rw [HRR.out] at hsv1
    have HSV1 := Lib.hid hsv1
    have hcs : ∀ wv, Below wx.heap.size wx wv → wv.cell? ⟨pb, 1 + z, none⟩ = some (.slice a1 (d.R side).length c1') := by
      intro wv hb
      obtain ⟨a2, c2, hs2, _, hc2⟩ := HT.out.bk.side_cell hz HSZ.out
      rw [HRR.out] at hs2 hc2
      have e := hsv1.symm.trans hs2
      injection e with e1 _ e3
      rw [e1, e3]
      exact hc2 wv hb
    have HCS := Lib.hid hcs
    clear hsv1 hrd1 hlen1 hcs
    go_upto_region 9 with (fail)
    have hb1 : Below wx.heap.size wx (wx.alloc (.cells #[.int .i64 price, .int .i64 q] 69)).drew := (Below.allocN wx _).drew
    have hnew : Blk (wx.alloc (.cells #[.int .i64 price, .int .i64 q] 69)).drew wx.heap.size 69 (Rg.mk price q).cells.toArray := (Blk.new wx _ _).drew
    have HNEW := Lib.hid hnew
    have HB1 := Lib.hid hb1
    have HT1 := Lib.hid (HT.out.below hb1)
    have HROW1 := Lib.hid (HROW.out.below hb1)
    have HNE : Hid ((Value.slice a1 (d.R side).length c1').ownBlock ≠ some wx.heap.size) := Lib.hid fun ho => by
      have := own_lt HROW.out _ ho; omega
    clear hnew hb1
    refine wp_region_E (S := fun w' => w'.cell? ⟨pb, 1 + z, none⟩ = some (.slice a1 (d.R side).length c1')) (by kernel_rfl) (HCS.out wx (Below.refl _ _)) (fun hHeld => ?_)
    refine wpE_take (i := 0) (oi := ?oi1) (v := ?v1) ?hi1 (by kernel_rfl) (by kernel_rfl) (by kernel_rfl) (by kernel_rfl) ?hQ1 ?hy1 (by assumption) ?rest1
    case hi1 => (simp only [List.getElem?_toArray]; rfl)
    case hQ1 => exact fun _ _ _ h => h
    case hy1 => exact Or.inl ⟨by rfl, by (intro w hSw; (try dsimp only at hSw); go_simp; try with_reducible rfl)⟩
    try simp only [Act.put, List.setIfInBounds_toArray, List.set_cons_zero, List.set_cons_succ]
    refine wpE_take (i := 1) (oi := ?oi2) (v := ?v2) ?hi2 (by kernel_rfl) (by kernel_rfl) (by kernel_rfl) (by kernel_rfl) ?hQ2 ?hy2 (by assumption) ?rest2
    case hi2 => (simp only [List.getElem?_toArray]; rfl)
    case hQ2 => exact fun _ _ _ h => h
    case hy2 => exact Or.inl ⟨by rfl, by (intro w hSw; (try dsimp only at hSw); go_simp; try with_reducible rfl)⟩
    try simp only [Act.put, List.setIfInBounds_toArray, List.set_cons_zero, List.set_cons_succ]
    refine wpE_take (i := 2) (oi := ?oi3) (v := ?v3) ?hi3 (by kernel_rfl) (by kernel_rfl) (by kernel_rfl) (by kernel_rfl) ?hQ3 ?hy3 (by assumption) ?rest3
    case hi3 => (simp only [List.getElem?_toArray]; rfl)
    case hQ3 => exact fun _ _ _ h => h
    case hy3 => exact Or.inl ⟨by rfl, by (intro w hSw; (try dsimp only at hSw); go_simp; try with_reducible rfl)⟩
    try simp only [Act.put, List.setIfInBounds_toArray, List.set_cons_zero, List.set_cons_succ]
    refine wpE_take (i := 3) (oi := ?oi4) (v := ?v4) ?hi4 (by kernel_rfl) (by kernel_rfl) (by kernel_rfl) (by kernel_rfl) ?hQ4 ?hy4 (by assumption) ?rest4
    case hi4 => (simp only [List.getElem?_toArray]; rfl)
    case hQ4 => exact fun _ _ _ h => h
    case hy4 => exact Or.inl ⟨by rfl, by (intro w hSw; (try dsimp only at hSw); go_simp; try with_reducible rfl)⟩
    try simp only [Act.put, List.setIfInBounds_toArray, List.set_cons_zero, List.set_cons_succ]
    refine wpE_take (i := 4) (oi := ?oi5) (v := ?v5) ?hi5 (by kernel_rfl) (by kernel_rfl) (by kernel_rfl) (by kernel_rfl) ?hQ5 ?hy5 (by assumption) ?rest5
    case hi5 => (simp only [List.getElem?_toArray]; rfl)
    case hQ5 => exact fun _ _ _ h => h
    case hy5 => exact Or.inl ⟨by rfl, by (intro w hSw; (try dsimp only at hSw); go_simp; try with_reducible rfl)⟩
    try simp only [Act.put, List.setIfInBounds_toArray, List.set_cons_zero, List.set_cons_succ]
    refine wpE_take (i := 5) (oi := ?oi6) (v := ?v6) ?hi6 (by kernel_rfl) (by kernel_rfl) (by kernel_rfl) (by kernel_rfl) ?hQ6 ?hy6 (by assumption) ?rest6
    case hi6 => (simp only [List.getElem?_toArray]; rfl)
    case hQ6 => exact fun _ _ _ h => h
    case hy6 => exact Or.inl ⟨by rfl, by (intro w hSw; (try dsimp only at hSw); go_simp; try with_reducible rfl)⟩
    try simp only [Act.put, List.setIfInBounds_toArray, List.set_cons_zero, List.set_cons_succ]
    refine wpE_take (i := 6) (oi := ?oi7) (v := ?v7) ?hi7 (by kernel_rfl) (by kernel_rfl) (by kernel_rfl) (by kernel_rfl) ?hQ7 ?hy7 (by assumption) ?rest7
    case hi7 => (simp only [List.getElem?_toArray]; rfl)
    case hQ7 => exact fun _ _ _ h => h
    case hy7 => exact Or.inl ⟨by rfl, by (intro w hSw; (try dsimp only at hSw); go_simp; try with_reducible rfl)⟩
    try simp only [Act.put, List.setIfInBounds_toArray, List.set_cons_zero, List.set_cons_succ]
    refine wpE_take (i := 7) (oi := ?oi8) (v := ?v8) ?hi8 (by kernel_rfl) (by kernel_rfl) (by kernel_rfl) (by kernel_rfl) ?hQ8 ?hy8 (by assumption) ?rest8
    case hi8 => (simp only [List.getElem?_toArray]; rfl)
    case hQ8 => exact fun _ _ _ h => h
    case hy8 => exact Or.inl ⟨by rfl, by (intro w hSw; (try dsimp only at hSw); go_simp; try with_reducible rfl)⟩
    try simp only [Act.put, List.setIfInBounds_toArray, List.set_cons_zero, List.set_cons_succ]
    refine wpE_take (i := 8) (oi := ?oi9) (v := ?v9) ?hi9 (by kernel_rfl) (by kernel_rfl) (by kernel_rfl) (by kernel_rfl) ?hQ9 ?hy9 (by assumption) ?rest9
    case hi9 => (simp only [List.getElem?_toArray]; rfl)
    case hQ9 => exact fun _ _ _ h => h
    case hy9 => exact Or.inl ⟨by rfl, by (intro w hSw; (try dsimp only at hSw); go_simp; try with_reducible rfl)⟩
    try simp only [Act.put, List.setIfInBounds_toArray, List.set_cons_zero, List.set_cons_succ]
    refine wpE_take (i := 9) (oi := ?oi10) (v := ?v10) ?hi10 (by kernel_rfl) (by kernel_rfl) (by kernel_rfl) (by kernel_rfl) ?hQ10 ?hy10 (by assumption) ?rest10
    case hi10 => (simp only [List.getElem?_toArray]; rfl)
    case hQ10 => exact fun _ _ _ h => h
    case hy10 => exact Or.inl ⟨by rfl, by (intro w hSw; (try dsimp only at hSw); go_simp; try with_reducible rfl)⟩
    try simp only [Act.put, List.setIfInBounds_toArray, List.set_cons_zero, List.set_cons_succ]
    refine wpE_take (i := 10) (oi := ?oi11) (v := ?v11) ?hi11 (by kernel_rfl) (by kernel_rfl) (by kernel_rfl) (by kernel_rfl) ?hQ11 ?hy11 (by assumption) ?rest11
    case hi11 => (simp only [List.getElem?_toArray]; rfl)
    case hQ11 => exact fun _ _ _ h => h
    case hy11 => exact Or.inl ⟨by rfl, by (intro w hSw; (try dsimp only at hSw); go_simp; try with_reducible rfl)⟩
    try simp only [Act.put, List.setIfInBounds_toArray, List.set_cons_zero, List.set_cons_succ]
    refine wpE_take (i := 11) (oi := ?oi12) (v := ?v12) ?hi12 (by kernel_rfl) (by kernel_rfl) (by kernel_rfl) (by kernel_rfl) ?hQ12 ?hy12 (by assumption) ?rest12
    case hi12 => (simp only [List.getElem?_toArray]; rfl)
    case hQ12 => exact fun _ _ _ h => h
    case hy12 => exact Or.inl ⟨by rfl, by (intro w hSw; (try dsimp only at hSw); go_simp; try with_reducible rfl)⟩
    try simp only [Act.put, List.setIfInBounds_toArray, List.set_cons_zero, List.set_cons_succ]
    refine wpE_take (i := 12) (oi := ?oi13) (v := ?v13) ?hi13 (by kernel_rfl) (by kernel_rfl) (by kernel_rfl) (by kernel_rfl) ?hQ13 ?hy13 (by assumption) ?rest13
    case hi13 => (simp only [List.getElem?_toArray]; rfl)
    case hQ13 => exact fun _ _ _ h => h
    case hy13 => exact Or.inl ⟨by rfl, by (intro w hSw; (try dsimp only at hSw); go_simp; try with_reducible rfl)⟩
    try simp only [Act.put, List.setIfInBounds_toArray, List.set_cons_zero, List.set_cons_succ]
    refine wpE_take (i := 13) (oi := ?oi14) (v := ?v14) ?hi14 (by kernel_rfl) (by kernel_rfl) (by kernel_rfl) (by kernel_rfl) ?hQ14 ?hy14 (by assumption) ?rest14
    case hi14 => (simp only [List.getElem?_toArray]; rfl)
    case hQ14 => exact fun _ _ _ h => h
    case hy14 => exact Or.inl ⟨by rfl, by (intro w hSw; (try dsimp only at hSw); go_simp; try with_reducible rfl)⟩
    try simp only [Act.put, List.setIfInBounds_toArray, List.set_cons_zero, List.set_cons_succ]
    refine wpE_take (i := 16) (oi := ?oi15) (v := ?v15) ?hi15 (by kernel_rfl) (by kernel_rfl) (by kernel_rfl) (by kernel_rfl) ?hQ15 ?hy15 (by assumption) ?rest15
    case hi15 => (simp only [List.getElem?_toArray]; rfl)
    case hQ15 => exact fun _ _ _ h => h
    case hy15 => exact Or.inl ⟨by rfl, by (intro w hSw; (try dsimp only at hSw); go_simp; try with_reducible rfl)⟩
    try simp only [Act.put, List.setIfInBounds_toArray, List.set_cons_zero, List.set_cons_succ]
    refine wpE_take (i := 17) (oi := ?oi16) (v := ?v16) ?hi16 (by kernel_rfl) (by kernel_rfl) (by kernel_rfl) (by kernel_rfl) ?hQ16 ?hy16 (by assumption) ?rest16
    case hi16 => (simp only [List.getElem?_toArray]; rfl)
    case hQ16 => exact fun _ _ _ h => h
    case hy16 => exact Or.inl ⟨by rfl, by (intro w hSw; (try dsimp only at hSw); go_simp; try with_reducible rfl)⟩
    try simp only [Act.put, List.setIfInBounds_toArray, List.set_cons_zero, List.set_cons_succ]
    refine wpE_one (i := 14) (o := ?o18) ?ho18 (by kernel_rfl) (fun K hK => ?_)
    case ho18 => (simp only [List.getElem?_toArray]; rfl)
    go_simp
    refine hK.out _ _ (HCS.out _ HB1.out) (fun hHeld => ?_)
    clear hK K
    refine wpE_one (i := 15) (o := ?o19) ?ho19 (by kernel_rfl) (fun K hK => ?_)
    case ho19 => (simp only [List.getElem?_toArray]; rfl)
    go_simp
    go_at_call 52
    have hB2 : B ≤ (wx.alloc (.cells #[.int .i64 price, .int .i64 q] 69)).drew.heap.size := Nat.le_trans hB (Nat.le_trans HT.out.kp.size HB1.out.size)
    refine (insert_any (x := Rg.mk price q) HROW1.out hnl0 HNEW.out HNE.out hB2 hl).mono ?_
    rintro e w4 ⟨v', rfl, hr4, hk4, ho4⟩
    obtain ⟨aN, cN, hvN⟩ := hr4.form
    obtain ⟨nN, hnN⟩ : ∃ nN, ((d.R side).take n ++ [Rg.mk price q] ++ (d.R side).drop n).length = nN := ⟨_, rfl⟩
    rw [hnN] at hvN
    subst hvN
    clear hnN
    have HR4 := Lib.hid hr4
    have HK4 := Lib.hid hk4
    have HO4 := Lib.hid ho4
    have hpbl : pb < wx.heap.size := HT.out.bk.box.lt
    have hbx4 : Blk w4 pb 65 d1.cells := (HT1.out.bk.box).keeps hk4 (fun ho => (own_tyd HROW1.out _ ho).ne HT1.out.bk.box.tyd (by decide) rfl)
    have hc4 : w4.cell? ⟨pb, 1 + z, none⟩ = some (.slice a1 (d.R side).length c1') := by
      have h1 := HCS.out _ HB1.out
      rw [HT1.out.bk.box.cell] at h1
      rw [hbx4.cell]; exact h1
    have hf4 : w4.frozen? ⟨pb, 1 + z, none⟩ = false := hbx4.frozen _
    clear hr4 hk4 ho4 hbx4
    refine hK.out _ _ hc4 (fun hHeld => ?_)
    clear hK K
    refine wpE_take (i := 18) (oi := ?oi17) (v := ?v17) ?hi17 (by kernel_rfl) (by kernel_rfl) (by kernel_rfl) (by kernel_rfl) ?hQ17 ?hy17 (by assumption) ?rest17
    case hi17 => (simp only [List.getElem?_toArray]; rfl)
    case hQ17 => exact fun _ _ _ h => h
    case hy17 => exact Or.inl ⟨by rfl, by (intro w hSw; (try dsimp only at hSw); go_simp; try with_reducible rfl)⟩
    try simp only [Act.put, List.setIfInBounds_toArray, List.set_cons_zero, List.set_cons_succ]
    refine wpE_last (i := 19) (o := ?o20) ?ho20 (by kernel_rfl) (by kernel_rfl) (by kernel_rfl) (fun K hK => ?_)
    case ho20 => (simp only [List.getElem?_toArray]; rfl)
    go_simp
    refine hK.out _ _ ?_
    clear hK K hHeld hc4 hf4
    have htn := HT1.out.trans (HT1.out.bk.rung hz HSZ.out (by rw [HRR.out] at *; exact HR4.out) (by rw [HSV1.out]; exact HK4.out) (by rw [HSV1.out]; exact HO4.out))
    have HTN := Lib.hid htn
    clear htn
    go_wp2_with fail
    go_ret
    refine ⟨by rw [HQE.out]; rfl, _, HTN.out, ?_⟩
    rw [HQE.out, setR_abs, HA.out]
    rfl
end
end Go.Proofs.Ytmhljdkhekjfmaa
