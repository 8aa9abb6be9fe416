/- The walks of cornhilllaw9.order, orders, levels over equal rows. -/
import Derived.Test.YtmhljdkhekjfmaaR94
import Derived.Deep.RegionHeld3
namespace Go.Proofs.Ytmhljdkhekjfmaa
open Go.RowKit

set_option maxRecDepth 20000 in
set_option maxHeartbeats 4000000 in
theorem order_self (f0 f1 f2 f3 : Int) (f4 : Bool) (w : World) :
    Calls Try.prog 39 #[.agg #[.int .i64 f0, .int .i64 f1, .int .i64 f2, .int .i64 f3, .bool f4], .agg #[.int .i64 f0, .int .i64 f1, .int .i64 f2, .int .i64 f3, .bool f4]] w fun e w' => e = .returned (.bool true) ∧ Below w.heap.size w w' := by
  have s1 : ∀ (w : World) (o : Obj), (w.alloc o).heap.size = w.heap.size + 1 := fun w o => by simp
  have HB : Hid (Below w.heap.size w ((w.alloc (.cells #[.int .i64 f0, .int .i64 f1, .int .i64 f2, .int .i64 f3, .bool f4] 39)).alloc (.cells #[.int .i64 f0, .int .i64 f1, .int .i64 f2, .int .i64 f3, .bool f4] 89))) := Lib.hid ((Below.allocN w _).alloc (Below.allocN w _).size _)
  cases f4
  · go_enter Try.func39, Try.ntmps39
    go_wp2_with fail
    go_ret
    exact ⟨by trivial, HB.out⟩
  · go_enter Try.func39, Try.ntmps39
    go_wp2_with fail
    go_ret
    exact ⟨by trivial, HB.out⟩
set_option maxRecDepth 20000 in
set_option maxHeartbeats 8000000 in
theorem orders_same (L : List Od) (ra sa : Option Addr) (rc sc : Nat) (w : World) (hr : OD.Rd w ra L) (hs : ROD.Rd w sa L) (hl : L.length ≤ 250) :
    Calls Try.prog 43 #[.slice ra L.length rc, .slice sa L.length sc] w fun e w' => e = .returned (.bool true) ∧ Below w.heap.size w w' := by
  have HR := Lib.hid hr
  have HS := Lib.hid hs
  clear hr hs
  go_enter Try.func43, Try.ntmps43
  go_wp2_with fail
  go_loopw [5] (fun i w' => ∃ k : Nat, i = .int .i64 k ∧ k ≤ L.length ∧ Below w.heap.size w w') (fun i _ => L.length - (intOf i).toNat)
  case atStart => exact ⟨0, rfl, Nat.zero_le _, Below.refl _ _⟩
  case round =>
    obtain ⟨k, rfl, hk, hb⟩ := hrel
    obtain ⟨wo, rfl⟩ : ∃ wo : World, wo = wr := ⟨_, rfl⟩
    have HB := Lib.hid hb
    clear hb
    by_cases hlt : k < L.length
    · have hlt' : (k : Int) < (L.length : Int) := by omega
      obtain ⟨o, ho⟩ : ∃ o, L[k]? = some o := ⟨_, List.getElem?_eq_getElem hlt⟩
      obtain ⟨g, og, rfl, _, hc⟩ := HR.out.below HB.out k o ho
      obtain ⟨u, ou, rfl, _, hd⟩ := HS.out.below HB.out k o ho
      obtain ⟨f0, f1, f2, f3, f4⟩ := o
      have c0 : wo.cell? ⟨g, og + k * 5, none⟩ = some (.int .i64 f0) := hc 0 _ rfl
      have c1 : wo.cell? ⟨g, og + k * 5 + 1, none⟩ = some (.int .i64 f1) := hc 1 _ rfl
      have c2 : wo.cell? ⟨g, og + k * 5 + 2, none⟩ = some (.int .i64 f2) := hc 2 _ rfl
      have c3 : wo.cell? ⟨g, og + k * 5 + 3, none⟩ = some (.int .i64 f3) := hc 3 _ rfl
      have c4 : wo.cell? ⟨g, og + k * 5 + 4, none⟩ = some (.bool f4) := hc 4 _ rfl
      have d0 : wo.cell? ⟨u, ou + k * 5, none⟩ = some (.int .i64 f0) := hd 0 _ rfl
      have d1 : wo.cell? ⟨u, ou + k * 5 + 1, none⟩ = some (.int .i64 f1) := hd 1 _ rfl
      have d2 : wo.cell? ⟨u, ou + k * 5 + 2, none⟩ = some (.int .i64 f2) := hd 2 _ rfl
      have d3 : wo.cell? ⟨u, ou + k * 5 + 3, none⟩ = some (.int .i64 f3) := hd 3 _ rfl
      have d4 : wo.cell? ⟨u, ou + k * 5 + 4, none⟩ = some (.bool f4) := hd 4 _ rfl
      have HGT : Hid (g < wo.heap.size ∧ u < wo.heap.size) := Lib.hid ⟨by assumption, by assumption⟩
      clear hc hd ho
      go_upto_region 6 with (fail)
      have hSS : ∀ w', Below wo.heap.size wo w' → (w'.cell? ⟨g, og + k * 5, none⟩ = some (.int .i64 f0) ∧ w'.cell? ⟨g, og + k * 5 + 1, none⟩ = some (.int .i64 f1) ∧ w'.cell? ⟨g, og + k * 5 + 2, none⟩ = some (.int .i64 f2) ∧ w'.cell? ⟨g, og + k * 5 + 3, none⟩ = some (.int .i64 f3) ∧ w'.cell? ⟨g, og + k * 5 + 4, none⟩ = some (.bool f4)) ∧ w'.cell? ⟨u, ou + k * 5, none⟩ = some (.int .i64 f0) ∧ w'.cell? ⟨u, ou + k * 5 + 1, none⟩ = some (.int .i64 f1) ∧ w'.cell? ⟨u, ou + k * 5 + 2, none⟩ = some (.int .i64 f2) ∧ w'.cell? ⟨u, ou + k * 5 + 3, none⟩ = some (.int .i64 f3) ∧ w'.cell? ⟨u, ou + k * 5 + 4, none⟩ = some (.bool f4) := fun w' hb =>
        ⟨⟨(hb.cell (p := ⟨g, _, none⟩) HGT.out.1).trans c0, (hb.cell (p := ⟨g, _, none⟩) HGT.out.1).trans c1, (hb.cell (p := ⟨g, _, none⟩) HGT.out.1).trans c2, (hb.cell (p := ⟨g, _, none⟩) HGT.out.1).trans c3, (hb.cell (p := ⟨g, _, none⟩) HGT.out.1).trans c4⟩,
          (hb.cell (p := ⟨u, _, none⟩) HGT.out.2).trans d0, (hb.cell (p := ⟨u, _, none⟩) HGT.out.2).trans d1, (hb.cell (p := ⟨u, _, none⟩) HGT.out.2).trans d2, (hb.cell (p := ⟨u, _, none⟩) HGT.out.2).trans d3, (hb.cell (p := ⟨u, _, none⟩) HGT.out.2).trans d4⟩
      have HSS := Lib.hid hSS
      clear hSS
      refine wp_region_E (S := fun w' => (w'.cell? ⟨g, og + k * 5, none⟩ = some (.int .i64 f0) ∧ w'.cell? ⟨g, og + k * 5 + 1, none⟩ = some (.int .i64 f1) ∧ w'.cell? ⟨g, og + k * 5 + 2, none⟩ = some (.int .i64 f2) ∧ w'.cell? ⟨g, og + k * 5 + 3, none⟩ = some (.int .i64 f3) ∧ w'.cell? ⟨g, og + k * 5 + 4, none⟩ = some (.bool f4)) ∧ w'.cell? ⟨u, ou + k * 5, none⟩ = some (.int .i64 f0) ∧ w'.cell? ⟨u, ou + k * 5 + 1, none⟩ = some (.int .i64 f1) ∧ w'.cell? ⟨u, ou + k * 5 + 2, none⟩ = some (.int .i64 f2) ∧ w'.cell? ⟨u, ou + k * 5 + 3, none⟩ = some (.int .i64 f3) ∧ w'.cell? ⟨u, ou + k * 5 + 4, none⟩ = some (.bool f4)) (by kernel_rfl) (HSS.out _ (Below.drewN_of wo 1)) (fun hHeld => ?_)
      clear c0 c1 c2 c3 c4 d0 d1 d2 d3 d4
      refine wpE_take (i := 0) (oi := ?oi1) (v := ?v1) ?hi1 (by kernel_rfl) (by kernel_rfl) (by kernel_rfl) (by kernel_rfl) ?hQ1 ?hy1 (by assumption) ?rest1
      case hi1 => (simp only [List.getElem?_toArray]; rfl)
      case hQ1 => exact fun _ _ _ h => h
      case hy1 => exact Or.inl ⟨by rfl, by (intro w hSw; (try dsimp only at hSw); go_simp; try with_reducible rfl)⟩
      try simp only [Act.put, List.setIfInBounds_toArray, List.set_cons_zero, List.set_cons_succ]
      refine wpE_take (i := 1) (oi := ?oi2) (v := ?v2) ?hi2 (by kernel_rfl) (by kernel_rfl) (by kernel_rfl) (by kernel_rfl) ?hQ2 ?hy2 (by assumption) ?rest2
      case hi2 => (simp only [List.getElem?_toArray]; rfl)
      case hQ2 => exact fun _ _ _ h => h
      case hy2 => exact Or.inl ⟨by rfl, by (intro w hSw; (try dsimp only at hSw); go_simp; try with_reducible rfl)⟩
      try simp only [Act.put, List.setIfInBounds_toArray, List.set_cons_zero, List.set_cons_succ]
      refine wpE_take (i := 2) (oi := ?oi3) (v := ?v3) ?hi3 (by kernel_rfl) (by kernel_rfl) (by kernel_rfl) (by kernel_rfl) ?hQ3 ?hy3 (by assumption) ?rest3
      case hi3 => (simp only [List.getElem?_toArray]; rfl)
      case hQ3 => exact fun _ _ _ h => h
      case hy3 => exact Or.inl ⟨by rfl, by (intro w hSw; (try dsimp only at hSw); go_simp; try with_reducible rfl)⟩
      try simp only [Act.put, List.setIfInBounds_toArray, List.set_cons_zero, List.set_cons_succ]
      refine wpE_take (i := 3) (oi := ?oi4) (v := ?v4) ?hi4 (by kernel_rfl) (by kernel_rfl) (by kernel_rfl) (by kernel_rfl) ?hQ4 ?hy4 (by assumption) ?rest4
      case hi4 => (simp only [List.getElem?_toArray]; rfl)
      case hQ4 => exact fun _ _ _ h => h
      case hy4 => exact Or.inl ⟨by rfl, by (intro w hSw; (try dsimp only at hSw); go_simp; try with_reducible rfl)⟩
      try simp only [Act.put, List.setIfInBounds_toArray, List.set_cons_zero, List.set_cons_succ]
      refine wpE_take (i := 4) (oi := ?oi5) (v := ?v5) ?hi5 (by kernel_rfl) (by kernel_rfl) (by kernel_rfl) (by kernel_rfl) ?hQ5 ?hy5 (by assumption) ?rest5
      case hi5 => (simp only [List.getElem?_toArray]; rfl)
      case hQ5 => exact fun _ _ _ h => h
      case hy5 => exact Or.inl ⟨by rfl, by (intro w hSw; (try dsimp only at hSw); go_simp; try with_reducible rfl)⟩
      try simp only [Act.put, List.setIfInBounds_toArray, List.set_cons_zero, List.set_cons_succ]
      refine wpE_take (i := 5) (oi := ?oi6) (v := ?v6) ?hi6 (by kernel_rfl) (by kernel_rfl) (by kernel_rfl) (by kernel_rfl) ?hQ6 ?hy6 (by assumption) ?rest6
      case hi6 => (simp only [List.getElem?_toArray]; rfl)
      case hQ6 => exact fun _ _ _ h => h
      case hy6 => exact Or.inl ⟨by rfl, by (intro w hSw; (try dsimp only at hSw); go_simp; try with_reducible rfl)⟩
      try simp only [Act.put, List.setIfInBounds_toArray, List.set_cons_zero, List.set_cons_succ]
      refine wpE_take (i := 6) (oi := ?oi7) (v := ?v7) ?hi7 (by kernel_rfl) (by kernel_rfl) (by kernel_rfl) (by kernel_rfl) ?hQ7 ?hy7 (by assumption) ?rest7
      case hi7 => (simp only [List.getElem?_toArray]; rfl)
      case hQ7 => exact fun _ _ _ h => h
      case hy7 => exact Or.inl ⟨by rfl, by (intro w hSw; (try dsimp only at hSw); go_simp; try with_reducible rfl)⟩
      try simp only [Act.put, List.setIfInBounds_toArray, List.set_cons_zero, List.set_cons_succ]
      refine wpE_take (i := 7) (oi := ?oi8) (v := ?v8) ?hi8 (by kernel_rfl) (by kernel_rfl) (by kernel_rfl) (by kernel_rfl) ?hQ8 ?hy8 (by assumption) ?rest8
      case hi8 => (simp only [List.getElem?_toArray]; rfl)
      case hQ8 => exact fun _ _ _ h => h
      case hy8 => exact Or.inl ⟨by rfl, by (intro w hSw; (try dsimp only at hSw); go_simp; try with_reducible rfl)⟩
      try simp only [Act.put, List.setIfInBounds_toArray, List.set_cons_zero, List.set_cons_succ]
      refine wpE_one (i := 8) (o := ?o9) ?ho9 (by kernel_rfl) (fun K hK => ?_)
      case ho9 => (simp only [List.getElem?_toArray]; rfl)
      go_simp
      go_at_call 39
      have hbd := Below.drewN_of wo 1
      refine (order_self f0 f1 f2 f3 f4 _).mono ?_
      rintro e w2 ⟨rfl, hb⟩
      have hb2 : Below wo.heap.size wo w2 := hbd.trans (hb.mono hbd.size)
      have HB2 := Lib.hid (HB.out.trans (hb2.mono HB.out.size))
      refine hK.out _ _ (HSS.out _ hb2) (fun hHeld => ?_)
      clear hK K hb hb2 hbd
      refine wpE_last (i := 9) (o := ?o10) ?ho10 (by kernel_rfl) (by kernel_rfl) (by kernel_rfl) (fun K hK => ?_)
      case ho10 => (simp only [List.getElem?_toArray]; rfl)
      go_simp
      refine hK.out _ _ ?_
      clear hK K hHeld
      go_wp2_with fail
      go_roundw
      case rel => exact ⟨k + 1, by go_num, by omega, HB2.out⟩
      case measure => simp [intOf]; omega
    · go_wp2_with fail
      go_ret
      exact ⟨by trivial, HB.out⟩
set_option maxRecDepth 20000 in
set_option maxHeartbeats 8000000 in
theorem levels_same (L : List Lv) (ra sa : Option Addr) (rc sc : Nat) (w : World) (hr : LV.Rd w ra L) (hs : RLV.Rd w sa L) (hl : L.length ≤ 250) :
    Calls Try.prog 41 #[.slice ra L.length rc, .slice sa L.length sc] w fun e w' => e = .returned (.bool true) ∧ Below w.heap.size w w' := by
  have HR := Lib.hid hr
  have HS := Lib.hid hs
  clear hr hs
  go_enter Try.func41, Try.ntmps41
  go_wp2_with fail
  go_loopw [5] (fun i w' => ∃ k : Nat, i = .int .i64 k ∧ k ≤ L.length ∧ Below w.heap.size w w') (fun i _ => L.length - (intOf i).toNat)
  case atStart => exact ⟨0, rfl, Nat.zero_le _, Below.refl _ _⟩
  case round =>
    obtain ⟨k, rfl, hk, hb⟩ := hrel
    obtain ⟨wo, rfl⟩ : ∃ wo : World, wo = wr := ⟨_, rfl⟩
    have HB := Lib.hid hb
    clear hb
    by_cases hlt : k < L.length
    · have hlt' : (k : Int) < (L.length : Int) := by omega
      obtain ⟨o, ho⟩ : ∃ o, L[k]? = some o := ⟨_, List.getElem?_eq_getElem hlt⟩
      obtain ⟨g, og, rfl, _, hc⟩ := HR.out.below HB.out k o ho
      obtain ⟨u, ou, rfl, _, hd⟩ := HS.out.below HB.out k o ho
      obtain ⟨f0, f1, f2⟩ := o
      have c0 : wo.cell? ⟨g, og + k * 3, none⟩ = some (.int .i64 f0) := hc 0 _ rfl
      have c1 : wo.cell? ⟨g, og + k * 3 + 1, none⟩ = some (.int .i64 f1) := hc 1 _ rfl
      have c2 : wo.cell? ⟨g, og + k * 3 + 2, none⟩ = some (.int .i64 f2) := hc 2 _ rfl
      have d0 : wo.cell? ⟨u, ou + k * 3, none⟩ = some (.int .i64 f0) := hd 0 _ rfl
      have d1 : wo.cell? ⟨u, ou + k * 3 + 1, none⟩ = some (.int .i64 f1) := hd 1 _ rfl
      have d2 : wo.cell? ⟨u, ou + k * 3 + 2, none⟩ = some (.int .i64 f2) := hd 2 _ rfl
      clear hc hd ho
      go_upto_region 6 with (fail)
      go_quiet (fail)
      clear c0 c1 c2 d0 d1 d2
      go_wp2_with fail
      go_roundw
      case rel => exact ⟨k + 1, by go_num, by omega, HB.out.trans ((Below.drewN_of _ _).mono HB.out.size)⟩
      case measure => simp [intOf]; omega
    · go_wp2_with fail
      go_ret
      exact ⟨by trivial, HB.out⟩
end Go.Proofs.Ytmhljdkhekjfmaa
