/- The walks of cornhilllaw14.in, quote, same. -/
import Derived.Test.YtilficlanliinaaRShow
import Derived.Test.YtilficlanliinaaTops
namespace Go.Proofs.Ytilficlanliinaa
open Go.RowKit

set_option maxRecDepth 100000 in
set_option maxHeartbeats 16000000 in
theorem in_any (ta : Option Addr) (c : Nat) (L : List Tp) (w : World) (hT : TP.Rd w ta L) (hL : L.length ≤ 1000) :
    Calls Try.prog 30 #[.slice ta L.length c] w fun e w' => ∃ v, e = .returned v ∧ RTP.Row w' w.heap.size v L ∧ Below w.heap.size w w' := by
  have s1 : ∀ (w : World) (o : Obj), (w.alloc o).heap.size = w.heap.size + 1 := fun w o => by simp
  have HT := Lib.hid hT
  clear hT
  go_enter Try.func30, Try.ntmps30
  go_wp2_with fail
  go_loopw [3, 4] (fun o j w' => ∃ (k : Nat) (v : Value), o = v ∧ j = .int .i64 k ∧ k ≤ L.length ∧ RTP.Row w' w.heap.size v (L.take k) ∧ Below w.heap.size w w') (fun _ j _ => L.length - (intOf j).toNat)
  case atStart => exact ⟨0, _, rfl, rfl, Nat.zero_le _, Lay.Row.nil _ _, Below.refl _ _⟩
  case round =>
    obtain ⟨k, v, ho, rfl, hk, hr, hb⟩ := hrel
    replace ho := ho.symm
    subst ho
    obtain ⟨wz, rfl⟩ : ∃ wo : World, wo = wr := ⟨_, rfl⟩
    have HR := Lib.hid hr
    have HB := Lib.hid hb
    clear hr hb
    by_cases hkn : k < L.length
    · have hkn' : (k : Int) < (L.length : Int) := by omega
      obtain ⟨x, hx⟩ : ∃ x, L[k]? = some x := ⟨_, List.getElem?_eq_getElem hkn⟩
      have HTK : Hid (L.take (k + 1) = L.take k ++ [x]) := Lib.hid (by rw [List.take_add_one, hx]; rfl)
      have hlen : (L.take k).length ≤ 1000 := by rw [List.length_take]; omega
      obtain ⟨b, off, rfl, hbl, hcx⟩ := HT.out k x hx
      have HCX : Hid (∀ wv, Below w.heap.size w wv → TpAt wv b (off + k * 6) x) := Lib.hid fun wv hb => (hcx.below hb hbl).tp
      generalize L.take k = O at *
      have hc0 := HCX.out _ (HB.out.drew)
      clear hcx hx hbl
      obtain ⟨c0, c1, c2, c3, c4, c5⟩ := hc0
      go_wp2_with fail
      refine wp_region_E (S := fun w' => w'.cell? ⟨b, off + k * 6, none⟩ = some (.bool x.h0) ∧ w'.cell? ⟨b, off + k * 6 + 1, none⟩ = some (.bool x.h1) ∧ w'.cell? ⟨b, off + k * 6 + 2, none⟩ = some (.int .i64 x.p0) ∧ w'.cell? ⟨b, off + k * 6 + 3, none⟩ = some (.int .i64 x.p1) ∧ w'.cell? ⟨b, off + k * 6 + 4, none⟩ = some (.int .i64 x.q0) ∧ w'.cell? ⟨b, off + k * 6 + 5, none⟩ = some (.int .i64 x.q1)) (by kernel_rfl) ⟨c0, c1, c2, c3, c4, c5⟩ (fun hHeld => ?_)
      refine wpE_take (i := 0) (oi := ?oi3) (v := ?v3) ?hi3 (by kernel_rfl) (by kernel_rfl) (by kernel_rfl) (by kernel_rfl) ?hQ3 ?hy3 (by assumption) ?rest3
      case hi3 => (simp only [List.getElem?_toArray]; rfl)
      case hQ3 => exact fun _ _ _ h => h
      case hy3 => exact Or.inl ⟨by rfl, by (intro w hSw; (try dsimp only at hSw); go_simp; try with_reducible rfl)⟩
      try simp only [Act.put, List.setIfInBounds_toArray, List.set_cons_zero, List.set_cons_succ]
      refine wpE_take (i := 1) (oi := ?oi4) (v := ?v4) ?hi4 (by kernel_rfl) (by kernel_rfl) (by kernel_rfl) (by kernel_rfl) ?hQ4 ?hy4 (by assumption) ?rest4
      case hi4 => (simp only [List.getElem?_toArray]; rfl)
      case hQ4 => exact fun _ _ _ h => h
      case hy4 => exact Or.inl ⟨by rfl, by (intro w hSw; (try dsimp only at hSw); go_simp; try with_reducible rfl)⟩
      try simp only [Act.put, List.setIfInBounds_toArray, List.set_cons_zero, List.set_cons_succ]
      refine wpE_take (i := 2) (oi := ?oi5) (v := ?v5) ?hi5 (by kernel_rfl) (by kernel_rfl) (by kernel_rfl) (by kernel_rfl) ?hQ5 ?hy5 (by assumption) ?rest5
      case hi5 => (simp only [List.getElem?_toArray]; rfl)
      case hQ5 => exact fun _ _ _ h => h
      case hy5 => exact Or.inl ⟨by rfl, by (intro w hSw; (try dsimp only at hSw); go_simp; try with_reducible rfl)⟩
      try simp only [Act.put, List.setIfInBounds_toArray, List.set_cons_zero, List.set_cons_succ]
      refine wpE_take (i := 3) (oi := ?oi6) (v := ?v6) ?hi6 (by kernel_rfl) (by kernel_rfl) (by kernel_rfl) (by kernel_rfl) ?hQ6 ?hy6 (by assumption) ?rest6
      case hi6 => (simp only [List.getElem?_toArray]; rfl)
      case hQ6 => exact fun _ _ _ h => h
      case hy6 => exact Or.inl ⟨by rfl, by (intro w hSw; (try dsimp only at hSw); go_simp; try with_reducible rfl)⟩
      try simp only [Act.put, List.setIfInBounds_toArray, List.set_cons_zero, List.set_cons_succ]
      refine wpE_take (i := 4) (oi := ?oi7) (v := ?v7) ?hi7 (by kernel_rfl) (by kernel_rfl) (by kernel_rfl) (by kernel_rfl) ?hQ7 ?hy7 (by assumption) ?rest7
      case hi7 => (simp only [List.getElem?_toArray]; rfl)
      case hQ7 => exact fun _ _ _ h => h
      case hy7 => exact Or.inl ⟨by rfl, by (intro w hSw; (try dsimp only at hSw); go_simp; try with_reducible rfl)⟩
      try simp only [Act.put, List.setIfInBounds_toArray, List.set_cons_zero, List.set_cons_succ]
      refine wpE_take (i := 5) (oi := ?oi8) (v := ?v8) ?hi8 (by kernel_rfl) (by kernel_rfl) (by kernel_rfl) (by kernel_rfl) ?hQ8 ?hy8 (by assumption) ?rest8
      case hi8 => (simp only [List.getElem?_toArray]; rfl)
      case hQ8 => exact fun _ _ _ h => h
      case hy8 => exact Or.inl ⟨by rfl, by (intro w hSw; (try dsimp only at hSw); go_simp; try with_reducible rfl)⟩
      try simp only [Act.put, List.setIfInBounds_toArray, List.set_cons_zero, List.set_cons_succ]
      refine wpE_take (i := 6) (oi := ?oi9) (v := ?v9) ?hi9 (by kernel_rfl) (by kernel_rfl) (by kernel_rfl) (by kernel_rfl) ?hQ9 ?hy9 (by assumption) ?rest9
      case hi9 => (simp only [List.getElem?_toArray]; rfl)
      case hQ9 => exact fun _ _ _ h => h
      case hy9 => exact Or.inl ⟨by rfl, by (intro w hSw; (try dsimp only at hSw); go_simp; try with_reducible rfl)⟩
      try simp only [Act.put, List.setIfInBounds_toArray, List.set_cons_zero, List.set_cons_succ]
      refine wpE_take (i := 7) (oi := ?oi10) (v := ?v10) ?hi10 (by kernel_rfl) (by kernel_rfl) (by kernel_rfl) (by kernel_rfl) ?hQ10 ?hy10 (by assumption) ?rest10
      case hi10 => (simp only [List.getElem?_toArray]; rfl)
      case hQ10 => exact fun _ _ _ h => h
      case hy10 => exact Or.inl ⟨by rfl, by (intro w hSw; (try dsimp only at hSw); go_simp; try with_reducible rfl)⟩
      try simp only [Act.put, List.setIfInBounds_toArray, List.set_cons_zero, List.set_cons_succ]
      refine wpE_take (i := 8) (oi := ?oi11) (v := ?v11) ?hi11 (by kernel_rfl) (by kernel_rfl) (by kernel_rfl) (by kernel_rfl) ?hQ11 ?hy11 (by assumption) ?rest11
      case hi11 => (simp only [List.getElem?_toArray]; rfl)
      case hQ11 => exact fun _ _ _ h => h
      case hy11 => exact Or.inl ⟨by rfl, by (intro w hSw; (try dsimp only at hSw); go_simp; try with_reducible rfl)⟩
      try simp only [Act.put, List.setIfInBounds_toArray, List.set_cons_zero, List.set_cons_succ]
      refine wpE_take (i := 9) (oi := ?oi12) (v := ?v12) ?hi12 (by kernel_rfl) (by kernel_rfl) (by kernel_rfl) (by kernel_rfl) ?hQ12 ?hy12 (by assumption) ?rest12
      case hi12 => (simp only [List.getElem?_toArray]; rfl)
      case hQ12 => exact fun _ _ _ h => h
      case hy12 => exact Or.inl ⟨by rfl, by (intro w hSw; (try dsimp only at hSw); go_simp; try with_reducible rfl)⟩
      try simp only [Act.put, List.setIfInBounds_toArray, List.set_cons_zero, List.set_cons_succ]
      refine wpE_take (i := 10) (oi := ?oi13) (v := ?v13) ?hi13 (by kernel_rfl) (by kernel_rfl) (by kernel_rfl) (by kernel_rfl) ?hQ13 ?hy13 (by assumption) ?rest13
      case hi13 => (simp only [List.getElem?_toArray]; rfl)
      case hQ13 => exact fun _ _ _ h => h
      case hy13 => exact Or.inl ⟨by rfl, by (intro w hSw; (try dsimp only at hSw); go_simp; try with_reducible rfl)⟩
      try simp only [Act.put, List.setIfInBounds_toArray, List.set_cons_zero, List.set_cons_succ]
      refine wpE_take (i := 11) (oi := ?oi14) (v := ?v14) ?hi14 (by kernel_rfl) (by kernel_rfl) (by kernel_rfl) (by kernel_rfl) ?hQ14 ?hy14 (by assumption) ?rest14
      case hi14 => (simp only [List.getElem?_toArray]; rfl)
      case hQ14 => exact fun _ _ _ h => h
      case hy14 => exact Or.inl ⟨by rfl, by (intro w hSw; (try dsimp only at hSw); go_simp; try with_reducible rfl)⟩
      try simp only [Act.put, List.setIfInBounds_toArray, List.set_cons_zero, List.set_cons_succ]
      refine wpE_take (i := 12) (oi := ?oi15) (v := ?v15) ?hi15 (by kernel_rfl) (by kernel_rfl) (by kernel_rfl) (by kernel_rfl) ?hQ15 ?hy15 (by assumption) ?rest15
      case hi15 => (simp only [List.getElem?_toArray]; rfl)
      case hQ15 => exact fun _ _ _ h => h
      case hy15 => exact Or.inl ⟨by rfl, by (intro w hSw; (try dsimp only at hSw); go_simp; try with_reducible rfl)⟩
      try simp only [Act.put, List.setIfInBounds_toArray, List.set_cons_zero, List.set_cons_succ]
      refine wpE_take (i := 13) (oi := ?oi16) (v := ?v16) ?hi16 (by kernel_rfl) (by kernel_rfl) (by kernel_rfl) (by kernel_rfl) ?hQ16 ?hy16 (by assumption) ?rest16
      case hi16 => (simp only [List.getElem?_toArray]; rfl)
      case hQ16 => exact fun _ _ _ h => h
      case hy16 => exact Or.inl ⟨by rfl, by (intro w hSw; (try dsimp only at hSw); go_simp; try with_reducible rfl)⟩
      try simp only [Act.put, List.setIfInBounds_toArray, List.set_cons_zero, List.set_cons_succ]
      refine wpE_take (i := 14) (oi := ?oi17) (v := ?v17) ?hi17 (by kernel_rfl) (by kernel_rfl) (by kernel_rfl) (by kernel_rfl) ?hQ17 ?hy17 (by assumption) ?rest17
      case hi17 => (simp only [List.getElem?_toArray]; rfl)
      case hQ17 => exact fun _ _ _ h => h
      case hy17 => exact Or.inl ⟨by rfl, by (intro w hSw; (try dsimp only at hSw); go_simp; try with_reducible rfl)⟩
      try simp only [Act.put, List.setIfInBounds_toArray, List.set_cons_zero, List.set_cons_succ]
      refine wpE_take (i := 15) (oi := ?oi18) (v := ?v18) ?hi18 (by kernel_rfl) (by kernel_rfl) (by kernel_rfl) (by kernel_rfl) ?hQ18 ?hy18 (by assumption) ?rest18
      case hi18 => (simp only [List.getElem?_toArray]; rfl)
      case hQ18 => exact fun _ _ _ h => h
      case hy18 => exact Or.inl ⟨by rfl, by (intro w hSw; (try dsimp only at hSw); go_simp; try with_reducible rfl)⟩
      try simp only [Act.put, List.setIfInBounds_toArray, List.set_cons_zero, List.set_cons_succ]
      refine wpE_take (i := 16) (oi := ?oi19) (v := ?v19) ?hi19 (by kernel_rfl) (by kernel_rfl) (by kernel_rfl) (by kernel_rfl) ?hQ19 ?hy19 (by assumption) ?rest19
      case hi19 => (simp only [List.getElem?_toArray]; rfl)
      case hQ19 => exact fun _ _ _ h => h
      case hy19 => exact Or.inl ⟨by rfl, by (intro w hSw; (try dsimp only at hSw); go_simp; try with_reducible rfl)⟩
      try simp only [Act.put, List.setIfInBounds_toArray, List.set_cons_zero, List.set_cons_succ]
      refine wpE_one (i := 17) (o := ?o28) ?ho28 (by kernel_rfl) (fun K hK => ?_)
      case ho28 => (simp only [List.getElem?_toArray]; rfl)
      go_simp
      have hb1 : Below w.heap.size w (wz.alloc (.cells #[.bool x.h0, .bool x.h1, .int .i64 x.p0, .int .i64 x.p1, .int .i64 x.q0, .int .i64 x.q1] 84)).drew := (HB.out.alloc HB.out.size _).drew
      have hn : Blk (wz.alloc (.cells #[.bool x.h0, .bool x.h1, .int .i64 x.p0, .int .i64 x.p1, .int .i64 x.q0, .int .i64 x.q1] 84)).drew wz.heap.size 84 #[.bool x.h0, .bool x.h1, .int .i64 x.p0, .int .i64 x.p1, .int .i64 x.q0, .int .i64 x.q1] := Blk.new wz _ _
      have hr1 : RTP.Row (wz.alloc (.cells #[.bool x.h0, .bool x.h1, .int .i64 x.p0, .int .i64 x.p1, .int .i64 x.q0, .int .i64 x.q1] 84)).drew w.heap.size v O := HR.out.below ((Below.allocN wz _).drew)
      refine hK.out _ _ (HCX.out _ hb1) (fun hHeld => ?_)
      clear hK K c0 c1 c2 c3 c4 c5
      generalize (wz.alloc (.cells #[.bool x.h0, .bool x.h1, .int .i64 x.p0, .int .i64 x.p1, .int .i64 x.q0, .int .i64 x.q1] 84)).drew = w3 at *
      refine wpE_one (i := 18) (o := ?o29) ?ho29 (by kernel_rfl) (fun K hK => ?_)
      case ho29 => (simp only [List.getElem?_toArray]; rfl)
      refine RTP.step rfl (.tmp 11) (.tmp 28) rfl w.heap.size v O rfl hr1 wz.heap.size x rfl hn.lt hn.cellsAt (by omega) hb1.size ?_
      intro v' w4 hr2 hg2 ho2
      have hb2 : Below w.heap.size w w4 := hb1.trans ((grown_keeps hg2).below (fun g hg => own_base hr1 g hg) hb1.size)
      rw [← HTK.out] at hr2
      have HR2 := Lib.hid hr2
      have HB2 := Lib.hid hb2
      clear ho2
      refine hK.out _ _ (HCX.out _ hb2) (fun hHeld => ?_)
      clear hK K
      refine wpE_of_held _ _ _ _ ?_
      refine wpAnyH_take (i := 19) (oi := ?oi1) (v := ?v1) ?hi1 (by kernel_rfl) (by kernel_rfl) (by kernel_rfl) ?hQ1 ?hy1 (by assumption) ?rest1
      case hi1 => (simp only [List.getElem?_toArray]; rfl)
      case hQ1 => exact fun _ _ _ h => h
      case hy1 => exact Or.inl ⟨by rfl, by (intro w hSw; (try dsimp only at hSw); go_simp; try with_reducible rfl)⟩
      try simp only [Act.put, List.setIfInBounds_toArray, List.set_cons_zero, List.set_cons_succ]
      refine wpAnyH_done (by kernel_rfl) ?_ _
      clear hHeld hr1 hn hb1 hr2 hg2 hb2
      go_wp2_with fail
      go_roundw
      case rel => exact ⟨k + 1, v', rfl, by go_num, by omega, HR2.out, HB2.out⟩
      case measure => simp [intOf]; omega
    · obtain rfl : k = L.length := by omega
      have hr := HR.out
      rw [List.take_length] at hr
      have HR2 := Lib.hid hr
      clear hr HR
      go_wp2_with fail
      go_ret
      exact ⟨_, rfl, HR2.out, HB.out⟩
set_option maxRecDepth 100000 in
set_option maxHeartbeats 4000000 in
theorem quote_any (q : Qt) (w : World) :
    Calls Try.prog 35 #[.agg q.cells.toArray, .agg q.cells.toArray] w fun e w' => e = .returned (.bool true) ∧ Below w.heap.size w w' := by
  have s1 : ∀ (w : World) (o : Obj), (w.alloc o).heap.size = w.heap.size + 1 := fun w o => by simp
  unfold Qt.cells
  go_enter Try.func35, Try.ntmps35
  go_wp2_with fail
  go_ret
  exact ⟨by trivial, (Below.allocN _ _).alloc (by rw [s1]; omega) _⟩
set_option maxRecDepth 100000 in
set_option maxHeartbeats 8000000 in
theorem same14_any (A : List Qt) (aa ba : Option Addr) (ac bc : Nat) (w : World) (hA : QT.Rd w aa A) (hB : RQT.Rd w ba A) (hl : A.length ≤ 1000000) :
    Calls Try.prog 34 #[.slice aa A.length ac, .slice ba A.length bc] w fun e w' => e = .returned (.bool true) ∧ Below w.heap.size w w' := by
  have HA := Lib.hid hA
  have HB := Lib.hid hB
  clear hA hB
  go_enter Try.func34, Try.ntmps34
  go_wp2_with fail
  go_loopw [5] (fun j w' => ∃ k : Nat, j = .int .i64 k ∧ k ≤ A.length ∧ Below w.heap.size w w') (fun j _ => A.length - (intOf j).toNat)
  case atStart => exact ⟨0, rfl, Nat.zero_le _, Below.refl _ _⟩
  case round =>
    obtain ⟨k, rfl, hk, hb⟩ := hrel
    obtain ⟨wz, rfl⟩ : ∃ wo : World, wo = wr := ⟨_, rfl⟩
    have HW := Lib.hid hb
    clear hb
    by_cases hkn : k < A.length
    · have hkn' : (k : Int) < (A.length : Int) := by omega
      obtain ⟨q, hq⟩ : ∃ q, A[k]? = some q := ⟨_, List.getElem?_eq_getElem hkn⟩
      obtain ⟨b, off, rfl, hbl, hcq⟩ := HA.out k q hq
      obtain ⟨b2, off2, rfl, hbl2, hcq2⟩ := HB.out k q hq
      have HC : Hid (∀ wv, Below w.heap.size w wv → (wv.cell? ⟨b, off + k * 6, none⟩ = some (.int .i64 q.price) ∧ wv.cell? ⟨b, off + k * 6 + 1, none⟩ = some (.int .i64 q.qty) ∧ wv.cell? ⟨b, off + k * 6 + 2, none⟩ = some (.int .i64 q.i0) ∧ wv.cell? ⟨b, off + k * 6 + 3, none⟩ = some (.int .i64 q.s0) ∧ wv.cell? ⟨b, off + k * 6 + 4, none⟩ = some (.int .i64 q.i1) ∧ wv.cell? ⟨b, off + k * 6 + 5, none⟩ = some (.int .i64 q.s1)) ∧ (wv.cell? ⟨b2, off2 + k * 6, none⟩ = some (.int .i64 q.price) ∧ wv.cell? ⟨b2, off2 + k * 6 + 1, none⟩ = some (.int .i64 q.qty) ∧ wv.cell? ⟨b2, off2 + k * 6 + 2, none⟩ = some (.int .i64 q.i0) ∧ wv.cell? ⟨b2, off2 + k * 6 + 3, none⟩ = some (.int .i64 q.s0) ∧ wv.cell? ⟨b2, off2 + k * 6 + 4, none⟩ = some (.int .i64 q.i1) ∧ wv.cell? ⟨b2, off2 + k * 6 + 5, none⟩ = some (.int .i64 q.s1))) := Lib.hid fun wv hb => by
        have h1 := hcq.below hb hbl
        have h2 := hcq2.below hb hbl2
        exact ⟨⟨h1 0 _ rfl, h1 1 _ rfl, h1 2 _ rfl, h1 3 _ rfl, h1 4 _ rfl, h1 5 _ rfl⟩, h2 0 _ rfl, h2 1 _ rfl, h2 2 _ rfl, h2 3 _ rfl, h2 4 _ rfl, h2 5 _ rfl⟩
      have HQ := Lib.hid fun w => quote_any q w
      unfold Qt.cells at HQ
      clear hcq hcq2 hq hbl hbl2
      go_wp2_with fail
      refine wp_region_E (S := fun wv => (wv.cell? ⟨b, off + k * 6, none⟩ = some (.int .i64 q.price) ∧ wv.cell? ⟨b, off + k * 6 + 1, none⟩ = some (.int .i64 q.qty) ∧ wv.cell? ⟨b, off + k * 6 + 2, none⟩ = some (.int .i64 q.i0) ∧ wv.cell? ⟨b, off + k * 6 + 3, none⟩ = some (.int .i64 q.s0) ∧ wv.cell? ⟨b, off + k * 6 + 4, none⟩ = some (.int .i64 q.i1) ∧ wv.cell? ⟨b, off + k * 6 + 5, none⟩ = some (.int .i64 q.s1)) ∧ (wv.cell? ⟨b2, off2 + k * 6, none⟩ = some (.int .i64 q.price) ∧ wv.cell? ⟨b2, off2 + k * 6 + 1, none⟩ = some (.int .i64 q.qty) ∧ wv.cell? ⟨b2, off2 + k * 6 + 2, none⟩ = some (.int .i64 q.i0) ∧ wv.cell? ⟨b2, off2 + k * 6 + 3, none⟩ = some (.int .i64 q.s0) ∧ wv.cell? ⟨b2, off2 + k * 6 + 4, none⟩ = some (.int .i64 q.i1) ∧ wv.cell? ⟨b2, off2 + k * 6 + 5, none⟩ = some (.int .i64 q.s1))) (by kernel_rfl) (HC.out _ HW.out.drew) (fun hHeld => ?_)
      refine wpE_take (i := 0) (oi := ?oi20) (v := ?v20) ?hi20 (by kernel_rfl) (by kernel_rfl) (by kernel_rfl) (by kernel_rfl) ?hQ20 ?hy20 (by assumption) ?rest20
      case hi20 => (simp only [List.getElem?_toArray]; rfl)
      case hQ20 => exact fun _ _ _ h => h
      case hy20 => exact Or.inl ⟨by rfl, by (intro w hSw; (try dsimp only at hSw); go_simp; try with_reducible rfl)⟩
      try simp only [Act.put, List.setIfInBounds_toArray, List.set_cons_zero, List.set_cons_succ]
      refine wpE_take (i := 1) (oi := ?oi21) (v := ?v21) ?hi21 (by kernel_rfl) (by kernel_rfl) (by kernel_rfl) (by kernel_rfl) ?hQ21 ?hy21 (by assumption) ?rest21
      case hi21 => (simp only [List.getElem?_toArray]; rfl)
      case hQ21 => exact fun _ _ _ h => h
      case hy21 => exact Or.inl ⟨by rfl, by (intro w hSw; (try dsimp only at hSw); go_simp; try with_reducible rfl)⟩
      try simp only [Act.put, List.setIfInBounds_toArray, List.set_cons_zero, List.set_cons_succ]
      refine wpE_take (i := 2) (oi := ?oi22) (v := ?v22) ?hi22 (by kernel_rfl) (by kernel_rfl) (by kernel_rfl) (by kernel_rfl) ?hQ22 ?hy22 (by assumption) ?rest22
      case hi22 => (simp only [List.getElem?_toArray]; rfl)
      case hQ22 => exact fun _ _ _ h => h
      case hy22 => exact Or.inl ⟨by rfl, by (intro w hSw; (try dsimp only at hSw); go_simp; try with_reducible rfl)⟩
      try simp only [Act.put, List.setIfInBounds_toArray, List.set_cons_zero, List.set_cons_succ]
      refine wpE_take (i := 3) (oi := ?oi23) (v := ?v23) ?hi23 (by kernel_rfl) (by kernel_rfl) (by kernel_rfl) (by kernel_rfl) ?hQ23 ?hy23 (by assumption) ?rest23
      case hi23 => (simp only [List.getElem?_toArray]; rfl)
      case hQ23 => exact fun _ _ _ h => h
      case hy23 => exact Or.inl ⟨by rfl, by (intro w hSw; (try dsimp only at hSw); go_simp; try with_reducible rfl)⟩
      try simp only [Act.put, List.setIfInBounds_toArray, List.set_cons_zero, List.set_cons_succ]
      refine wpE_take (i := 4) (oi := ?oi24) (v := ?v24) ?hi24 (by kernel_rfl) (by kernel_rfl) (by kernel_rfl) (by kernel_rfl) ?hQ24 ?hy24 (by assumption) ?rest24
      case hi24 => (simp only [List.getElem?_toArray]; rfl)
      case hQ24 => exact fun _ _ _ h => h
      case hy24 => exact Or.inl ⟨by rfl, by (intro w hSw; (try dsimp only at hSw); go_simp; try with_reducible rfl)⟩
      try simp only [Act.put, List.setIfInBounds_toArray, List.set_cons_zero, List.set_cons_succ]
      refine wpE_take (i := 5) (oi := ?oi25) (v := ?v25) ?hi25 (by kernel_rfl) (by kernel_rfl) (by kernel_rfl) (by kernel_rfl) ?hQ25 ?hy25 (by assumption) ?rest25
      case hi25 => (simp only [List.getElem?_toArray]; rfl)
      case hQ25 => exact fun _ _ _ h => h
      case hy25 => exact Or.inl ⟨by rfl, by (intro w hSw; (try dsimp only at hSw); go_simp; try with_reducible rfl)⟩
      try simp only [Act.put, List.setIfInBounds_toArray, List.set_cons_zero, List.set_cons_succ]
      refine wpE_take (i := 6) (oi := ?oi26) (v := ?v26) ?hi26 (by kernel_rfl) (by kernel_rfl) (by kernel_rfl) (by kernel_rfl) ?hQ26 ?hy26 (by assumption) ?rest26
      case hi26 => (simp only [List.getElem?_toArray]; rfl)
      case hQ26 => exact fun _ _ _ h => h
      case hy26 => exact Or.inl ⟨by rfl, by (intro w hSw; (try dsimp only at hSw); go_simp; try with_reducible rfl)⟩
      try simp only [Act.put, List.setIfInBounds_toArray, List.set_cons_zero, List.set_cons_succ]
      refine wpE_take (i := 7) (oi := ?oi27) (v := ?v27) ?hi27 (by kernel_rfl) (by kernel_rfl) (by kernel_rfl) (by kernel_rfl) ?hQ27 ?hy27 (by assumption) ?rest27
      case hi27 => (simp only [List.getElem?_toArray]; rfl)
      case hQ27 => exact fun _ _ _ h => h
      case hy27 => exact Or.inl ⟨by rfl, by (intro w hSw; (try dsimp only at hSw); go_simp; try with_reducible rfl)⟩
      try simp only [Act.put, List.setIfInBounds_toArray, List.set_cons_zero, List.set_cons_succ]
      refine wpE_one (i := 8) (o := ?o30) ?ho30 (by kernel_rfl) (fun K hK => ?_)
      case ho30 => (simp only [List.getElem?_toArray]; rfl)
      go_simp
      go_at_call 35
      refine (HQ.out _).mono ?_
      rintro e w3 ⟨rfl, hb⟩
      have HW2 := Lib.hid (HW.out.drew.trans (hb.mono HW.out.drew.size))
      refine hK.out _ _ (HC.out _ HW2.out) (fun hHeld => ?_)
      clear hK K
      refine wpE_of_held _ _ _ _ ?_
      refine wpAnyH_take (i := 9) (oi := ?oi2) (v := ?v2) ?hi2 (by kernel_rfl) (by kernel_rfl) (by kernel_rfl) ?hQ2 ?hy2 (by assumption) ?rest2
      case hi2 => (simp only [List.getElem?_toArray]; rfl)
      case hQ2 => exact fun _ _ _ h => h
      case hy2 => exact Or.inl ⟨by rfl, by (intro w hSw; (try dsimp only at hSw); go_simp; try with_reducible rfl)⟩
      try simp only [Act.put, List.setIfInBounds_toArray, List.set_cons_zero, List.set_cons_succ]
      refine wpAnyH_done (by kernel_rfl) ?_ _
      clear hHeld hb HW
      go_wp2_with fail
      go_roundw
      case rel => exact ⟨k + 1, by go_num, by omega, HW2.out⟩
      case measure => simp [intOf]; omega
    · obtain rfl : k = A.length := by omega
      go_wp2_with fail
      go_ret
      exact ⟨by trivial, HW.out⟩
end Go.Proofs.Ytilficlanliinaa
