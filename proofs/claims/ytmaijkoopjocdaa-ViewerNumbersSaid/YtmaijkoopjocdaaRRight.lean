/- The walk of cornhillref20.Right. -/
import Derived.Test.YtmaijkoopjocdaaRView
namespace Go.Proofs.Ytmaijkoopjocdaa
open Go.RowKit Go.Lib

theorem rlv_at {w : World} {B g n cap k : Nat} {L : List Lv} {z : Lv} (h : RLV.Row w B (.slice (some ⟨g, 0, none⟩) n cap) L) (hz : L[k]? = some z) : w.cell? ⟨g, k * 3, none⟩ = some (.int .i64 z.price) ∧ w.cell? ⟨g, k * 3 + 1, none⟩ = some (.int .i64 z.qty) ∧ w.cell? ⟨g, k * 3 + 2, none⟩ = some (.int .i64 z.count) ∧ ∀ o, w.frozen? ⟨g, o, none⟩ = false := by
 obtain ⟨g1, cap1, e1, _, hc⟩ := h.at_ k z hz
 obtain ⟨g2, cap2, cur, e2, _, hbk⟩ := h.blk (by intro h0; rw [h0] at hz; simp at hz)
 have h1 : g1 = g := by injection e1 with e1; injection e1 with e1; injection e1 with e1; exact e1.symm
 have h2 : g2 = g := by injection e2 with e2; injection e2 with e2; injection e2 with e2; exact e2.symm
 subst h1
 rw [h2] at hbk
 have hc3 : CellsAt w g1 (k * 3) [.int .i64 z.price, .int .i64 z.qty, .int .i64 z.count] := hc
 refine ⟨?_, hc3 1 _ rfl, hc3 2 _ rfl, fun o => hbk.frozen o⟩
 have := hc3 0 _ rfl
 rwa [Nat.add_zero] at this
theorem rightS_len {side : Int} {d : Sd} (h : ¬ d.lv.length ≤ 255) : rightS side d = false := by
 unfold rightS; rw [decide_eq_false h, Bool.and_false, Bool.false_and]
theorem rightS_im {side : Int} {d : Sd} (h : (if d.has = true then decide (1 ≤ d.im.qty ∧ 1 ≤ d.im.count) else decide (d.im = zeroLv)) = false) : rightS side d = false := by
 unfold rightS; rw [h, Bool.and_false]
theorem rightS_go {side : Int} {d : Sd} (hl : d.lv.length ≤ 255) (h : (if d.has = true then decide (1 ≤ d.im.qty ∧ 1 ≤ d.im.count) else decide (d.im = zeroLv)) = true) : rightS side d = rightF side none d.lv := by
 unfold rightS; rw [h, decide_eq_true hl, Bool.and_true, Bool.and_true, rightL_eq]
set_option maxRecDepth 20000 in
set_option maxHeartbeats 32000000 in
theorem rright_any {w : World} {B : Nat} {a : Option Addr} {c : Nat} {V : Vw} (h : VO RPR RLV w B (.slice a V.length c) V) (hl : V.length ≤ 800000) (hK : LenV V 800000) :
  Calls Try.prog 37 #[.agg #[.slice a V.length c]] w fun e w' => e = .returned (.bool (rightV V)) ∧ Below w.heap.size w w' := by
 obtain ⟨rv, hrv⟩ : ∃ r, rightV V = r := ⟨_, rfl⟩
 have HRV : Hid (rv = (V.all rightP && decide (V.length ≤ 255))) := Lib.hid (by rw [← hrv]; rfl)
 rw [hrv]
 have hba := Below.allocN w (.cells #[.slice a V.length c] 44)
 have HG : Hid (Blk (w.alloc (.cells #[.slice a V.length c] 44)) w.heap.size 44 #[.slice a V.length c]) := Lib.hid (Blk.new _ _ _)
 have HB := Lib.hid hba
 have HR := Lib.hid (h.below hba)
 have HK := Lib.hid hK
 clear hba h hK hrv
 go_enter Try.func37, Try.ntmps37
 go_upto_region 1 with (fail)
 obtain ⟨g, hg⟩ : ∃ g, w.heap.size = g := ⟨_, rfl⟩
 rw [hg] at HG ⊢
 clear hg
 generalize w.alloc (.cells #[.slice a V.length c] 44) = w1 at *
 have c0 : w1.cell? ⟨g, 0, none⟩ = some (.slice a V.length c) := HG.out.cell 0
 by_cases hv : V.length ≤ 255
 ·have hvd : decide (255 < V.length) = false := decide_eq_false (by omega)
  have HR1 : Hid (rv = V.all rightP) := Lib.hid (by rw [HRV.out, decide_eq_true hv, Bool.and_true])
  clear HRV
  go_wp2_with fail
  go_loopw [3] (fun i w' => ∃ k : Nat, i = .int .i64 k ∧ k ≤ V.length ∧ V.all rightP = (V.drop k).all rightP ∧ Below w1.heap.size w1 w') (fun i _ => V.length - (RowKit.intOf i).toNat)
  case atStart => exact ⟨0, rfl, Nat.zero_le _, rfl, Below.refl _ _⟩
  case round =>
   clear c0
   obtain ⟨k, rfl, hk, hrf, hb⟩ := hrel
   obtain ⟨wz, rfl⟩ : ∃ wo : World, wo = wr := ⟨_, rfl⟩
   have HRF := Lib.hid hrf
   have HBZ := Lib.hid hb
   clear hrf hb
   have g0 : wz.cell? ⟨g, 0, none⟩ = some (.slice a V.length c) := (HG.out.below HBZ.out).cell 0
   by_cases hlt : k < V.length
   ·have hlt' : (k : Int) < (V.length : Int) := by omega
    obtain ⟨x, hx⟩ : ∃ x, V[k]? = some x := ⟨_, List.getElem?_eq_getElem hlt⟩
    have HST := Lib.hid (all_step hx)
    have HX := Lib.hid hx
    have hk1 := HK.out x (List.mem_of_getElem? hx)
    have HL1 := Lib.hid hk1
    obtain ⟨d1, d2⟩ := x
    clear hx hk1
    go_wp2_with fail
    go_loopw [4] (fun i w' => Below w1.heap.size w1 w' ∧ (i = .int .i64 1 ∨ (i = .int .i64 2 ∧ rightS 1 d1 = true) ∨ (i = .int .i64 3 ∧ rightS 1 d1 = true ∧ rightS 2 d2 = true))) (fun i _ => 3 - (RowKit.intOf i).toNat)
    case atStart => exact ⟨HBZ.out, .inl rfl⟩
    case round =>
     clear g0
     obtain ⟨hb, hi⟩ := hrel
     obtain ⟨wy, rfl⟩ : ∃ wo : World, wo = wr := ⟨_, rfl⟩
     have HBY := Lib.hid hb
     have HRY := Lib.hid (HR.out.below hb)
     clear hb
     have g0 : wy.cell? ⟨g, 0, none⟩ = some (.slice a V.length c) := (HG.out.below HBY.out).cell 0
     rcases hi with rfl | ⟨rfl, hr1⟩ | ⟨rfl, hr1, hr2⟩
     ·obtain ⟨gb, cap, pp, he, _, hcx, hs1, hs2⟩ := HRY.out.get HX.out
      injection he with he1 _ he3
      subst he1
      subst he3
      skip
      skip
      obtain ⟨⟨a1, n1, e1, ⟨p1, q1, r1⟩, f1⟩, ⟨a2, n2, e2, ⟨p2, q2, r2⟩, f2⟩⟩ := pp
      have HBAD : Hid (rightS 1 d1 = false → rv = false) := Lib.hid (fun hh => by rw [HR1.out, HRF.out, HST.out, show rightP (d1, d2) = false by unfold rightP; rw [show rightS 1 d1 = false from hh, Bool.false_and], Bool.false_and])
      have HSH := Lib.hid hs1
      have x0 : wy.cell? ⟨gb, k * 10, none⟩ = some (.slice a1 n1 e1) := hcx 0 _ rfl
      have x1 : wy.cell? ⟨gb, k * 10 + 1, none⟩ = some (.int .i64 p1) := hcx 1 _ rfl
      have x2 : wy.cell? ⟨gb, k * 10 + 2, none⟩ = some (.int .i64 q1) := hcx 2 _ rfl
      have x3 : wy.cell? ⟨gb, k * 10 + 3, none⟩ = some (.int .i64 r1) := hcx 3 _ rfl
      have x4 : wy.cell? ⟨gb, k * 10 + 4, none⟩ = some (.bool f1) := hcx 4 _ rfl
      clear hcx hs1 hs2 HRY
      obtain ⟨gx, hgx⟩ : ∃ gx, wy.heap.size = gx := ⟨_, rfl⟩
      go_upto_region 10 with (fail)
      have hb5 := Below.allocN wy (.cells #[.slice a1 n1 e1, .int .i64 p1, .int .i64 q1, .int .i64 r1, .bool f1] 81)
      have hgx5 : Blk (wy.alloc (.cells #[.slice a1 n1 e1, .int .i64 p1, .int .i64 q1, .int .i64 r1, .bool f1] 81)) wy.heap.size 81 #[.slice a1 n1 e1, .int .i64 p1, .int .i64 q1, .int .i64 r1, .bool f1] := Blk.new _ _ _
      rw [hgx] at hgx5
      have HB5 := Lib.hid (HBY.out.trans (hb5.mono HBY.out.size))
      have HS5 := Lib.hid (HSH.out.below hb5)
      have HGX := Lib.hid hgx5
      clear hb5 hgx5 hgx x0 x1 x2 x3 x4 g0 HSH
      generalize wy.alloc (.cells #[.slice a1 n1 e1, .int .i64 p1, .int .i64 q1, .int .i64 r1, .bool f1] 81) = w5 at *
      obtain ⟨h1, h2, h3, h4⟩ := HS5.out
      obtain ⟨L, ⟨ip, iq, ic⟩, hs⟩ := d1
      dsimp only at h1 h2 h3 h4
      injection h3 with t1 t2 t3
      subst h1; subst h4; subst t1; subst t2; subst t3
      have HLL : Hid (L.length ≤ 800000) := Lib.hid HL1.out.1
      have HRW := Lib.hid h2
      clear h2 HS5
      have x0 : w5.cell? ⟨gx, 0, none⟩ = some (.slice a1 L.length e1) := HGX.out.cell 0
      have x1 : w5.cell? ⟨gx, 1, none⟩ = some (.int .i64 p1) := HGX.out.cell 1
      have x2 : w5.cell? ⟨gx, 2, none⟩ = some (.int .i64 q1) := HGX.out.cell 2
      have x3 : w5.cell? ⟨gx, 3, none⟩ = some (.int .i64 r1) := HGX.out.cell 3
      have x4 : w5.cell? ⟨gx, 4, none⟩ = some (.bool f1) := HGX.out.cell 4
      have HBW := Lib.hid (HB.out.trans (HB5.out.mono HB.out.size))
      by_cases hll : L.length ≤ 255
      ·cases f1 with
       | true =>
        by_cases hq : q1 < 1
        ·have HF : Hid (rv = false) := Lib.hid (HBAD.out (rightS_im (by rw [if_pos rfl]; exact decide_eq_false (fun h => by have := h.1; dsimp only at this; omega))))
         go_wp2_with fail
         go_ret
         exact ⟨by rw [HF.out]; try rfl, HBW.out⟩
        ·by_cases hc : r1 < 1
         ·have HF : Hid (rv = false) := Lib.hid (HBAD.out (rightS_im (by rw [if_pos rfl]; exact decide_eq_false (fun h => by have := h.2; dsimp only at this; omega))))
          go_wp2_with fail
          go_ret
          exact ⟨by rw [HF.out]; try rfl, HBW.out⟩
         ·have HGO : Hid (rightS 1 ⟨L, ⟨p1, q1, r1⟩, true⟩ = rightF 1 none L) := Lib.hid (rightS_go hll (by rw [if_pos rfl]; exact decide_eq_true ⟨by dsimp only; omega, by dsimp only; omega⟩))
          go_upto_region 13 with (fail)
          go_loopw [6] (fun i w' => ∃ k3 : Nat, i = .int .i64 k3 ∧ k3 ≤ L.length ∧ rightF 1 none L = rightF 1 (prevP L k3) (L.drop k3) ∧ Below w5.heap.size w5 w') (fun i _ => L.length - (RowKit.intOf i).toNat)
          case atStart => exact ⟨0, rfl, Nat.zero_le _, rfl, Below.refl _ _⟩
          case round =>
           clear x0 x1 x2 x3 x4
           obtain ⟨k3, rfl, hk3, hrf, hb⟩ := hrel
           obtain ⟨w6, rfl⟩ : ∃ wo : World, wo = wr := ⟨_, rfl⟩
           have HBC := Lib.hid (HB.out.trans (HB5.out.mono HB.out.size))
           have HRF3 := Lib.hid hrf
           have HBZ3 := Lib.hid hb
           have HGZ3 := Lib.hid (HGX.out.below hb)
           have HRZ3 := Lib.hid (HRW.out.below hb)
           have hl := HLL.out
           have g0 : w6.cell? ⟨gx, 0, none⟩ = some (.slice a1 L.length e1) := HGZ3.out.cell 0
           clear hrf hb
           by_cases hlt3 : k3 < L.length
           ·have hlt3' : (k3 : Int) < (L.length : Int) := by omega
            obtain ⟨z3, hx⟩ : ∃ z3, L[k3]? = some z3 := ⟨_, List.getElem?_eq_getElem hlt3⟩
            have HST3 := Lib.hid (rightF_step (side := 1) hx)
            obtain ⟨gb3, cap3, he, _, hcx⟩ := HRZ3.out.at_ k3 z3 hx
            injection he with he1 _ he3
            subst he1
            subst he3
            obtain ⟨x0, x1, x2, _⟩ := rlv_at HRZ3.out hx
            have HX3 := Lib.hid hx
            clear hcx hx
            obtain ⟨gy, hgy⟩ : ∃ gy, w6.heap.size = gy := ⟨_, rfl⟩
            go_upto_region 4 with (fail)
            have hb5 : Below w6.heap.size w6 (w6.alloc (.cells #[.int .i64 z3.price, .int .i64 z3.qty, .int .i64 z3.count] 79)) := Below.allocN _ _
            have hgy5 : Blk (w6.alloc (.cells #[.int .i64 z3.price, .int .i64 z3.qty, .int .i64 z3.count] 79)) w6.heap.size 79 #[.int .i64 z3.price, .int .i64 z3.qty, .int .i64 z3.count] := Blk.new _ _ _
            rw [hgy] at hgy5
            have HB7 : Hid (Below w.heap.size w (w6.alloc (.cells #[.int .i64 z3.price, .int .i64 z3.qty, .int .i64 z3.count] 79))) := Lib.hid (HBC.out.trans ((HBZ3.out.trans (hb5.mono HBZ3.out.size)).mono HBC.out.size))
            have HBZ7 := Lib.hid (HBZ3.out.trans (hb5.mono HBZ3.out.size))
            have HG7 := Lib.hid (HGZ3.out.below hb5)
            have HR7 := Lib.hid (HRZ3.out.below hb5)
            have HGY := Lib.hid hgy5
            clear hb5 hgy5 hgy x0 x1 x2 HGZ3 HRZ3 HBZ3
            generalize w6.alloc (.cells #[.int .i64 z3.price, .int .i64 z3.qty, .int .i64 z3.count] 79) = w7 at *
            have x0 : w7.cell? ⟨gy, 0, none⟩ = some (.int .i64 z3.price) := HGY.out.cell 0
            have x1 : w7.cell? ⟨gy, 1, none⟩ = some (.int .i64 z3.qty) := HGY.out.cell 1
            have x2 : w7.cell? ⟨gy, 2, none⟩ = some (.int .i64 z3.count) := HGY.out.cell 2
            have g0 : w7.cell? ⟨gx, 0, none⟩ = some (.slice (some ⟨gb3, 0, none⟩) L.length e1) := HG7.out.cell 0
            by_cases hq : z3.qty < 1
            ·have hqd : decide (z3.qty < 1) = true := decide_eq_true hq
             have HF : Hid (rightF 1 none L = false) := Lib.hid (by rw [HRF3.out, HST3.out, decide_eq_false (by omega : ¬ (1 ≤ z3.qty ∧ 1 ≤ z3.count)), Bool.false_and, Bool.false_and])
             clear hq
             go_quiet (fail)
             have hbq := HB7.out.trans ((Below.drewN_of w7 nq).mono HB7.out.size)
             go_wp2_with fail
             go_ret
             exact ⟨by rw [HBAD.out (HGO.out.trans HF.out)]; try rfl, hbq⟩
            ·have hqd : decide (z3.qty < 1) = false := decide_eq_false hq
             by_cases hc : z3.count < 1
             ·have hcd : decide (z3.count < 1) = true := decide_eq_true hc
              have HF : Hid (rightF 1 none L = false) := Lib.hid (by rw [HRF3.out, HST3.out, decide_eq_false (by omega : ¬ (1 ≤ z3.qty ∧ 1 ≤ z3.count)), Bool.false_and, Bool.false_and])
              clear hq hc
              go_quiet (fail)
              have hbq := HB7.out.trans ((Below.drewN_of w7 nq).mono HB7.out.size)
              go_wp2_with fail
              go_ret
              exact ⟨by rw [HBAD.out (HGO.out.trans HF.out)]; try rfl, hbq⟩
             ·have hcd : decide (z3.count < 1) = false := decide_eq_false hc
              have HOK : Hid (decide (1 ≤ z3.qty ∧ 1 ≤ z3.count) = true) := Lib.hid (decide_eq_true (by omega))
              clear hq hc
              by_cases hk0 : k3 = 0
              ·have hk0' : ¬ (0 : Int) < (k3 : Int) := by omega
               have HN : Hid (rightF 1 none L = rightF 1 (prevP L (k3 + 1)) (L.drop (k3 + 1))) := Lib.hid (by rw [HRF3.out, HST3.out, HOK.out, show prevP L k3 = none from if_pos hk0]; rfl)
               go_quiet (fail)
               have HBQ := Lib.hid (HBZ7.out.trans ((Below.drewN_of w7 nq).mono HBZ7.out.size))
               go_wp2_with fail
               go_roundw
               case rel => exact ⟨k3 + 1, by go_num, hlt3, HN.out, HBQ.out⟩
               case measure => simp [RowKit.intOf]; omega
              ·have hk0' : (0 : Int) < (k3 : Int) := by omega
               have hkd : decide (0 < k3) = true := decide_eq_true (by omega)
               obtain ⟨j, hj⟩ : ∃ j : Nat, k3 = j + 1 := ⟨k3 - 1, by omega⟩
               have y1 : IntKind.i64.wrap (j : Int) = (j : Int) := IntWalk.i64_in _ (by omega)
               have y3 : (0 : Int) ≤ (j : Int) := by omega
               have y2 : (k3 : Int) - 1 = (j : Int) := by omega
               have hjl : (j : Int) < (L.length : Int) := by omega
               obtain ⟨y, hy⟩ : ∃ y, L[j]? = some y := ⟨_, List.getElem?_eq_getElem (by omega)⟩
               obtain ⟨p0, _, _, _⟩ := rlv_at HR7.out hy
               have hpv : prevP L k3 = some y.price := by unfold prevP; rw [if_neg hk0, hj, Nat.add_sub_cancel, hy]; rfl
               have HST2 : Hid (rightF 1 none L = (betterP 1 y.price z3.price && rightF 1 (prevP L (k3 + 1)) (L.drop (k3 + 1)))) := Lib.hid (by rw [HRF3.out, HST3.out, HOK.out, hpv]; rfl)
               have hS : w7.cell? ⟨gy, 0, none⟩ = some (.int .i64 z3.price) ∧ w7.cell? ⟨gy, 1, none⟩ = some (.int .i64 z3.qty) ∧ w7.cell? ⟨gy, 2, none⟩ = some (.int .i64 z3.count) ∧ w7.cell? ⟨gx, 0, none⟩ = some (.slice (some ⟨gb3, 0, none⟩) L.length e1) ∧ w7.cell? ⟨gb3, j * 3, none⟩ = some (.int .i64 y.price) := ⟨x0, x1, x2, g0, p0⟩
               have HBT := Lib.hid (rbetter_any 1 y.price z3.price w7.drew)
               obtain ⟨bt, hbt⟩ : ∃ bt, betterP 1 y.price z3.price = bt := ⟨_, rfl⟩
               rw [hbt] at HBT HST2
               clear hj hy hpv hk0 x0 x1 x2 g0 p0 hbt HST3 HRF3
               refine wp_region_E (S := fun w7 => w7.cell? ⟨gy, 0, none⟩ = some (.int .i64 z3.price) ∧ w7.cell? ⟨gy, 1, none⟩ = some (.int .i64 z3.qty) ∧ w7.cell? ⟨gy, 2, none⟩ = some (.int .i64 z3.count) ∧ w7.cell? ⟨gx, 0, none⟩ = some (.slice (some ⟨gb3, 0, none⟩) L.length e1) ∧ w7.cell? ⟨gb3, j * 3, none⟩ = some (.int .i64 y.price)) (by kernel_rfl) hS (fun hHeld => ?_)
               refine wpE_tk 0 (oi := ?o1) (v := ?v1) ?h1 (by kernel_rfl) ?q1 ?y1 (by assumption) ?_
               case h1 => (simp only [List.getElem?_toArray]; rfl)
               case q1 => exact fun _ _ _ h => h
               case y1 => exact Or.inl ⟨by rfl, by (intro w hSw; (try dsimp only at hSw); go_simp; try with_reducible rfl)⟩
               try simp only [Act.put, sA, sB, sC]
               refine wpE_tk 1 (oi := ?o2) (v := ?v2) ?h2 (by kernel_rfl) ?q2 ?y2 (by assumption) ?_
               case h2 => (simp only [List.getElem?_toArray]; rfl)
               case q2 => exact fun _ _ _ h => h
               case y2 => exact Or.inl ⟨by rfl, by (intro w hSw; (try dsimp only at hSw); go_simp; try with_reducible rfl)⟩
               try simp only [Act.put, sA, sB, sC]
               refine wpE_tk 2 (oi := ?o3) (v := ?v3) ?h3 (by kernel_rfl) ?q3 ?y3 (by assumption) ?_
               case h3 => (simp only [List.getElem?_toArray]; rfl)
               case q3 => exact fun _ _ _ h => h
               case y3 => exact Or.inl ⟨by rfl, by (intro w hSw; (try dsimp only at hSw); go_simp; try with_reducible rfl)⟩
               try simp only [Act.put, sA, sB, sC]
               refine wpE_tk 3 (oi := ?o4) (v := ?v4) ?h4 (by kernel_rfl) ?q4 ?y4 (by assumption) ?_
               case h4 => (simp only [List.getElem?_toArray]; rfl)
               case q4 => exact fun _ _ _ h => h
               case y4 => exact Or.inl ⟨by rfl, by (intro w hSw; (try dsimp only at hSw); go_simp; try with_reducible rfl)⟩
               try simp only [Act.put, sA, sB, sC]
               refine wpE_tk 4 (oi := ?o5) (v := ?v5) ?h5 (by kernel_rfl) ?q5 ?y5 (by assumption) ?_
               case h5 => (simp only [List.getElem?_toArray]; rfl)
               case q5 => exact fun _ _ _ h => h
               case y5 => exact Or.inl ⟨by rfl, by (intro w hSw; (try dsimp only at hSw); go_simp; try with_reducible rfl)⟩
               try simp only [Act.put, sA, sB, sC]
               refine wpE_tk 5 (oi := ?o6) (v := ?v6) ?h6 (by kernel_rfl) ?q6 ?y6 (by assumption) ?_
               case h6 => (simp only [List.getElem?_toArray]; rfl)
               case q6 => exact fun _ _ _ h => h
               case y6 => exact Or.inl ⟨by rfl, by (intro w hSw; (try dsimp only at hSw); go_simp; try with_reducible rfl)⟩
               try simp only [Act.put, sA, sB, sC]
               refine wpE_tk 6 (oi := ?o7) (v := ?v7) ?h7 (by kernel_rfl) ?q7 ?y7 (by assumption) ?_
               case h7 => (simp only [List.getElem?_toArray]; rfl)
               case q7 => exact fun _ _ _ h => h
               case y7 => exact Or.inl ⟨by rfl, by (intro w hSw; (try dsimp only at hSw); go_simp; try with_reducible rfl)⟩
               try simp only [Act.put, sA, sB, sC]
               refine wpE_tk 7 (oi := ?o8) (v := ?v8) ?h8 (by kernel_rfl) ?q8 ?y8 (by assumption) ?_
               case h8 => (simp only [List.getElem?_toArray]; rfl)
               case q8 => exact fun _ _ _ h => h
               case y8 => exact Or.inl ⟨by rfl, by (intro w hSw; (try dsimp only at hSw); go_simp; try with_reducible rfl)⟩
               try simp only [Act.put, sA, sB, sC]
               refine wpE_tk 8 (oi := ?o9) (v := ?v9) ?h9 (by kernel_rfl) ?q9 ?y9 (by assumption) ?_
               case h9 => (simp only [List.getElem?_toArray]; rfl)
               case q9 => exact fun _ _ _ h => h
               case y9 => exact Or.inl ⟨by rfl, by (intro w hSw; (try dsimp only at hSw); go_simp; try with_reducible rfl)⟩
               try simp only [Act.put, sA, sB, sC]
               refine wpE_tk 9 (oi := ?o10) (v := ?v10) ?h10 (by kernel_rfl) ?q10 ?y10 (by assumption) ?_
               case h10 => (simp only [List.getElem?_toArray]; rfl)
               case q10 => exact fun _ _ _ h => h
               case y10 => exact Or.inl ⟨by rfl, by (intro w hSw; (try dsimp only at hSw); go_simp; try with_reducible rfl)⟩
               try simp only [Act.put, sA, sB, sC]
               refine wpE_tk 10 (oi := ?o11) (v := ?v11) ?h11 (by kernel_rfl) ?q11 ?y11 (by assumption) ?_
               case h11 => (simp only [List.getElem?_toArray]; rfl)
               case q11 => exact fun _ _ _ h => h
               case y11 => exact Or.inl ⟨by rfl, by (intro w hSw; (try dsimp only at hSw); go_simp; try with_reducible rfl)⟩
               try simp only [Act.put, sA, sB, sC]
               refine wpE_tk 11 (oi := ?o12) (v := ?v12) ?h12 (by kernel_rfl) ?q12 ?y12 (by assumption) ?_
               case h12 => (simp only [List.getElem?_toArray]; rfl)
               case q12 => exact fun _ _ _ h => h
               case y12 => exact Or.inl ⟨by rfl, by (intro w hSw; (try dsimp only at hSw); go_simp; try with_reducible rfl)⟩
               try simp only [Act.put, sA, sB, sC]
               refine wpE_tk 12 (oi := ?o13) (v := ?v13) ?h13 (by kernel_rfl) ?q13 ?y13 (by assumption) ?_
               case h13 => (simp only [List.getElem?_toArray]; rfl)
               case q13 => exact fun _ _ _ h => h
               case y13 => exact Or.inl ⟨by rfl, by (intro w hSw; (try dsimp only at hSw); go_simp; try with_reducible rfl)⟩
               try simp only [Act.put, sA, sB, sC]
               refine wpE_tk 13 (oi := ?o14) (v := ?v14) ?h14 (by kernel_rfl) ?q14 ?y14 (by assumption) ?_
               case h14 => (simp only [List.getElem?_toArray]; rfl)
               case q14 => exact fun _ _ _ h => h
               case y14 => exact Or.inl ⟨by rfl, by (intro w hSw; (try dsimp only at hSw); go_simp; try with_reducible rfl)⟩
               try simp only [Act.put, sA, sB, sC]
               refine wpE_tk 14 (oi := ?o15) (v := ?v15) ?h15 (by kernel_rfl) ?q15 ?y15 (by assumption) ?_
               case h15 => (simp only [List.getElem?_toArray]; rfl)
               case q15 => exact fun _ _ _ h => h
               case y15 => exact Or.inl ⟨by rfl, by (intro w hSw; (try dsimp only at hSw); go_simp; try with_reducible rfl)⟩
               try simp only [Act.put, sA, sB, sC]
               refine wpE_tk 15 (oi := ?o16) (v := ?v16) ?h16 (by kernel_rfl) ?q16 ?y16 (by assumption) ?_
               case h16 => (simp only [List.getElem?_toArray]; rfl)
               case q16 => exact fun _ _ _ h => h
               case y16 => exact Or.inl ⟨by rfl, by (intro w hSw; (try dsimp only at hSw); go_simp; try with_reducible rfl)⟩
               try simp only [Act.put, sA, sB, sC]
               refine wpE_tk 16 (oi := ?o17) (v := ?v17) ?h17 (by kernel_rfl) ?q17 ?y17 (by assumption) ?_
               case h17 => (simp only [List.getElem?_toArray]; rfl)
               case q17 => exact fun _ _ _ h => h
               case y17 => exact Or.inl ⟨by rfl, by (intro w hSw; (try dsimp only at hSw); go_simp; try with_reducible rfl)⟩
               try simp only [Act.put, sA, sB, sC]
               refine wpE_tk 17 (oi := ?o18) (v := ?v18) ?h18 (by kernel_rfl) ?q18 ?y18 (by assumption) ?_
               case h18 => (simp only [List.getElem?_toArray]; rfl)
               case q18 => exact fun _ _ _ h => h
               case y18 => exact Or.inl ⟨by rfl, by (intro w hSw; (try dsimp only at hSw); go_simp; try with_reducible rfl)⟩
               try simp only [Act.put, sA, sB, sC]
               refine wpE_tk 18 (oi := ?o19) (v := ?v19) ?h19 (by kernel_rfl) ?q19 ?y19 (by assumption) ?_
               case h19 => (simp only [List.getElem?_toArray]; rfl)
               case q19 => exact fun _ _ _ h => h
               case y19 => exact Or.inl ⟨by rfl, by (intro w hSw; (try dsimp only at hSw); go_simp; try with_reducible rfl)⟩
               try simp only [Act.put, sA, sB, sC]
               refine wpE_tk 19 (oi := ?o20) (v := ?v20) ?h20 (by kernel_rfl) ?q20 ?y20 (by assumption) ?_
               case h20 => (simp only [List.getElem?_toArray]; rfl)
               case q20 => exact fun _ _ _ h => h
               case y20 => exact Or.inl ⟨by rfl, by (intro w hSw; (try dsimp only at hSw); go_simp; try with_reducible rfl)⟩
               try simp only [Act.put, sA, sB, sC]
               refine wpE_tk 20 (oi := ?o21) (v := ?v21) ?h21 (by kernel_rfl) ?q21 ?y21 (by assumption) ?_
               case h21 => (simp only [List.getElem?_toArray]; rfl)
               case q21 => exact fun _ _ _ h => h
               case y21 => exact Or.inl ⟨by rfl, by (intro w hSw; (try dsimp only at hSw); go_simp; try with_reducible rfl)⟩
               try simp only [Act.put, sA, sB, sC]
               refine wpE_tk 21 (oi := ?o22) (v := ?v22) ?h22 (by kernel_rfl) ?q22 ?y22 (by assumption) ?_
               case h22 => (simp only [List.getElem?_toArray]; rfl)
               case q22 => exact fun _ _ _ h => h
               case y22 => exact Or.inl ⟨by rfl, by (intro w hSw; (try dsimp only at hSw); go_simp; try with_reducible rfl)⟩
               try simp only [Act.put, sA, sB, sC]
               refine wpE_one (i := 22) (o := ?o97) ?ho97 (by kernel_rfl) (fun K hK => ?_)
               case ho97 => (simp only [List.getElem?_toArray]; rfl)
               go_simp
               refine HBT.out.mono ?_
               rintro e w8 ⟨rfl, rfl⟩
               refine hK.out _ _ hHeld (fun hHeld => ?_)
               clear hK K
               refine wpE_tk 23 (oi := ?o23) (v := ?v23) ?h23 (by kernel_rfl) ?q23 ?y23 (by assumption) ?_
               case h23 => (simp only [List.getElem?_toArray]; rfl)
               case q23 => exact fun _ _ _ h => h
               case y23 => exact Or.inl ⟨by rfl, by (intro w hSw; (try dsimp only at hSw); go_simp; try with_reducible rfl)⟩
               try simp only [Act.put, sA, sB, sC]
               refine wpE_tk 24 (oi := ?o24) (v := ?v24) ?h24 (by kernel_rfl) ?q24 ?y24 (by assumption) ?_
               case h24 => (simp only [List.getElem?_toArray]; rfl)
               case q24 => exact fun _ _ _ h => h
               case y24 => exact Or.inl ⟨by rfl, by (intro w hSw; (try dsimp only at hSw); go_simp; try with_reducible rfl)⟩
               try simp only [Act.put, sA, sB, sC]
               refine wpE_last (i := 25) (o := ?o101) ?ho101 (by kernel_rfl) (by kernel_rfl) (by kernel_rfl) (fun K hK => ?_)
               case ho101 => (simp only [List.getElem?_toArray]; rfl)
               go_simp
               refine hK.out _ _ ?_
               clear hK K hHeld hS
               have HBQ := Lib.hid (HBZ7.out.trans ((Below.drewN_of w7 1).mono HBZ7.out.size))
               have HBW := Lib.hid (HB7.out.trans ((Below.drewN_of w7 1).mono HB7.out.size))
               cases bt with
               | true =>
                have HN : Hid (rightF 1 none L = rightF 1 (prevP L (k3 + 1)) (L.drop (k3 + 1))) := Lib.hid (by rw [HST2.out, Bool.true_and])
                go_wp2_with fail
                go_roundw
                case rel => exact ⟨k3 + 1, by go_num, hlt3, HN.out, HBQ.out⟩
                case measure => simp [RowKit.intOf]; omega
               | false =>
                have HF : Hid (rightF 1 none L = false) := Lib.hid (by rw [HST2.out, Bool.false_and])
                go_wp2_with fail
                go_ret
                exact ⟨by rw [HBAD.out (HGO.out.trans HF.out)]; try rfl, HBW.out⟩
           ·have hkl : k3 = L.length := by omega
            have HSD : Hid (rightS 1 ⟨L, ⟨p1, q1, r1⟩, true⟩ = true) := Lib.hid (by rw [HGO.out, HRF3.out, hkl, List.drop_length]; rfl)
            have HBE := Lib.hid (HB5.out.trans (HBZ3.out.mono HB5.out.size))
            clear hkl HRF3 HGZ3 HRZ3 HBZ3
            go_wp2_with fail
            go_roundw
            case rel => exact ⟨HBE.out, .inr (.inl ⟨by rfl, HSD.out⟩)⟩
            case measure => simp [RowKit.intOf]
       | false =>
        by_cases hz : (⟨p1, q1, r1⟩ : Lv) = zeroLv
        ·have HGO : Hid (rightS 1 ⟨L, ⟨p1, q1, r1⟩, false⟩ = rightF 1 none L) := Lib.hid (rightS_go hll (by rw [if_neg (by simp)]; exact decide_eq_true hz))
         injection hz with u1 u2 u3
         subst u1; subst u2; subst u3
         go_upto_region 13 with (fail)
         go_loopw [6] (fun i w' => ∃ k3 : Nat, i = .int .i64 k3 ∧ k3 ≤ L.length ∧ rightF 1 none L = rightF 1 (prevP L k3) (L.drop k3) ∧ Below w5.heap.size w5 w') (fun i _ => L.length - (RowKit.intOf i).toNat)
         case atStart => exact ⟨0, rfl, Nat.zero_le _, rfl, Below.refl _ _⟩
         case round =>
          clear x0 x1 x2 x3 x4
          obtain ⟨k3, rfl, hk3, hrf, hb⟩ := hrel
          obtain ⟨w6, rfl⟩ : ∃ wo : World, wo = wr := ⟨_, rfl⟩
          have HBC := Lib.hid (HB.out.trans (HB5.out.mono HB.out.size))
          have HRF3 := Lib.hid hrf
          have HBZ3 := Lib.hid hb
          have HGZ3 := Lib.hid (HGX.out.below hb)
          have HRZ3 := Lib.hid (HRW.out.below hb)
          have hl := HLL.out
          have g0 : w6.cell? ⟨gx, 0, none⟩ = some (.slice a1 L.length e1) := HGZ3.out.cell 0
          clear hrf hb
          by_cases hlt3 : k3 < L.length
          ·have hlt3' : (k3 : Int) < (L.length : Int) := by omega
           obtain ⟨z3, hx⟩ : ∃ z3, L[k3]? = some z3 := ⟨_, List.getElem?_eq_getElem hlt3⟩
           have HST3 := Lib.hid (rightF_step (side := 1) hx)
           obtain ⟨gb3, cap3, he, _, hcx⟩ := HRZ3.out.at_ k3 z3 hx
           injection he with he1 _ he3
           subst he1
           subst he3
           obtain ⟨x0, x1, x2, _⟩ := rlv_at HRZ3.out hx
           have HX3 := Lib.hid hx
           clear hcx hx
           obtain ⟨gy, hgy⟩ : ∃ gy, w6.heap.size = gy := ⟨_, rfl⟩
           go_upto_region 4 with (fail)
           have hb5 : Below w6.heap.size w6 (w6.alloc (.cells #[.int .i64 z3.price, .int .i64 z3.qty, .int .i64 z3.count] 79)) := Below.allocN _ _
           have hgy5 : Blk (w6.alloc (.cells #[.int .i64 z3.price, .int .i64 z3.qty, .int .i64 z3.count] 79)) w6.heap.size 79 #[.int .i64 z3.price, .int .i64 z3.qty, .int .i64 z3.count] := Blk.new _ _ _
           rw [hgy] at hgy5
           have HB7 : Hid (Below w.heap.size w (w6.alloc (.cells #[.int .i64 z3.price, .int .i64 z3.qty, .int .i64 z3.count] 79))) := Lib.hid (HBC.out.trans ((HBZ3.out.trans (hb5.mono HBZ3.out.size)).mono HBC.out.size))
           have HBZ7 := Lib.hid (HBZ3.out.trans (hb5.mono HBZ3.out.size))
           have HG7 := Lib.hid (HGZ3.out.below hb5)
           have HR7 := Lib.hid (HRZ3.out.below hb5)
           have HGY := Lib.hid hgy5
           clear hb5 hgy5 hgy x0 x1 x2 HGZ3 HRZ3 HBZ3
           generalize w6.alloc (.cells #[.int .i64 z3.price, .int .i64 z3.qty, .int .i64 z3.count] 79) = w7 at *
           have x0 : w7.cell? ⟨gy, 0, none⟩ = some (.int .i64 z3.price) := HGY.out.cell 0
           have x1 : w7.cell? ⟨gy, 1, none⟩ = some (.int .i64 z3.qty) := HGY.out.cell 1
           have x2 : w7.cell? ⟨gy, 2, none⟩ = some (.int .i64 z3.count) := HGY.out.cell 2
           have g0 : w7.cell? ⟨gx, 0, none⟩ = some (.slice (some ⟨gb3, 0, none⟩) L.length e1) := HG7.out.cell 0
           by_cases hq : z3.qty < 1
           ·have hqd : decide (z3.qty < 1) = true := decide_eq_true hq
            have HF : Hid (rightF 1 none L = false) := Lib.hid (by rw [HRF3.out, HST3.out, decide_eq_false (by omega : ¬ (1 ≤ z3.qty ∧ 1 ≤ z3.count)), Bool.false_and, Bool.false_and])
            clear hq
            go_quiet (fail)
            have hbq := HB7.out.trans ((Below.drewN_of w7 nq).mono HB7.out.size)
            go_wp2_with fail
            go_ret
            exact ⟨by rw [HBAD.out (HGO.out.trans HF.out)]; try rfl, hbq⟩
           ·have hqd : decide (z3.qty < 1) = false := decide_eq_false hq
            by_cases hc : z3.count < 1
            ·have hcd : decide (z3.count < 1) = true := decide_eq_true hc
             have HF : Hid (rightF 1 none L = false) := Lib.hid (by rw [HRF3.out, HST3.out, decide_eq_false (by omega : ¬ (1 ≤ z3.qty ∧ 1 ≤ z3.count)), Bool.false_and, Bool.false_and])
             clear hq hc
             go_quiet (fail)
             have hbq := HB7.out.trans ((Below.drewN_of w7 nq).mono HB7.out.size)
             go_wp2_with fail
             go_ret
             exact ⟨by rw [HBAD.out (HGO.out.trans HF.out)]; try rfl, hbq⟩
            ·have hcd : decide (z3.count < 1) = false := decide_eq_false hc
             have HOK : Hid (decide (1 ≤ z3.qty ∧ 1 ≤ z3.count) = true) := Lib.hid (decide_eq_true (by omega))
             clear hq hc
             by_cases hk0 : k3 = 0
             ·have hk0' : ¬ (0 : Int) < (k3 : Int) := by omega
              have HN : Hid (rightF 1 none L = rightF 1 (prevP L (k3 + 1)) (L.drop (k3 + 1))) := Lib.hid (by rw [HRF3.out, HST3.out, HOK.out, show prevP L k3 = none from if_pos hk0]; rfl)
              go_quiet (fail)
              have HBQ := Lib.hid (HBZ7.out.trans ((Below.drewN_of w7 nq).mono HBZ7.out.size))
              go_wp2_with fail
              go_roundw
              case rel => exact ⟨k3 + 1, by go_num, hlt3, HN.out, HBQ.out⟩
              case measure => simp [RowKit.intOf]; omega
             ·have hk0' : (0 : Int) < (k3 : Int) := by omega
              have hkd : decide (0 < k3) = true := decide_eq_true (by omega)
              obtain ⟨j, hj⟩ : ∃ j : Nat, k3 = j + 1 := ⟨k3 - 1, by omega⟩
              have y1 : IntKind.i64.wrap (j : Int) = (j : Int) := IntWalk.i64_in _ (by omega)
              have y3 : (0 : Int) ≤ (j : Int) := by omega
              have y2 : (k3 : Int) - 1 = (j : Int) := by omega
              have hjl : (j : Int) < (L.length : Int) := by omega
              obtain ⟨y, hy⟩ : ∃ y, L[j]? = some y := ⟨_, List.getElem?_eq_getElem (by omega)⟩
              obtain ⟨p0, _, _, _⟩ := rlv_at HR7.out hy
              have hpv : prevP L k3 = some y.price := by unfold prevP; rw [if_neg hk0, hj, Nat.add_sub_cancel, hy]; rfl
              have HST2 : Hid (rightF 1 none L = (betterP 1 y.price z3.price && rightF 1 (prevP L (k3 + 1)) (L.drop (k3 + 1)))) := Lib.hid (by rw [HRF3.out, HST3.out, HOK.out, hpv]; rfl)
              have hS : w7.cell? ⟨gy, 0, none⟩ = some (.int .i64 z3.price) ∧ w7.cell? ⟨gy, 1, none⟩ = some (.int .i64 z3.qty) ∧ w7.cell? ⟨gy, 2, none⟩ = some (.int .i64 z3.count) ∧ w7.cell? ⟨gx, 0, none⟩ = some (.slice (some ⟨gb3, 0, none⟩) L.length e1) ∧ w7.cell? ⟨gb3, j * 3, none⟩ = some (.int .i64 y.price) := ⟨x0, x1, x2, g0, p0⟩
              have HBT := Lib.hid (rbetter_any 1 y.price z3.price w7.drew)
              obtain ⟨bt, hbt⟩ : ∃ bt, betterP 1 y.price z3.price = bt := ⟨_, rfl⟩
              rw [hbt] at HBT HST2
              clear hj hy hpv hk0 x0 x1 x2 g0 p0 hbt HST3 HRF3
              refine wp_region_E (S := fun w7 => w7.cell? ⟨gy, 0, none⟩ = some (.int .i64 z3.price) ∧ w7.cell? ⟨gy, 1, none⟩ = some (.int .i64 z3.qty) ∧ w7.cell? ⟨gy, 2, none⟩ = some (.int .i64 z3.count) ∧ w7.cell? ⟨gx, 0, none⟩ = some (.slice (some ⟨gb3, 0, none⟩) L.length e1) ∧ w7.cell? ⟨gb3, j * 3, none⟩ = some (.int .i64 y.price)) (by kernel_rfl) hS (fun hHeld => ?_)
              refine wpE_tk 0 (oi := ?o25) (v := ?v25) ?h25 (by kernel_rfl) ?q25 ?y25 (by assumption) ?_
              case h25 => (simp only [List.getElem?_toArray]; rfl)
              case q25 => exact fun _ _ _ h => h
              case y25 => exact Or.inl ⟨by rfl, by (intro w hSw; (try dsimp only at hSw); go_simp; try with_reducible rfl)⟩
              try simp only [Act.put, sA, sB, sC]
              refine wpE_tk 1 (oi := ?o26) (v := ?v26) ?h26 (by kernel_rfl) ?q26 ?y26 (by assumption) ?_
              case h26 => (simp only [List.getElem?_toArray]; rfl)
              case q26 => exact fun _ _ _ h => h
              case y26 => exact Or.inl ⟨by rfl, by (intro w hSw; (try dsimp only at hSw); go_simp; try with_reducible rfl)⟩
              try simp only [Act.put, sA, sB, sC]
              refine wpE_tk 2 (oi := ?o27) (v := ?v27) ?h27 (by kernel_rfl) ?q27 ?y27 (by assumption) ?_
              case h27 => (simp only [List.getElem?_toArray]; rfl)
              case q27 => exact fun _ _ _ h => h
              case y27 => exact Or.inl ⟨by rfl, by (intro w hSw; (try dsimp only at hSw); go_simp; try with_reducible rfl)⟩
              try simp only [Act.put, sA, sB, sC]
              refine wpE_tk 3 (oi := ?o28) (v := ?v28) ?h28 (by kernel_rfl) ?q28 ?y28 (by assumption) ?_
              case h28 => (simp only [List.getElem?_toArray]; rfl)
              case q28 => exact fun _ _ _ h => h
              case y28 => exact Or.inl ⟨by rfl, by (intro w hSw; (try dsimp only at hSw); go_simp; try with_reducible rfl)⟩
              try simp only [Act.put, sA, sB, sC]
              refine wpE_tk 4 (oi := ?o29) (v := ?v29) ?h29 (by kernel_rfl) ?q29 ?y29 (by assumption) ?_
              case h29 => (simp only [List.getElem?_toArray]; rfl)
              case q29 => exact fun _ _ _ h => h
              case y29 => exact Or.inl ⟨by rfl, by (intro w hSw; (try dsimp only at hSw); go_simp; try with_reducible rfl)⟩
              try simp only [Act.put, sA, sB, sC]
              refine wpE_tk 5 (oi := ?o30) (v := ?v30) ?h30 (by kernel_rfl) ?q30 ?y30 (by assumption) ?_
              case h30 => (simp only [List.getElem?_toArray]; rfl)
              case q30 => exact fun _ _ _ h => h
              case y30 => exact Or.inl ⟨by rfl, by (intro w hSw; (try dsimp only at hSw); go_simp; try with_reducible rfl)⟩
              try simp only [Act.put, sA, sB, sC]
              refine wpE_tk 6 (oi := ?o31) (v := ?v31) ?h31 (by kernel_rfl) ?q31 ?y31 (by assumption) ?_
              case h31 => (simp only [List.getElem?_toArray]; rfl)
              case q31 => exact fun _ _ _ h => h
              case y31 => exact Or.inl ⟨by rfl, by (intro w hSw; (try dsimp only at hSw); go_simp; try with_reducible rfl)⟩
              try simp only [Act.put, sA, sB, sC]
              refine wpE_tk 7 (oi := ?o32) (v := ?v32) ?h32 (by kernel_rfl) ?q32 ?y32 (by assumption) ?_
              case h32 => (simp only [List.getElem?_toArray]; rfl)
              case q32 => exact fun _ _ _ h => h
              case y32 => exact Or.inl ⟨by rfl, by (intro w hSw; (try dsimp only at hSw); go_simp; try with_reducible rfl)⟩
              try simp only [Act.put, sA, sB, sC]
              refine wpE_tk 8 (oi := ?o33) (v := ?v33) ?h33 (by kernel_rfl) ?q33 ?y33 (by assumption) ?_
              case h33 => (simp only [List.getElem?_toArray]; rfl)
              case q33 => exact fun _ _ _ h => h
              case y33 => exact Or.inl ⟨by rfl, by (intro w hSw; (try dsimp only at hSw); go_simp; try with_reducible rfl)⟩
              try simp only [Act.put, sA, sB, sC]
              refine wpE_tk 9 (oi := ?o34) (v := ?v34) ?h34 (by kernel_rfl) ?q34 ?y34 (by assumption) ?_
              case h34 => (simp only [List.getElem?_toArray]; rfl)
              case q34 => exact fun _ _ _ h => h
              case y34 => exact Or.inl ⟨by rfl, by (intro w hSw; (try dsimp only at hSw); go_simp; try with_reducible rfl)⟩
              try simp only [Act.put, sA, sB, sC]
              refine wpE_tk 10 (oi := ?o35) (v := ?v35) ?h35 (by kernel_rfl) ?q35 ?y35 (by assumption) ?_
              case h35 => (simp only [List.getElem?_toArray]; rfl)
              case q35 => exact fun _ _ _ h => h
              case y35 => exact Or.inl ⟨by rfl, by (intro w hSw; (try dsimp only at hSw); go_simp; try with_reducible rfl)⟩
              try simp only [Act.put, sA, sB, sC]
              refine wpE_tk 11 (oi := ?o36) (v := ?v36) ?h36 (by kernel_rfl) ?q36 ?y36 (by assumption) ?_
              case h36 => (simp only [List.getElem?_toArray]; rfl)
              case q36 => exact fun _ _ _ h => h
              case y36 => exact Or.inl ⟨by rfl, by (intro w hSw; (try dsimp only at hSw); go_simp; try with_reducible rfl)⟩
              try simp only [Act.put, sA, sB, sC]
              refine wpE_tk 12 (oi := ?o37) (v := ?v37) ?h37 (by kernel_rfl) ?q37 ?y37 (by assumption) ?_
              case h37 => (simp only [List.getElem?_toArray]; rfl)
              case q37 => exact fun _ _ _ h => h
              case y37 => exact Or.inl ⟨by rfl, by (intro w hSw; (try dsimp only at hSw); go_simp; try with_reducible rfl)⟩
              try simp only [Act.put, sA, sB, sC]
              refine wpE_tk 13 (oi := ?o38) (v := ?v38) ?h38 (by kernel_rfl) ?q38 ?y38 (by assumption) ?_
              case h38 => (simp only [List.getElem?_toArray]; rfl)
              case q38 => exact fun _ _ _ h => h
              case y38 => exact Or.inl ⟨by rfl, by (intro w hSw; (try dsimp only at hSw); go_simp; try with_reducible rfl)⟩
              try simp only [Act.put, sA, sB, sC]
              refine wpE_tk 14 (oi := ?o39) (v := ?v39) ?h39 (by kernel_rfl) ?q39 ?y39 (by assumption) ?_
              case h39 => (simp only [List.getElem?_toArray]; rfl)
              case q39 => exact fun _ _ _ h => h
              case y39 => exact Or.inl ⟨by rfl, by (intro w hSw; (try dsimp only at hSw); go_simp; try with_reducible rfl)⟩
              try simp only [Act.put, sA, sB, sC]
              refine wpE_tk 15 (oi := ?o40) (v := ?v40) ?h40 (by kernel_rfl) ?q40 ?y40 (by assumption) ?_
              case h40 => (simp only [List.getElem?_toArray]; rfl)
              case q40 => exact fun _ _ _ h => h
              case y40 => exact Or.inl ⟨by rfl, by (intro w hSw; (try dsimp only at hSw); go_simp; try with_reducible rfl)⟩
              try simp only [Act.put, sA, sB, sC]
              refine wpE_tk 16 (oi := ?o41) (v := ?v41) ?h41 (by kernel_rfl) ?q41 ?y41 (by assumption) ?_
              case h41 => (simp only [List.getElem?_toArray]; rfl)
              case q41 => exact fun _ _ _ h => h
              case y41 => exact Or.inl ⟨by rfl, by (intro w hSw; (try dsimp only at hSw); go_simp; try with_reducible rfl)⟩
              try simp only [Act.put, sA, sB, sC]
              refine wpE_tk 17 (oi := ?o42) (v := ?v42) ?h42 (by kernel_rfl) ?q42 ?y42 (by assumption) ?_
              case h42 => (simp only [List.getElem?_toArray]; rfl)
              case q42 => exact fun _ _ _ h => h
              case y42 => exact Or.inl ⟨by rfl, by (intro w hSw; (try dsimp only at hSw); go_simp; try with_reducible rfl)⟩
              try simp only [Act.put, sA, sB, sC]
              refine wpE_tk 18 (oi := ?o43) (v := ?v43) ?h43 (by kernel_rfl) ?q43 ?y43 (by assumption) ?_
              case h43 => (simp only [List.getElem?_toArray]; rfl)
              case q43 => exact fun _ _ _ h => h
              case y43 => exact Or.inl ⟨by rfl, by (intro w hSw; (try dsimp only at hSw); go_simp; try with_reducible rfl)⟩
              try simp only [Act.put, sA, sB, sC]
              refine wpE_tk 19 (oi := ?o44) (v := ?v44) ?h44 (by kernel_rfl) ?q44 ?y44 (by assumption) ?_
              case h44 => (simp only [List.getElem?_toArray]; rfl)
              case q44 => exact fun _ _ _ h => h
              case y44 => exact Or.inl ⟨by rfl, by (intro w hSw; (try dsimp only at hSw); go_simp; try with_reducible rfl)⟩
              try simp only [Act.put, sA, sB, sC]
              refine wpE_tk 20 (oi := ?o45) (v := ?v45) ?h45 (by kernel_rfl) ?q45 ?y45 (by assumption) ?_
              case h45 => (simp only [List.getElem?_toArray]; rfl)
              case q45 => exact fun _ _ _ h => h
              case y45 => exact Or.inl ⟨by rfl, by (intro w hSw; (try dsimp only at hSw); go_simp; try with_reducible rfl)⟩
              try simp only [Act.put, sA, sB, sC]
              refine wpE_tk 21 (oi := ?o46) (v := ?v46) ?h46 (by kernel_rfl) ?q46 ?y46 (by assumption) ?_
              case h46 => (simp only [List.getElem?_toArray]; rfl)
              case q46 => exact fun _ _ _ h => h
              case y46 => exact Or.inl ⟨by rfl, by (intro w hSw; (try dsimp only at hSw); go_simp; try with_reducible rfl)⟩
              try simp only [Act.put, sA, sB, sC]
              refine wpE_one (i := 22) (o := ?o98) ?ho98 (by kernel_rfl) (fun K hK => ?_)
              case ho98 => (simp only [List.getElem?_toArray]; rfl)
              go_simp
              refine HBT.out.mono ?_
              rintro e w8 ⟨rfl, rfl⟩
              refine hK.out _ _ hHeld (fun hHeld => ?_)
              clear hK K
              refine wpE_tk 23 (oi := ?o47) (v := ?v47) ?h47 (by kernel_rfl) ?q47 ?y47 (by assumption) ?_
              case h47 => (simp only [List.getElem?_toArray]; rfl)
              case q47 => exact fun _ _ _ h => h
              case y47 => exact Or.inl ⟨by rfl, by (intro w hSw; (try dsimp only at hSw); go_simp; try with_reducible rfl)⟩
              try simp only [Act.put, sA, sB, sC]
              refine wpE_tk 24 (oi := ?o48) (v := ?v48) ?h48 (by kernel_rfl) ?q48 ?y48 (by assumption) ?_
              case h48 => (simp only [List.getElem?_toArray]; rfl)
              case q48 => exact fun _ _ _ h => h
              case y48 => exact Or.inl ⟨by rfl, by (intro w hSw; (try dsimp only at hSw); go_simp; try with_reducible rfl)⟩
              try simp only [Act.put, sA, sB, sC]
              refine wpE_last (i := 25) (o := ?o102) ?ho102 (by kernel_rfl) (by kernel_rfl) (by kernel_rfl) (fun K hK => ?_)
              case ho102 => (simp only [List.getElem?_toArray]; rfl)
              go_simp
              refine hK.out _ _ ?_
              clear hK K hHeld hS
              have HBQ := Lib.hid (HBZ7.out.trans ((Below.drewN_of w7 1).mono HBZ7.out.size))
              have HBW := Lib.hid (HB7.out.trans ((Below.drewN_of w7 1).mono HB7.out.size))
              cases bt with
              | true =>
               have HN : Hid (rightF 1 none L = rightF 1 (prevP L (k3 + 1)) (L.drop (k3 + 1))) := Lib.hid (by rw [HST2.out, Bool.true_and])
               go_wp2_with fail
               go_roundw
               case rel => exact ⟨k3 + 1, by go_num, hlt3, HN.out, HBQ.out⟩
               case measure => simp [RowKit.intOf]; omega
              | false =>
               have HF : Hid (rightF 1 none L = false) := Lib.hid (by rw [HST2.out, Bool.false_and])
               go_wp2_with fail
               go_ret
               exact ⟨by rw [HBAD.out (HGO.out.trans HF.out)]; try rfl, HBW.out⟩
          ·have hkl : k3 = L.length := by omega
           have HSD : Hid (rightS 1 ⟨L, ⟨0, 0, 0⟩, false⟩ = true) := Lib.hid (by rw [HGO.out, HRF3.out, hkl, List.drop_length]; rfl)
           have HBE := Lib.hid (HB5.out.trans (HBZ3.out.mono HB5.out.size))
           clear hkl HRF3 HGZ3 HRZ3 HBZ3
           go_wp2_with fail
           go_roundw
           case rel => exact ⟨HBE.out, .inr (.inl ⟨by rfl, HSD.out⟩)⟩
           case measure => simp [RowKit.intOf]
        ·have HF : Hid (rv = false) := Lib.hid (HBAD.out (rightS_im (by rw [if_neg (by simp)]; exact decide_eq_false hz)))
         have hz2 : ¬ (p1 = 0 ∧ q1 = 0 ∧ r1 = 0) := fun hh => hz (by rw [hh.1, hh.2.1, hh.2.2]; rfl)
         clear hz
         go_wp2_with fail
         all_goals go_ret
         all_goals exact ⟨by rw [HF.out]; try rfl, HBW.out⟩
      ·have HF : Hid (rv = false) := Lib.hid (HBAD.out (rightS_len hll))
       have hll2 : ¬ ((L.length : Int) ≤ 255) := by omega
       clear hll
       go_wp2_with fail
       go_ret
       exact ⟨by rw [HF.out]; try rfl, HBW.out⟩
     ·obtain ⟨gb, cap, pp, he, _, hcx, hs1, hs2⟩ := HRY.out.get HX.out
      injection he with he1 _ he3
      subst he1
      subst he3
      have HR1S := Lib.hid hr1
      clear hr1
      obtain ⟨⟨a1, n1, e1, ⟨p1, q1, r1⟩, f1⟩, ⟨a2, n2, e2, ⟨p2, q2, r2⟩, f2⟩⟩ := pp
      have HBAD : Hid (rightS 2 d2 = false → rv = false) := Lib.hid (fun hh => by rw [HR1.out, HRF.out, HST.out, show rightP (d1, d2) = false by unfold rightP; rw [show rightS 2 d2 = false from hh, Bool.and_false], Bool.false_and])
      have HSH := Lib.hid hs2
      have x0 : wy.cell? ⟨gb, k * 10 + 5, none⟩ = some (.slice a2 n2 e2) := hcx 5 _ rfl
      have x1 : wy.cell? ⟨gb, k * 10 + 6, none⟩ = some (.int .i64 p2) := hcx 6 _ rfl
      have x2 : wy.cell? ⟨gb, k * 10 + 7, none⟩ = some (.int .i64 q2) := hcx 7 _ rfl
      have x3 : wy.cell? ⟨gb, k * 10 + 8, none⟩ = some (.int .i64 r2) := hcx 8 _ rfl
      have x4 : wy.cell? ⟨gb, k * 10 + 9, none⟩ = some (.bool f2) := hcx 9 _ rfl
      clear hcx hs1 hs2 HRY
      obtain ⟨gx, hgx⟩ : ∃ gx, wy.heap.size = gx := ⟨_, rfl⟩
      go_upto_region 10 with (fail)
      have hb5 := Below.allocN wy (.cells #[.slice a2 n2 e2, .int .i64 p2, .int .i64 q2, .int .i64 r2, .bool f2] 81)
      have hgx5 : Blk (wy.alloc (.cells #[.slice a2 n2 e2, .int .i64 p2, .int .i64 q2, .int .i64 r2, .bool f2] 81)) wy.heap.size 81 #[.slice a2 n2 e2, .int .i64 p2, .int .i64 q2, .int .i64 r2, .bool f2] := Blk.new _ _ _
      rw [hgx] at hgx5
      have HB5 := Lib.hid (HBY.out.trans (hb5.mono HBY.out.size))
      have HS5 := Lib.hid (HSH.out.below hb5)
      have HGX := Lib.hid hgx5
      clear hb5 hgx5 hgx x0 x1 x2 x3 x4 g0 HSH
      generalize wy.alloc (.cells #[.slice a2 n2 e2, .int .i64 p2, .int .i64 q2, .int .i64 r2, .bool f2] 81) = w5 at *
      obtain ⟨h1, h2, h3, h4⟩ := HS5.out
      obtain ⟨L, ⟨ip, iq, ic⟩, hs⟩ := d2
      dsimp only at h1 h2 h3 h4
      injection h3 with t1 t2 t3
      subst h1; subst h4; subst t1; subst t2; subst t3
      have HLL : Hid (L.length ≤ 800000) := Lib.hid HL1.out.2
      have HRW := Lib.hid h2
      clear h2 HS5
      have x0 : w5.cell? ⟨gx, 0, none⟩ = some (.slice a2 L.length e2) := HGX.out.cell 0
      have x1 : w5.cell? ⟨gx, 1, none⟩ = some (.int .i64 p2) := HGX.out.cell 1
      have x2 : w5.cell? ⟨gx, 2, none⟩ = some (.int .i64 q2) := HGX.out.cell 2
      have x3 : w5.cell? ⟨gx, 3, none⟩ = some (.int .i64 r2) := HGX.out.cell 3
      have x4 : w5.cell? ⟨gx, 4, none⟩ = some (.bool f2) := HGX.out.cell 4
      have HBW := Lib.hid (HB.out.trans (HB5.out.mono HB.out.size))
      by_cases hll : L.length ≤ 255
      ·cases f2 with
       | true =>
        by_cases hq : q2 < 1
        ·have HF : Hid (rv = false) := Lib.hid (HBAD.out (rightS_im (by rw [if_pos rfl]; exact decide_eq_false (fun h => by have := h.1; dsimp only at this; omega))))
         go_wp2_with fail
         go_ret
         exact ⟨by rw [HF.out]; try rfl, HBW.out⟩
        ·by_cases hc : r2 < 1
         ·have HF : Hid (rv = false) := Lib.hid (HBAD.out (rightS_im (by rw [if_pos rfl]; exact decide_eq_false (fun h => by have := h.2; dsimp only at this; omega))))
          go_wp2_with fail
          go_ret
          exact ⟨by rw [HF.out]; try rfl, HBW.out⟩
         ·have HGO : Hid (rightS 2 ⟨L, ⟨p2, q2, r2⟩, true⟩ = rightF 2 none L) := Lib.hid (rightS_go hll (by rw [if_pos rfl]; exact decide_eq_true ⟨by dsimp only; omega, by dsimp only; omega⟩))
          go_upto_region 13 with (fail)
          go_loopw [6] (fun i w' => ∃ k3 : Nat, i = .int .i64 k3 ∧ k3 ≤ L.length ∧ rightF 2 none L = rightF 2 (prevP L k3) (L.drop k3) ∧ Below w5.heap.size w5 w') (fun i _ => L.length - (RowKit.intOf i).toNat)
          case atStart => exact ⟨0, rfl, Nat.zero_le _, rfl, Below.refl _ _⟩
          case round =>
           clear x0 x1 x2 x3 x4
           obtain ⟨k3, rfl, hk3, hrf, hb⟩ := hrel
           obtain ⟨w6, rfl⟩ : ∃ wo : World, wo = wr := ⟨_, rfl⟩
           have HBC := Lib.hid (HB.out.trans (HB5.out.mono HB.out.size))
           have HRF3 := Lib.hid hrf
           have HBZ3 := Lib.hid hb
           have HGZ3 := Lib.hid (HGX.out.below hb)
           have HRZ3 := Lib.hid (HRW.out.below hb)
           have hl := HLL.out
           have g0 : w6.cell? ⟨gx, 0, none⟩ = some (.slice a2 L.length e2) := HGZ3.out.cell 0
           clear hrf hb
           by_cases hlt3 : k3 < L.length
           ·have hlt3' : (k3 : Int) < (L.length : Int) := by omega
            obtain ⟨z3, hx⟩ : ∃ z3, L[k3]? = some z3 := ⟨_, List.getElem?_eq_getElem hlt3⟩
            have HST3 := Lib.hid (rightF_step (side := 2) hx)
            obtain ⟨gb3, cap3, he, _, hcx⟩ := HRZ3.out.at_ k3 z3 hx
            injection he with he1 _ he3
            subst he1
            subst he3
            obtain ⟨x0, x1, x2, _⟩ := rlv_at HRZ3.out hx
            have HX3 := Lib.hid hx
            clear hcx hx
            obtain ⟨gy, hgy⟩ : ∃ gy, w6.heap.size = gy := ⟨_, rfl⟩
            go_upto_region 4 with (fail)
            have hb5 : Below w6.heap.size w6 (w6.alloc (.cells #[.int .i64 z3.price, .int .i64 z3.qty, .int .i64 z3.count] 79)) := Below.allocN _ _
            have hgy5 : Blk (w6.alloc (.cells #[.int .i64 z3.price, .int .i64 z3.qty, .int .i64 z3.count] 79)) w6.heap.size 79 #[.int .i64 z3.price, .int .i64 z3.qty, .int .i64 z3.count] := Blk.new _ _ _
            rw [hgy] at hgy5
            have HB7 : Hid (Below w.heap.size w (w6.alloc (.cells #[.int .i64 z3.price, .int .i64 z3.qty, .int .i64 z3.count] 79))) := Lib.hid (HBC.out.trans ((HBZ3.out.trans (hb5.mono HBZ3.out.size)).mono HBC.out.size))
            have HBZ7 := Lib.hid (HBZ3.out.trans (hb5.mono HBZ3.out.size))
            have HG7 := Lib.hid (HGZ3.out.below hb5)
            have HR7 := Lib.hid (HRZ3.out.below hb5)
            have HGY := Lib.hid hgy5
            clear hb5 hgy5 hgy x0 x1 x2 HGZ3 HRZ3 HBZ3
            generalize w6.alloc (.cells #[.int .i64 z3.price, .int .i64 z3.qty, .int .i64 z3.count] 79) = w7 at *
            have x0 : w7.cell? ⟨gy, 0, none⟩ = some (.int .i64 z3.price) := HGY.out.cell 0
            have x1 : w7.cell? ⟨gy, 1, none⟩ = some (.int .i64 z3.qty) := HGY.out.cell 1
            have x2 : w7.cell? ⟨gy, 2, none⟩ = some (.int .i64 z3.count) := HGY.out.cell 2
            have g0 : w7.cell? ⟨gx, 0, none⟩ = some (.slice (some ⟨gb3, 0, none⟩) L.length e2) := HG7.out.cell 0
            by_cases hq : z3.qty < 1
            ·have hqd : decide (z3.qty < 1) = true := decide_eq_true hq
             have HF : Hid (rightF 2 none L = false) := Lib.hid (by rw [HRF3.out, HST3.out, decide_eq_false (by omega : ¬ (1 ≤ z3.qty ∧ 1 ≤ z3.count)), Bool.false_and, Bool.false_and])
             clear hq
             go_quiet (fail)
             have hbq := HB7.out.trans ((Below.drewN_of w7 nq).mono HB7.out.size)
             go_wp2_with fail
             go_ret
             exact ⟨by rw [HBAD.out (HGO.out.trans HF.out)]; try rfl, hbq⟩
            ·have hqd : decide (z3.qty < 1) = false := decide_eq_false hq
             by_cases hc : z3.count < 1
             ·have hcd : decide (z3.count < 1) = true := decide_eq_true hc
              have HF : Hid (rightF 2 none L = false) := Lib.hid (by rw [HRF3.out, HST3.out, decide_eq_false (by omega : ¬ (1 ≤ z3.qty ∧ 1 ≤ z3.count)), Bool.false_and, Bool.false_and])
              clear hq hc
              go_quiet (fail)
              have hbq := HB7.out.trans ((Below.drewN_of w7 nq).mono HB7.out.size)
              go_wp2_with fail
              go_ret
              exact ⟨by rw [HBAD.out (HGO.out.trans HF.out)]; try rfl, hbq⟩
             ·have hcd : decide (z3.count < 1) = false := decide_eq_false hc
              have HOK : Hid (decide (1 ≤ z3.qty ∧ 1 ≤ z3.count) = true) := Lib.hid (decide_eq_true (by omega))
              clear hq hc
              by_cases hk0 : k3 = 0
              ·have hk0' : ¬ (0 : Int) < (k3 : Int) := by omega
               have HN : Hid (rightF 2 none L = rightF 2 (prevP L (k3 + 1)) (L.drop (k3 + 1))) := Lib.hid (by rw [HRF3.out, HST3.out, HOK.out, show prevP L k3 = none from if_pos hk0]; rfl)
               go_quiet (fail)
               have HBQ := Lib.hid (HBZ7.out.trans ((Below.drewN_of w7 nq).mono HBZ7.out.size))
               go_wp2_with fail
               go_roundw
               case rel => exact ⟨k3 + 1, by go_num, hlt3, HN.out, HBQ.out⟩
               case measure => simp [RowKit.intOf]; omega
              ·have hk0' : (0 : Int) < (k3 : Int) := by omega
               have hkd : decide (0 < k3) = true := decide_eq_true (by omega)
               obtain ⟨j, hj⟩ : ∃ j : Nat, k3 = j + 1 := ⟨k3 - 1, by omega⟩
               have y1 : IntKind.i64.wrap (j : Int) = (j : Int) := IntWalk.i64_in _ (by omega)
               have y3 : (0 : Int) ≤ (j : Int) := by omega
               have y2 : (k3 : Int) - 1 = (j : Int) := by omega
               have hjl : (j : Int) < (L.length : Int) := by omega
               obtain ⟨y, hy⟩ : ∃ y, L[j]? = some y := ⟨_, List.getElem?_eq_getElem (by omega)⟩
               obtain ⟨p0, _, _, _⟩ := rlv_at HR7.out hy
               have hpv : prevP L k3 = some y.price := by unfold prevP; rw [if_neg hk0, hj, Nat.add_sub_cancel, hy]; rfl
               have HST2 : Hid (rightF 2 none L = (betterP 2 y.price z3.price && rightF 2 (prevP L (k3 + 1)) (L.drop (k3 + 1)))) := Lib.hid (by rw [HRF3.out, HST3.out, HOK.out, hpv]; rfl)
               have hS : w7.cell? ⟨gy, 0, none⟩ = some (.int .i64 z3.price) ∧ w7.cell? ⟨gy, 1, none⟩ = some (.int .i64 z3.qty) ∧ w7.cell? ⟨gy, 2, none⟩ = some (.int .i64 z3.count) ∧ w7.cell? ⟨gx, 0, none⟩ = some (.slice (some ⟨gb3, 0, none⟩) L.length e2) ∧ w7.cell? ⟨gb3, j * 3, none⟩ = some (.int .i64 y.price) := ⟨x0, x1, x2, g0, p0⟩
               have HBT := Lib.hid (rbetter_any 2 y.price z3.price w7.drew)
               obtain ⟨bt, hbt⟩ : ∃ bt, betterP 2 y.price z3.price = bt := ⟨_, rfl⟩
               rw [hbt] at HBT HST2
               clear hj hy hpv hk0 x0 x1 x2 g0 p0 hbt HST3 HRF3
               refine wp_region_E (S := fun w7 => w7.cell? ⟨gy, 0, none⟩ = some (.int .i64 z3.price) ∧ w7.cell? ⟨gy, 1, none⟩ = some (.int .i64 z3.qty) ∧ w7.cell? ⟨gy, 2, none⟩ = some (.int .i64 z3.count) ∧ w7.cell? ⟨gx, 0, none⟩ = some (.slice (some ⟨gb3, 0, none⟩) L.length e2) ∧ w7.cell? ⟨gb3, j * 3, none⟩ = some (.int .i64 y.price)) (by kernel_rfl) hS (fun hHeld => ?_)
               refine wpE_tk 0 (oi := ?o49) (v := ?v49) ?h49 (by kernel_rfl) ?q49 ?y49 (by assumption) ?_
               case h49 => (simp only [List.getElem?_toArray]; rfl)
               case q49 => exact fun _ _ _ h => h
               case y49 => exact Or.inl ⟨by rfl, by (intro w hSw; (try dsimp only at hSw); go_simp; try with_reducible rfl)⟩
               try simp only [Act.put, sA, sB, sC]
               refine wpE_tk 1 (oi := ?o50) (v := ?v50) ?h50 (by kernel_rfl) ?q50 ?y50 (by assumption) ?_
               case h50 => (simp only [List.getElem?_toArray]; rfl)
               case q50 => exact fun _ _ _ h => h
               case y50 => exact Or.inl ⟨by rfl, by (intro w hSw; (try dsimp only at hSw); go_simp; try with_reducible rfl)⟩
               try simp only [Act.put, sA, sB, sC]
               refine wpE_tk 2 (oi := ?o51) (v := ?v51) ?h51 (by kernel_rfl) ?q51 ?y51 (by assumption) ?_
               case h51 => (simp only [List.getElem?_toArray]; rfl)
               case q51 => exact fun _ _ _ h => h
               case y51 => exact Or.inl ⟨by rfl, by (intro w hSw; (try dsimp only at hSw); go_simp; try with_reducible rfl)⟩
               try simp only [Act.put, sA, sB, sC]
               refine wpE_tk 3 (oi := ?o52) (v := ?v52) ?h52 (by kernel_rfl) ?q52 ?y52 (by assumption) ?_
               case h52 => (simp only [List.getElem?_toArray]; rfl)
               case q52 => exact fun _ _ _ h => h
               case y52 => exact Or.inl ⟨by rfl, by (intro w hSw; (try dsimp only at hSw); go_simp; try with_reducible rfl)⟩
               try simp only [Act.put, sA, sB, sC]
               refine wpE_tk 4 (oi := ?o53) (v := ?v53) ?h53 (by kernel_rfl) ?q53 ?y53 (by assumption) ?_
               case h53 => (simp only [List.getElem?_toArray]; rfl)
               case q53 => exact fun _ _ _ h => h
               case y53 => exact Or.inl ⟨by rfl, by (intro w hSw; (try dsimp only at hSw); go_simp; try with_reducible rfl)⟩
               try simp only [Act.put, sA, sB, sC]
               refine wpE_tk 5 (oi := ?o54) (v := ?v54) ?h54 (by kernel_rfl) ?q54 ?y54 (by assumption) ?_
               case h54 => (simp only [List.getElem?_toArray]; rfl)
               case q54 => exact fun _ _ _ h => h
               case y54 => exact Or.inl ⟨by rfl, by (intro w hSw; (try dsimp only at hSw); go_simp; try with_reducible rfl)⟩
               try simp only [Act.put, sA, sB, sC]
               refine wpE_tk 6 (oi := ?o55) (v := ?v55) ?h55 (by kernel_rfl) ?q55 ?y55 (by assumption) ?_
               case h55 => (simp only [List.getElem?_toArray]; rfl)
               case q55 => exact fun _ _ _ h => h
               case y55 => exact Or.inl ⟨by rfl, by (intro w hSw; (try dsimp only at hSw); go_simp; try with_reducible rfl)⟩
               try simp only [Act.put, sA, sB, sC]
               refine wpE_tk 7 (oi := ?o56) (v := ?v56) ?h56 (by kernel_rfl) ?q56 ?y56 (by assumption) ?_
               case h56 => (simp only [List.getElem?_toArray]; rfl)
               case q56 => exact fun _ _ _ h => h
               case y56 => exact Or.inl ⟨by rfl, by (intro w hSw; (try dsimp only at hSw); go_simp; try with_reducible rfl)⟩
               try simp only [Act.put, sA, sB, sC]
               refine wpE_tk 8 (oi := ?o57) (v := ?v57) ?h57 (by kernel_rfl) ?q57 ?y57 (by assumption) ?_
               case h57 => (simp only [List.getElem?_toArray]; rfl)
               case q57 => exact fun _ _ _ h => h
               case y57 => exact Or.inl ⟨by rfl, by (intro w hSw; (try dsimp only at hSw); go_simp; try with_reducible rfl)⟩
               try simp only [Act.put, sA, sB, sC]
               refine wpE_tk 9 (oi := ?o58) (v := ?v58) ?h58 (by kernel_rfl) ?q58 ?y58 (by assumption) ?_
               case h58 => (simp only [List.getElem?_toArray]; rfl)
               case q58 => exact fun _ _ _ h => h
               case y58 => exact Or.inl ⟨by rfl, by (intro w hSw; (try dsimp only at hSw); go_simp; try with_reducible rfl)⟩
               try simp only [Act.put, sA, sB, sC]
               refine wpE_tk 10 (oi := ?o59) (v := ?v59) ?h59 (by kernel_rfl) ?q59 ?y59 (by assumption) ?_
               case h59 => (simp only [List.getElem?_toArray]; rfl)
               case q59 => exact fun _ _ _ h => h
               case y59 => exact Or.inl ⟨by rfl, by (intro w hSw; (try dsimp only at hSw); go_simp; try with_reducible rfl)⟩
               try simp only [Act.put, sA, sB, sC]
               refine wpE_tk 11 (oi := ?o60) (v := ?v60) ?h60 (by kernel_rfl) ?q60 ?y60 (by assumption) ?_
               case h60 => (simp only [List.getElem?_toArray]; rfl)
               case q60 => exact fun _ _ _ h => h
               case y60 => exact Or.inl ⟨by rfl, by (intro w hSw; (try dsimp only at hSw); go_simp; try with_reducible rfl)⟩
               try simp only [Act.put, sA, sB, sC]
               refine wpE_tk 12 (oi := ?o61) (v := ?v61) ?h61 (by kernel_rfl) ?q61 ?y61 (by assumption) ?_
               case h61 => (simp only [List.getElem?_toArray]; rfl)
               case q61 => exact fun _ _ _ h => h
               case y61 => exact Or.inl ⟨by rfl, by (intro w hSw; (try dsimp only at hSw); go_simp; try with_reducible rfl)⟩
               try simp only [Act.put, sA, sB, sC]
               refine wpE_tk 13 (oi := ?o62) (v := ?v62) ?h62 (by kernel_rfl) ?q62 ?y62 (by assumption) ?_
               case h62 => (simp only [List.getElem?_toArray]; rfl)
               case q62 => exact fun _ _ _ h => h
               case y62 => exact Or.inl ⟨by rfl, by (intro w hSw; (try dsimp only at hSw); go_simp; try with_reducible rfl)⟩
               try simp only [Act.put, sA, sB, sC]
               refine wpE_tk 14 (oi := ?o63) (v := ?v63) ?h63 (by kernel_rfl) ?q63 ?y63 (by assumption) ?_
               case h63 => (simp only [List.getElem?_toArray]; rfl)
               case q63 => exact fun _ _ _ h => h
               case y63 => exact Or.inl ⟨by rfl, by (intro w hSw; (try dsimp only at hSw); go_simp; try with_reducible rfl)⟩
               try simp only [Act.put, sA, sB, sC]
               refine wpE_tk 15 (oi := ?o64) (v := ?v64) ?h64 (by kernel_rfl) ?q64 ?y64 (by assumption) ?_
               case h64 => (simp only [List.getElem?_toArray]; rfl)
               case q64 => exact fun _ _ _ h => h
               case y64 => exact Or.inl ⟨by rfl, by (intro w hSw; (try dsimp only at hSw); go_simp; try with_reducible rfl)⟩
               try simp only [Act.put, sA, sB, sC]
               refine wpE_tk 16 (oi := ?o65) (v := ?v65) ?h65 (by kernel_rfl) ?q65 ?y65 (by assumption) ?_
               case h65 => (simp only [List.getElem?_toArray]; rfl)
               case q65 => exact fun _ _ _ h => h
               case y65 => exact Or.inl ⟨by rfl, by (intro w hSw; (try dsimp only at hSw); go_simp; try with_reducible rfl)⟩
               try simp only [Act.put, sA, sB, sC]
               refine wpE_tk 17 (oi := ?o66) (v := ?v66) ?h66 (by kernel_rfl) ?q66 ?y66 (by assumption) ?_
               case h66 => (simp only [List.getElem?_toArray]; rfl)
               case q66 => exact fun _ _ _ h => h
               case y66 => exact Or.inl ⟨by rfl, by (intro w hSw; (try dsimp only at hSw); go_simp; try with_reducible rfl)⟩
               try simp only [Act.put, sA, sB, sC]
               refine wpE_tk 18 (oi := ?o67) (v := ?v67) ?h67 (by kernel_rfl) ?q67 ?y67 (by assumption) ?_
               case h67 => (simp only [List.getElem?_toArray]; rfl)
               case q67 => exact fun _ _ _ h => h
               case y67 => exact Or.inl ⟨by rfl, by (intro w hSw; (try dsimp only at hSw); go_simp; try with_reducible rfl)⟩
               try simp only [Act.put, sA, sB, sC]
               refine wpE_tk 19 (oi := ?o68) (v := ?v68) ?h68 (by kernel_rfl) ?q68 ?y68 (by assumption) ?_
               case h68 => (simp only [List.getElem?_toArray]; rfl)
               case q68 => exact fun _ _ _ h => h
               case y68 => exact Or.inl ⟨by rfl, by (intro w hSw; (try dsimp only at hSw); go_simp; try with_reducible rfl)⟩
               try simp only [Act.put, sA, sB, sC]
               refine wpE_tk 20 (oi := ?o69) (v := ?v69) ?h69 (by kernel_rfl) ?q69 ?y69 (by assumption) ?_
               case h69 => (simp only [List.getElem?_toArray]; rfl)
               case q69 => exact fun _ _ _ h => h
               case y69 => exact Or.inl ⟨by rfl, by (intro w hSw; (try dsimp only at hSw); go_simp; try with_reducible rfl)⟩
               try simp only [Act.put, sA, sB, sC]
               refine wpE_tk 21 (oi := ?o70) (v := ?v70) ?h70 (by kernel_rfl) ?q70 ?y70 (by assumption) ?_
               case h70 => (simp only [List.getElem?_toArray]; rfl)
               case q70 => exact fun _ _ _ h => h
               case y70 => exact Or.inl ⟨by rfl, by (intro w hSw; (try dsimp only at hSw); go_simp; try with_reducible rfl)⟩
               try simp only [Act.put, sA, sB, sC]
               refine wpE_one (i := 22) (o := ?o99) ?ho99 (by kernel_rfl) (fun K hK => ?_)
               case ho99 => (simp only [List.getElem?_toArray]; rfl)
               go_simp
               refine HBT.out.mono ?_
               rintro e w8 ⟨rfl, rfl⟩
               refine hK.out _ _ hHeld (fun hHeld => ?_)
               clear hK K
               refine wpE_tk 23 (oi := ?o71) (v := ?v71) ?h71 (by kernel_rfl) ?q71 ?y71 (by assumption) ?_
               case h71 => (simp only [List.getElem?_toArray]; rfl)
               case q71 => exact fun _ _ _ h => h
               case y71 => exact Or.inl ⟨by rfl, by (intro w hSw; (try dsimp only at hSw); go_simp; try with_reducible rfl)⟩
               try simp only [Act.put, sA, sB, sC]
               refine wpE_tk 24 (oi := ?o72) (v := ?v72) ?h72 (by kernel_rfl) ?q72 ?y72 (by assumption) ?_
               case h72 => (simp only [List.getElem?_toArray]; rfl)
               case q72 => exact fun _ _ _ h => h
               case y72 => exact Or.inl ⟨by rfl, by (intro w hSw; (try dsimp only at hSw); go_simp; try with_reducible rfl)⟩
               try simp only [Act.put, sA, sB, sC]
               refine wpE_last (i := 25) (o := ?o103) ?ho103 (by kernel_rfl) (by kernel_rfl) (by kernel_rfl) (fun K hK => ?_)
               case ho103 => (simp only [List.getElem?_toArray]; rfl)
               go_simp
               refine hK.out _ _ ?_
               clear hK K hHeld hS
               have HBQ := Lib.hid (HBZ7.out.trans ((Below.drewN_of w7 1).mono HBZ7.out.size))
               have HBW := Lib.hid (HB7.out.trans ((Below.drewN_of w7 1).mono HB7.out.size))
               cases bt with
               | true =>
                have HN : Hid (rightF 2 none L = rightF 2 (prevP L (k3 + 1)) (L.drop (k3 + 1))) := Lib.hid (by rw [HST2.out, Bool.true_and])
                go_wp2_with fail
                go_roundw
                case rel => exact ⟨k3 + 1, by go_num, hlt3, HN.out, HBQ.out⟩
                case measure => simp [RowKit.intOf]; omega
               | false =>
                have HF : Hid (rightF 2 none L = false) := Lib.hid (by rw [HST2.out, Bool.false_and])
                go_wp2_with fail
                go_ret
                exact ⟨by rw [HBAD.out (HGO.out.trans HF.out)]; try rfl, HBW.out⟩
           ·have hkl : k3 = L.length := by omega
            have HSD : Hid (rightS 2 ⟨L, ⟨p2, q2, r2⟩, true⟩ = true) := Lib.hid (by rw [HGO.out, HRF3.out, hkl, List.drop_length]; rfl)
            have HBE := Lib.hid (HB5.out.trans (HBZ3.out.mono HB5.out.size))
            clear hkl HRF3 HGZ3 HRZ3 HBZ3
            go_wp2_with fail
            go_roundw
            case rel => exact ⟨HBE.out, .inr (.inr ⟨by rfl, HR1S.out, HSD.out⟩)⟩
            case measure => simp [RowKit.intOf]
       | false =>
        by_cases hz : (⟨p2, q2, r2⟩ : Lv) = zeroLv
        ·have HGO : Hid (rightS 2 ⟨L, ⟨p2, q2, r2⟩, false⟩ = rightF 2 none L) := Lib.hid (rightS_go hll (by rw [if_neg (by simp)]; exact decide_eq_true hz))
         injection hz with u1 u2 u3
         subst u1; subst u2; subst u3
         go_upto_region 13 with (fail)
         go_loopw [6] (fun i w' => ∃ k3 : Nat, i = .int .i64 k3 ∧ k3 ≤ L.length ∧ rightF 2 none L = rightF 2 (prevP L k3) (L.drop k3) ∧ Below w5.heap.size w5 w') (fun i _ => L.length - (RowKit.intOf i).toNat)
         case atStart => exact ⟨0, rfl, Nat.zero_le _, rfl, Below.refl _ _⟩
         case round =>
          clear x0 x1 x2 x3 x4
          obtain ⟨k3, rfl, hk3, hrf, hb⟩ := hrel
          obtain ⟨w6, rfl⟩ : ∃ wo : World, wo = wr := ⟨_, rfl⟩
          have HBC := Lib.hid (HB.out.trans (HB5.out.mono HB.out.size))
          have HRF3 := Lib.hid hrf
          have HBZ3 := Lib.hid hb
          have HGZ3 := Lib.hid (HGX.out.below hb)
          have HRZ3 := Lib.hid (HRW.out.below hb)
          have hl := HLL.out
          have g0 : w6.cell? ⟨gx, 0, none⟩ = some (.slice a2 L.length e2) := HGZ3.out.cell 0
          clear hrf hb
          by_cases hlt3 : k3 < L.length
          ·have hlt3' : (k3 : Int) < (L.length : Int) := by omega
           obtain ⟨z3, hx⟩ : ∃ z3, L[k3]? = some z3 := ⟨_, List.getElem?_eq_getElem hlt3⟩
           have HST3 := Lib.hid (rightF_step (side := 2) hx)
           obtain ⟨gb3, cap3, he, _, hcx⟩ := HRZ3.out.at_ k3 z3 hx
           injection he with he1 _ he3
           subst he1
           subst he3
           obtain ⟨x0, x1, x2, _⟩ := rlv_at HRZ3.out hx
           have HX3 := Lib.hid hx
           clear hcx hx
           obtain ⟨gy, hgy⟩ : ∃ gy, w6.heap.size = gy := ⟨_, rfl⟩
           go_upto_region 4 with (fail)
           have hb5 : Below w6.heap.size w6 (w6.alloc (.cells #[.int .i64 z3.price, .int .i64 z3.qty, .int .i64 z3.count] 79)) := Below.allocN _ _
           have hgy5 : Blk (w6.alloc (.cells #[.int .i64 z3.price, .int .i64 z3.qty, .int .i64 z3.count] 79)) w6.heap.size 79 #[.int .i64 z3.price, .int .i64 z3.qty, .int .i64 z3.count] := Blk.new _ _ _
           rw [hgy] at hgy5
           have HB7 : Hid (Below w.heap.size w (w6.alloc (.cells #[.int .i64 z3.price, .int .i64 z3.qty, .int .i64 z3.count] 79))) := Lib.hid (HBC.out.trans ((HBZ3.out.trans (hb5.mono HBZ3.out.size)).mono HBC.out.size))
           have HBZ7 := Lib.hid (HBZ3.out.trans (hb5.mono HBZ3.out.size))
           have HG7 := Lib.hid (HGZ3.out.below hb5)
           have HR7 := Lib.hid (HRZ3.out.below hb5)
           have HGY := Lib.hid hgy5
           clear hb5 hgy5 hgy x0 x1 x2 HGZ3 HRZ3 HBZ3
           generalize w6.alloc (.cells #[.int .i64 z3.price, .int .i64 z3.qty, .int .i64 z3.count] 79) = w7 at *
           have x0 : w7.cell? ⟨gy, 0, none⟩ = some (.int .i64 z3.price) := HGY.out.cell 0
           have x1 : w7.cell? ⟨gy, 1, none⟩ = some (.int .i64 z3.qty) := HGY.out.cell 1
           have x2 : w7.cell? ⟨gy, 2, none⟩ = some (.int .i64 z3.count) := HGY.out.cell 2
           have g0 : w7.cell? ⟨gx, 0, none⟩ = some (.slice (some ⟨gb3, 0, none⟩) L.length e2) := HG7.out.cell 0
           by_cases hq : z3.qty < 1
           ·have hqd : decide (z3.qty < 1) = true := decide_eq_true hq
            have HF : Hid (rightF 2 none L = false) := Lib.hid (by rw [HRF3.out, HST3.out, decide_eq_false (by omega : ¬ (1 ≤ z3.qty ∧ 1 ≤ z3.count)), Bool.false_and, Bool.false_and])
            clear hq
            go_quiet (fail)
            have hbq := HB7.out.trans ((Below.drewN_of w7 nq).mono HB7.out.size)
            go_wp2_with fail
            go_ret
            exact ⟨by rw [HBAD.out (HGO.out.trans HF.out)]; try rfl, hbq⟩
           ·have hqd : decide (z3.qty < 1) = false := decide_eq_false hq
            by_cases hc : z3.count < 1
            ·have hcd : decide (z3.count < 1) = true := decide_eq_true hc
             have HF : Hid (rightF 2 none L = false) := Lib.hid (by rw [HRF3.out, HST3.out, decide_eq_false (by omega : ¬ (1 ≤ z3.qty ∧ 1 ≤ z3.count)), Bool.false_and, Bool.false_and])
             clear hq hc
             go_quiet (fail)
             have hbq := HB7.out.trans ((Below.drewN_of w7 nq).mono HB7.out.size)
             go_wp2_with fail
             go_ret
             exact ⟨by rw [HBAD.out (HGO.out.trans HF.out)]; try rfl, hbq⟩
            ·have hcd : decide (z3.count < 1) = false := decide_eq_false hc
             have HOK : Hid (decide (1 ≤ z3.qty ∧ 1 ≤ z3.count) = true) := Lib.hid (decide_eq_true (by omega))
             clear hq hc
             by_cases hk0 : k3 = 0
             ·have hk0' : ¬ (0 : Int) < (k3 : Int) := by omega
              have HN : Hid (rightF 2 none L = rightF 2 (prevP L (k3 + 1)) (L.drop (k3 + 1))) := Lib.hid (by rw [HRF3.out, HST3.out, HOK.out, show prevP L k3 = none from if_pos hk0]; rfl)
              go_quiet (fail)
              have HBQ := Lib.hid (HBZ7.out.trans ((Below.drewN_of w7 nq).mono HBZ7.out.size))
              go_wp2_with fail
              go_roundw
              case rel => exact ⟨k3 + 1, by go_num, hlt3, HN.out, HBQ.out⟩
              case measure => simp [RowKit.intOf]; omega
             ·have hk0' : (0 : Int) < (k3 : Int) := by omega
              have hkd : decide (0 < k3) = true := decide_eq_true (by omega)
              obtain ⟨j, hj⟩ : ∃ j : Nat, k3 = j + 1 := ⟨k3 - 1, by omega⟩
              have y1 : IntKind.i64.wrap (j : Int) = (j : Int) := IntWalk.i64_in _ (by omega)
              have y3 : (0 : Int) ≤ (j : Int) := by omega
              have y2 : (k3 : Int) - 1 = (j : Int) := by omega
              have hjl : (j : Int) < (L.length : Int) := by omega
              obtain ⟨y, hy⟩ : ∃ y, L[j]? = some y := ⟨_, List.getElem?_eq_getElem (by omega)⟩
              obtain ⟨p0, _, _, _⟩ := rlv_at HR7.out hy
              have hpv : prevP L k3 = some y.price := by unfold prevP; rw [if_neg hk0, hj, Nat.add_sub_cancel, hy]; rfl
              have HST2 : Hid (rightF 2 none L = (betterP 2 y.price z3.price && rightF 2 (prevP L (k3 + 1)) (L.drop (k3 + 1)))) := Lib.hid (by rw [HRF3.out, HST3.out, HOK.out, hpv]; rfl)
              have hS : w7.cell? ⟨gy, 0, none⟩ = some (.int .i64 z3.price) ∧ w7.cell? ⟨gy, 1, none⟩ = some (.int .i64 z3.qty) ∧ w7.cell? ⟨gy, 2, none⟩ = some (.int .i64 z3.count) ∧ w7.cell? ⟨gx, 0, none⟩ = some (.slice (some ⟨gb3, 0, none⟩) L.length e2) ∧ w7.cell? ⟨gb3, j * 3, none⟩ = some (.int .i64 y.price) := ⟨x0, x1, x2, g0, p0⟩
              have HBT := Lib.hid (rbetter_any 2 y.price z3.price w7.drew)
              obtain ⟨bt, hbt⟩ : ∃ bt, betterP 2 y.price z3.price = bt := ⟨_, rfl⟩
              rw [hbt] at HBT HST2
              clear hj hy hpv hk0 x0 x1 x2 g0 p0 hbt HST3 HRF3
              refine wp_region_E (S := fun w7 => w7.cell? ⟨gy, 0, none⟩ = some (.int .i64 z3.price) ∧ w7.cell? ⟨gy, 1, none⟩ = some (.int .i64 z3.qty) ∧ w7.cell? ⟨gy, 2, none⟩ = some (.int .i64 z3.count) ∧ w7.cell? ⟨gx, 0, none⟩ = some (.slice (some ⟨gb3, 0, none⟩) L.length e2) ∧ w7.cell? ⟨gb3, j * 3, none⟩ = some (.int .i64 y.price)) (by kernel_rfl) hS (fun hHeld => ?_)
              refine wpE_tk 0 (oi := ?o73) (v := ?v73) ?h73 (by kernel_rfl) ?q73 ?y73 (by assumption) ?_
              case h73 => (simp only [List.getElem?_toArray]; rfl)
              case q73 => exact fun _ _ _ h => h
              case y73 => exact Or.inl ⟨by rfl, by (intro w hSw; (try dsimp only at hSw); go_simp; try with_reducible rfl)⟩
              try simp only [Act.put, sA, sB, sC]
              refine wpE_tk 1 (oi := ?o74) (v := ?v74) ?h74 (by kernel_rfl) ?q74 ?y74 (by assumption) ?_
              case h74 => (simp only [List.getElem?_toArray]; rfl)
              case q74 => exact fun _ _ _ h => h
              case y74 => exact Or.inl ⟨by rfl, by (intro w hSw; (try dsimp only at hSw); go_simp; try with_reducible rfl)⟩
              try simp only [Act.put, sA, sB, sC]
              refine wpE_tk 2 (oi := ?o75) (v := ?v75) ?h75 (by kernel_rfl) ?q75 ?y75 (by assumption) ?_
              case h75 => (simp only [List.getElem?_toArray]; rfl)
              case q75 => exact fun _ _ _ h => h
              case y75 => exact Or.inl ⟨by rfl, by (intro w hSw; (try dsimp only at hSw); go_simp; try with_reducible rfl)⟩
              try simp only [Act.put, sA, sB, sC]
              refine wpE_tk 3 (oi := ?o76) (v := ?v76) ?h76 (by kernel_rfl) ?q76 ?y76 (by assumption) ?_
              case h76 => (simp only [List.getElem?_toArray]; rfl)
              case q76 => exact fun _ _ _ h => h
              case y76 => exact Or.inl ⟨by rfl, by (intro w hSw; (try dsimp only at hSw); go_simp; try with_reducible rfl)⟩
              try simp only [Act.put, sA, sB, sC]
              refine wpE_tk 4 (oi := ?o77) (v := ?v77) ?h77 (by kernel_rfl) ?q77 ?y77 (by assumption) ?_
              case h77 => (simp only [List.getElem?_toArray]; rfl)
              case q77 => exact fun _ _ _ h => h
              case y77 => exact Or.inl ⟨by rfl, by (intro w hSw; (try dsimp only at hSw); go_simp; try with_reducible rfl)⟩
              try simp only [Act.put, sA, sB, sC]
              refine wpE_tk 5 (oi := ?o78) (v := ?v78) ?h78 (by kernel_rfl) ?q78 ?y78 (by assumption) ?_
              case h78 => (simp only [List.getElem?_toArray]; rfl)
              case q78 => exact fun _ _ _ h => h
              case y78 => exact Or.inl ⟨by rfl, by (intro w hSw; (try dsimp only at hSw); go_simp; try with_reducible rfl)⟩
              try simp only [Act.put, sA, sB, sC]
              refine wpE_tk 6 (oi := ?o79) (v := ?v79) ?h79 (by kernel_rfl) ?q79 ?y79 (by assumption) ?_
              case h79 => (simp only [List.getElem?_toArray]; rfl)
              case q79 => exact fun _ _ _ h => h
              case y79 => exact Or.inl ⟨by rfl, by (intro w hSw; (try dsimp only at hSw); go_simp; try with_reducible rfl)⟩
              try simp only [Act.put, sA, sB, sC]
              refine wpE_tk 7 (oi := ?o80) (v := ?v80) ?h80 (by kernel_rfl) ?q80 ?y80 (by assumption) ?_
              case h80 => (simp only [List.getElem?_toArray]; rfl)
              case q80 => exact fun _ _ _ h => h
              case y80 => exact Or.inl ⟨by rfl, by (intro w hSw; (try dsimp only at hSw); go_simp; try with_reducible rfl)⟩
              try simp only [Act.put, sA, sB, sC]
              refine wpE_tk 8 (oi := ?o81) (v := ?v81) ?h81 (by kernel_rfl) ?q81 ?y81 (by assumption) ?_
              case h81 => (simp only [List.getElem?_toArray]; rfl)
              case q81 => exact fun _ _ _ h => h
              case y81 => exact Or.inl ⟨by rfl, by (intro w hSw; (try dsimp only at hSw); go_simp; try with_reducible rfl)⟩
              try simp only [Act.put, sA, sB, sC]
              refine wpE_tk 9 (oi := ?o82) (v := ?v82) ?h82 (by kernel_rfl) ?q82 ?y82 (by assumption) ?_
              case h82 => (simp only [List.getElem?_toArray]; rfl)
              case q82 => exact fun _ _ _ h => h
              case y82 => exact Or.inl ⟨by rfl, by (intro w hSw; (try dsimp only at hSw); go_simp; try with_reducible rfl)⟩
              try simp only [Act.put, sA, sB, sC]
              refine wpE_tk 10 (oi := ?o83) (v := ?v83) ?h83 (by kernel_rfl) ?q83 ?y83 (by assumption) ?_
              case h83 => (simp only [List.getElem?_toArray]; rfl)
              case q83 => exact fun _ _ _ h => h
              case y83 => exact Or.inl ⟨by rfl, by (intro w hSw; (try dsimp only at hSw); go_simp; try with_reducible rfl)⟩
              try simp only [Act.put, sA, sB, sC]
              refine wpE_tk 11 (oi := ?o84) (v := ?v84) ?h84 (by kernel_rfl) ?q84 ?y84 (by assumption) ?_
              case h84 => (simp only [List.getElem?_toArray]; rfl)
              case q84 => exact fun _ _ _ h => h
              case y84 => exact Or.inl ⟨by rfl, by (intro w hSw; (try dsimp only at hSw); go_simp; try with_reducible rfl)⟩
              try simp only [Act.put, sA, sB, sC]
              refine wpE_tk 12 (oi := ?o85) (v := ?v85) ?h85 (by kernel_rfl) ?q85 ?y85 (by assumption) ?_
              case h85 => (simp only [List.getElem?_toArray]; rfl)
              case q85 => exact fun _ _ _ h => h
              case y85 => exact Or.inl ⟨by rfl, by (intro w hSw; (try dsimp only at hSw); go_simp; try with_reducible rfl)⟩
              try simp only [Act.put, sA, sB, sC]
              refine wpE_tk 13 (oi := ?o86) (v := ?v86) ?h86 (by kernel_rfl) ?q86 ?y86 (by assumption) ?_
              case h86 => (simp only [List.getElem?_toArray]; rfl)
              case q86 => exact fun _ _ _ h => h
              case y86 => exact Or.inl ⟨by rfl, by (intro w hSw; (try dsimp only at hSw); go_simp; try with_reducible rfl)⟩
              try simp only [Act.put, sA, sB, sC]
              refine wpE_tk 14 (oi := ?o87) (v := ?v87) ?h87 (by kernel_rfl) ?q87 ?y87 (by assumption) ?_
              case h87 => (simp only [List.getElem?_toArray]; rfl)
              case q87 => exact fun _ _ _ h => h
              case y87 => exact Or.inl ⟨by rfl, by (intro w hSw; (try dsimp only at hSw); go_simp; try with_reducible rfl)⟩
              try simp only [Act.put, sA, sB, sC]
              refine wpE_tk 15 (oi := ?o88) (v := ?v88) ?h88 (by kernel_rfl) ?q88 ?y88 (by assumption) ?_
              case h88 => (simp only [List.getElem?_toArray]; rfl)
              case q88 => exact fun _ _ _ h => h
              case y88 => exact Or.inl ⟨by rfl, by (intro w hSw; (try dsimp only at hSw); go_simp; try with_reducible rfl)⟩
              try simp only [Act.put, sA, sB, sC]
              refine wpE_tk 16 (oi := ?o89) (v := ?v89) ?h89 (by kernel_rfl) ?q89 ?y89 (by assumption) ?_
              case h89 => (simp only [List.getElem?_toArray]; rfl)
              case q89 => exact fun _ _ _ h => h
              case y89 => exact Or.inl ⟨by rfl, by (intro w hSw; (try dsimp only at hSw); go_simp; try with_reducible rfl)⟩
              try simp only [Act.put, sA, sB, sC]
              refine wpE_tk 17 (oi := ?o90) (v := ?v90) ?h90 (by kernel_rfl) ?q90 ?y90 (by assumption) ?_
              case h90 => (simp only [List.getElem?_toArray]; rfl)
              case q90 => exact fun _ _ _ h => h
              case y90 => exact Or.inl ⟨by rfl, by (intro w hSw; (try dsimp only at hSw); go_simp; try with_reducible rfl)⟩
              try simp only [Act.put, sA, sB, sC]
              refine wpE_tk 18 (oi := ?o91) (v := ?v91) ?h91 (by kernel_rfl) ?q91 ?y91 (by assumption) ?_
              case h91 => (simp only [List.getElem?_toArray]; rfl)
              case q91 => exact fun _ _ _ h => h
              case y91 => exact Or.inl ⟨by rfl, by (intro w hSw; (try dsimp only at hSw); go_simp; try with_reducible rfl)⟩
              try simp only [Act.put, sA, sB, sC]
              refine wpE_tk 19 (oi := ?o92) (v := ?v92) ?h92 (by kernel_rfl) ?q92 ?y92 (by assumption) ?_
              case h92 => (simp only [List.getElem?_toArray]; rfl)
              case q92 => exact fun _ _ _ h => h
              case y92 => exact Or.inl ⟨by rfl, by (intro w hSw; (try dsimp only at hSw); go_simp; try with_reducible rfl)⟩
              try simp only [Act.put, sA, sB, sC]
              refine wpE_tk 20 (oi := ?o93) (v := ?v93) ?h93 (by kernel_rfl) ?q93 ?y93 (by assumption) ?_
              case h93 => (simp only [List.getElem?_toArray]; rfl)
              case q93 => exact fun _ _ _ h => h
              case y93 => exact Or.inl ⟨by rfl, by (intro w hSw; (try dsimp only at hSw); go_simp; try with_reducible rfl)⟩
              try simp only [Act.put, sA, sB, sC]
              refine wpE_tk 21 (oi := ?o94) (v := ?v94) ?h94 (by kernel_rfl) ?q94 ?y94 (by assumption) ?_
              case h94 => (simp only [List.getElem?_toArray]; rfl)
              case q94 => exact fun _ _ _ h => h
              case y94 => exact Or.inl ⟨by rfl, by (intro w hSw; (try dsimp only at hSw); go_simp; try with_reducible rfl)⟩
              try simp only [Act.put, sA, sB, sC]
              refine wpE_one (i := 22) (o := ?o100) ?ho100 (by kernel_rfl) (fun K hK => ?_)
              case ho100 => (simp only [List.getElem?_toArray]; rfl)
              go_simp
              refine HBT.out.mono ?_
              rintro e w8 ⟨rfl, rfl⟩
              refine hK.out _ _ hHeld (fun hHeld => ?_)
              clear hK K
              refine wpE_tk 23 (oi := ?o95) (v := ?v95) ?h95 (by kernel_rfl) ?q95 ?y95 (by assumption) ?_
              case h95 => (simp only [List.getElem?_toArray]; rfl)
              case q95 => exact fun _ _ _ h => h
              case y95 => exact Or.inl ⟨by rfl, by (intro w hSw; (try dsimp only at hSw); go_simp; try with_reducible rfl)⟩
              try simp only [Act.put, sA, sB, sC]
              refine wpE_tk 24 (oi := ?o96) (v := ?v96) ?h96 (by kernel_rfl) ?q96 ?y96 (by assumption) ?_
              case h96 => (simp only [List.getElem?_toArray]; rfl)
              case q96 => exact fun _ _ _ h => h
              case y96 => exact Or.inl ⟨by rfl, by (intro w hSw; (try dsimp only at hSw); go_simp; try with_reducible rfl)⟩
              try simp only [Act.put, sA, sB, sC]
              refine wpE_last (i := 25) (o := ?o104) ?ho104 (by kernel_rfl) (by kernel_rfl) (by kernel_rfl) (fun K hK => ?_)
              case ho104 => (simp only [List.getElem?_toArray]; rfl)
              go_simp
              refine hK.out _ _ ?_
              clear hK K hHeld hS
              have HBQ := Lib.hid (HBZ7.out.trans ((Below.drewN_of w7 1).mono HBZ7.out.size))
              have HBW := Lib.hid (HB7.out.trans ((Below.drewN_of w7 1).mono HB7.out.size))
              cases bt with
              | true =>
               have HN : Hid (rightF 2 none L = rightF 2 (prevP L (k3 + 1)) (L.drop (k3 + 1))) := Lib.hid (by rw [HST2.out, Bool.true_and])
               go_wp2_with fail
               go_roundw
               case rel => exact ⟨k3 + 1, by go_num, hlt3, HN.out, HBQ.out⟩
               case measure => simp [RowKit.intOf]; omega
              | false =>
               have HF : Hid (rightF 2 none L = false) := Lib.hid (by rw [HST2.out, Bool.false_and])
               go_wp2_with fail
               go_ret
               exact ⟨by rw [HBAD.out (HGO.out.trans HF.out)]; try rfl, HBW.out⟩
          ·have hkl : k3 = L.length := by omega
           have HSD : Hid (rightS 2 ⟨L, ⟨0, 0, 0⟩, false⟩ = true) := Lib.hid (by rw [HGO.out, HRF3.out, hkl, List.drop_length]; rfl)
           have HBE := Lib.hid (HB5.out.trans (HBZ3.out.mono HB5.out.size))
           clear hkl HRF3 HGZ3 HRZ3 HBZ3
           go_wp2_with fail
           go_roundw
           case rel => exact ⟨HBE.out, .inr (.inr ⟨by rfl, HR1S.out, HSD.out⟩)⟩
           case measure => simp [RowKit.intOf]
        ·have HF : Hid (rv = false) := Lib.hid (HBAD.out (rightS_im (by rw [if_neg (by simp)]; exact decide_eq_false hz)))
         have hz2 : ¬ (p2 = 0 ∧ q2 = 0 ∧ r2 = 0) := fun hh => hz (by rw [hh.1, hh.2.1, hh.2.2]; rfl)
         clear hz
         go_wp2_with fail
         all_goals go_ret
         all_goals exact ⟨by rw [HF.out]; try rfl, HBW.out⟩
      ·have HF : Hid (rv = false) := Lib.hid (HBAD.out (rightS_len hll))
       have hll2 : ¬ ((L.length : Int) ≤ 255) := by omega
       clear hll
       go_wp2_with fail
       go_ret
       exact ⟨by rw [HF.out]; try rfl, HBW.out⟩
     ·have HN : Hid (V.all rightP = (V.drop (k + 1)).all rightP) := Lib.hid (by rw [HRF.out, HST.out, show rightP (d1, d2) = true by unfold rightP; rw [hr1, hr2]; rfl, Bool.true_and])
      clear hr1 hr2
      go_wp2_with fail
      go_roundw
      case rel => exact ⟨k + 1, by go_num, hlt, HN.out, HBY.out⟩
      case measure => simp [RowKit.intOf]; omega
   ·have hkl : k = V.length := by omega
    have HTR : Hid (rv = true) := Lib.hid (by rw [HR1.out, HRF.out, hkl, List.drop_length]; rfl)
    have HBF := Lib.hid (HB.out.trans (HBZ.out.mono HB.out.size))
    clear hkl HRF HBZ
    go_wp2_with fail
    go_ret
    exact ⟨by rw [HTR.out]; try rfl, HBF.out⟩
 ·have hvd : ¬ ((V.length : Int) ≤ 255) := by omega
  have HR1 : Hid (rv = false) := Lib.hid (by rw [HRV.out, decide_eq_false hv, Bool.and_false])
  clear HRV hv
  go_wp2_with fail
  go_ret
  exact ⟨by rw [HR1.out]; try rfl, HB.out⟩
end Go.Proofs.Ytmaijkoopjocdaa
