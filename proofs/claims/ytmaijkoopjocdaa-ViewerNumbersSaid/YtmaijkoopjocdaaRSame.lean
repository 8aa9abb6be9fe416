/- The walk of cornhillref19.Same on two views that are alike. -/
import Derived.Test.YtmaijkoopjocdaaGQ
import Derived.Test.YtmaijkoopjocdaaRRight
import Derived.Test.YtmaijkoopjocdaaGA
import Derived.Deep.DeepCutAuto
namespace Go.Proofs.Ytmaijkoopjocdaa
open Go.RowKit Go.Lib

theorem two_new (w : World) (t1 t2 : TypeId) (c1 c2 : Array Value) : Blk ((w.alloc (.cells c1 t1)).alloc (.cells c2 t2)) w.heap.size t1 c1 ∧ Blk ((w.alloc (.cells c1 t1)).alloc (.cells c2 t2)) (w.heap.size + 1) t2 c2 ∧ Below w.heap.size w ((w.alloc (.cells c1 t1)).alloc (.cells c2 t2)) := by
 have s1 : ∀ (w : World) (o : Obj), (w.alloc o).heap.size = w.heap.size + 1 := fun w o => by simp
 refine ⟨(Blk.new _ _ _).alloc _, ?_, (Below.allocN _ _).alloc (by rw [s1]; omega) _⟩
 have := Blk.new (w.alloc (.cells c1 t1)) t2 c2
 rw [s1] at this
 exact this
section
variable {w : World}
set_option maxRecDepth 20000 in
set_option maxHeartbeats 32000000 in
theorem rsame_any {B1 B2 : Nat} {a b : Option Addr} {c d : Nat} {V : Vw} (ha : VO RPR RLV w B1 (.slice a V.length c) V) (hb : VO RPR RLV w B2 (.slice b V.length d) V) (hl : V.length ≤ 255) (hK : LenV V 800000) :
  Calls Try.prog 34 #[.agg #[.slice a V.length c], .agg #[.slice b V.length d]] w fun e w' => e = .returned (.bool true) ∧ Below w.heap.size w w' := by
 have hn := two_new w 44 44 #[.slice a V.length c] #[.slice b V.length d]
 have HGA := Lib.hid hn.1
 have HGB := Lib.hid hn.2.1
 have HB := Lib.hid hn.2.2
 have HA := Lib.hid (ha.below HB.out)
 have HBV := Lib.hid (hb.below HB.out)
 have HK := Lib.hid hK
 have s1 : ∀ (w : World) (o : Obj), (w.alloc o).heap.size = w.heap.size + 1 := fun w o => by simp
 have HS1 := Lib.hid s1
 clear hn ha hb hK s1
 go_enter Try.func34, Try.ntmps34
 go_upto_region 1 with (fail)
 obtain ⟨gb, hgb⟩ : ∃ g, w.heap.size + 1 = g := ⟨_, rfl⟩
 rw [hgb] at HGB ⊢
 obtain ⟨ga, hga⟩ : ∃ g, w.heap.size = g := ⟨_, rfl⟩
 have HGA2 : Hid (Blk _ ga 44 #[.slice a V.length c]) := Lib.hid (by have := HGA.out; rwa [hga] at this)
 rw [show (Value.pointer (some ⟨w.heap.size, 0, none⟩)) = .pointer (some ⟨ga, 0, none⟩) by rw [hga]]
 clear hga hgb HGA
 generalize (w.alloc (.cells #[.slice a V.length c] 44)).alloc (.cells #[.slice b V.length d] 44) = w1 at *
 have c0 : w1.cell? ⟨ga, 0, none⟩ = some (.slice a V.length c) := HGA2.out.cell 0
 have c1 : w1.cell? ⟨gb, 0, none⟩ = some (.slice b V.length d) := HGB.out.cell 0
 go_wp2_with fail
 go_loopw [5] (fun i w' => ∃ k : Nat, i = .int .i64 k ∧ k ≤ V.length ∧ Below w1.heap.size w1 w') (fun i _ => V.length - (RowKit.intOf i).toNat)
 case atStart => exact ⟨0, rfl, Nat.zero_le _, Below.refl _ _⟩
 case round =>
  clear c0 c1
  obtain ⟨k, rfl, hk, hbz⟩ := hrel
  obtain ⟨wz, rfl⟩ : ∃ wo : World, wo = wr := ⟨_, rfl⟩
  have HBZ := Lib.hid hbz
  have c0 : wz.cell? ⟨ga, 0, none⟩ = some (.slice a V.length c) := (HGA2.out.below hbz).cell 0
  clear hbz
  by_cases hlt : k < V.length
  ·have hlt' : (k : Int) < (V.length : Int) := by omega
   obtain ⟨xx, hx⟩ : ∃ x, V[k]? = some x := ⟨_, List.getElem?_eq_getElem hlt⟩
   obtain ⟨d1, d2⟩ := xx
   have HX := Lib.hid hx
   have HL1 := Lib.hid (HK.out (d1, d2) (List.mem_of_getElem? hx))
   clear hx
   go_wp2_with fail
   go_loopw [6] (fun i w' => ∃ j : Nat, i = .int .i64 j ∧ (j = 0 ∨ j = 1 ∨ j = 2) ∧ Below w1.heap.size w1 w') (fun i _ => 2 - (RowKit.intOf i).toNat)
   case atStart => exact ⟨0, rfl, .inl rfl, HBZ.out⟩
   case round =>
    clear c0
    obtain ⟨j, rfl, hj, hby⟩ := hrel
    obtain ⟨wy, rfl⟩ : ∃ wo : World, wo = wr := ⟨_, rfl⟩
    have HBY := Lib.hid hby
    clear hby HBZ
    rcases hj with rfl | rfl | rfl
    ·obtain ⟨g1, cap1, pp1, he, hg1, hcx, hq1, hq2⟩ := (HA.out.below HBY.out).get HX.out
     injection he with he1 _ he3
     subst he1
     subst he3
     obtain ⟨g2, cap2, pp2, he, hg2, hcy, hq3, hq4⟩ := (HBV.out.below HBY.out).get HX.out
     injection he with he1 _ he3
     subst he1
     subst he3
     obtain ⟨⟨a1, n1, e1, ⟨p1, q1, r1⟩, f1⟩, ⟨b1, m1, h1, ⟨t1, u1, v1⟩, x1⟩⟩ := pp1
     obtain ⟨⟨a2, n2, e2, ⟨p2, q2, r2⟩, f2⟩, ⟨b2, m2, h2, ⟨t2, u2, v2⟩, x2⟩⟩ := pp2
     have HSHA := hq1
     have HSHB := hq3
     obtain ⟨y1, hrw1, y3, y4⟩ := HSHA
     obtain ⟨z1, hrw2, z3, z4⟩ := HSHB
     obtain ⟨L, ⟨ip, iq, ic⟩, hh⟩ := d1
     dsimp only at y1 hrw1 y3 y4 z1 hrw2 z3 z4
     injection y3 with t1' t2' t3'
     injection z3 with t4' t5' t6'
     subst y1; subst y4; subst t1'; subst t2'; subst t3'; subst z1; subst t4'; subst t5'; subst t6'; subst z4
     have HKL : Hid (L.length ≤ 800000) := Lib.hid HL1.out.1
     have HRW1 := Lib.hid hrw1
     have HRW2 := Lib.hid hrw2
     have HS : Hid (∀ wx, Below wy.heap.size wy wx → (fun w' => w'.cell? ⟨ga, 0, none⟩ = some (.slice (some ⟨g1, 0, none⟩) V.length c) ∧ w'.cell? ⟨gb, 0, none⟩ = some (.slice (some ⟨g2, 0, none⟩) V.length d) ∧ w'.cell? ⟨g1, k * 10, none⟩ = some (.slice a1 L.length e1) ∧ w'.cell? ⟨g1, k * 10 + 1, none⟩ = some (.int .i64 p2) ∧ w'.cell? ⟨g1, k * 10 + 2, none⟩ = some (.int .i64 q2) ∧ w'.cell? ⟨g1, k * 10 + 3, none⟩ = some (.int .i64 r2) ∧ w'.cell? ⟨g1, k * 10 + 4, none⟩ = some (.bool f2) ∧ w'.cell? ⟨g2, k * 10, none⟩ = some (.slice a2 L.length e2) ∧ w'.cell? ⟨g2, k * 10 + 1, none⟩ = some (.int .i64 p2) ∧ w'.cell? ⟨g2, k * 10 + 2, none⟩ = some (.int .i64 q2) ∧ w'.cell? ⟨g2, k * 10 + 3, none⟩ = some (.int .i64 r2) ∧ w'.cell? ⟨g2, k * 10 + 4, none⟩ = some (.bool f2)) wx) := Lib.hid fun wx hb => by
      have hb1 := HBY.out.trans (hb.mono HBY.out.size)
      have e : ∀ (g o : Nat), g < wy.heap.size → wx.cell? ⟨g, o, none⟩ = wy.cell? ⟨g, o, none⟩ := fun g o hg => hb.cell (p := ⟨g, o, none⟩) hg
      exact ⟨(HGA2.out.below hb1).cell 0, (HGB.out.below hb1).cell 0, (e g1 _ hg1).trans (hcx 0 _ rfl), (e g1 _ hg1).trans (hcx 1 _ rfl), (e g1 _ hg1).trans (hcx 2 _ rfl), (e g1 _ hg1).trans (hcx 3 _ rfl), (e g1 _ hg1).trans (hcx 4 _ rfl), (e g2 _ hg2).trans (hcy 0 _ rfl), (e g2 _ hg2).trans (hcy 1 _ rfl), (e g2 _ hg2).trans (hcy 2 _ rfl), (e g2 _ hg2).trans (hcy 3 _ rfl), (e g2 _ hg2).trans (hcy 4 _ rfl)⟩
     clear hcx hcy hrw1 hrw2 hq1 hq2 hq3 hq4
     go_upto_region 9 with (fail)
     go_cut [7, 8] (fun u7 u8 wx => ∃ gx gy, u7 = .pointer (some ⟨gx, 0, none⟩) ∧ u8 = .pointer (some ⟨gy, 0, none⟩) ∧ Blk wx gx 81 #[.slice a1 L.length e1, .int .i64 p2, .int .i64 q2, .int .i64 r2, .bool f2] ∧ Blk wx gy 81 #[.slice a2 L.length e2, .int .i64 p2, .int .i64 q2, .int .i64 r2, .bool f2] ∧ Below wy.heap.size wy wx)
     case first =>
      refine wp_region_E (S := fun w' => w'.cell? ⟨ga, 0, none⟩ = some (.slice (some ⟨g1, 0, none⟩) V.length c) ∧ w'.cell? ⟨gb, 0, none⟩ = some (.slice (some ⟨g2, 0, none⟩) V.length d) ∧ w'.cell? ⟨g1, k * 10, none⟩ = some (.slice a1 L.length e1) ∧ w'.cell? ⟨g1, k * 10 + 1, none⟩ = some (.int .i64 p2) ∧ w'.cell? ⟨g1, k * 10 + 2, none⟩ = some (.int .i64 q2) ∧ w'.cell? ⟨g1, k * 10 + 3, none⟩ = some (.int .i64 r2) ∧ w'.cell? ⟨g1, k * 10 + 4, none⟩ = some (.bool f2) ∧ w'.cell? ⟨g2, k * 10, none⟩ = some (.slice a2 L.length e2) ∧ w'.cell? ⟨g2, k * 10 + 1, none⟩ = some (.int .i64 p2) ∧ w'.cell? ⟨g2, k * 10 + 2, none⟩ = some (.int .i64 q2) ∧ w'.cell? ⟨g2, k * 10 + 3, none⟩ = some (.int .i64 r2) ∧ w'.cell? ⟨g2, k * 10 + 4, none⟩ = some (.bool f2)) (by kernel_rfl) (HS.out _ (Below.refl _ _).drew) (fun hHeld => ?_)
      refine wpE_tk 0 (oi := ?o3) (v := ?v3) ?h3 (by kernel_rfl) ?q3 ?y3 (by assumption) ?_
      case h3 => (simp only [List.getElem?_toArray]; rfl)
      case q3 => exact fun _ _ _ h => h
      case y3 => exact Or.inl ⟨by rfl, by (intro w hSw; (try dsimp only at hSw); go_simp; try with_reducible rfl)⟩
      try simp only [Act.put, sA, sB, sC]
      refine wpE_tk 1 (oi := ?o4) (v := ?v4) ?h4 (by kernel_rfl) ?q4 ?y4 (by assumption) ?_
      case h4 => (simp only [List.getElem?_toArray]; rfl)
      case q4 => exact fun _ _ _ h => h
      case y4 => exact Or.inl ⟨by rfl, by (intro w hSw; (try dsimp only at hSw); go_simp; try with_reducible rfl)⟩
      try simp only [Act.put, sA, sB, sC]
      refine wpE_tk 2 (oi := ?o5) (v := ?v5) ?h5 (by kernel_rfl) ?q5 ?y5 (by assumption) ?_
      case h5 => (simp only [List.getElem?_toArray]; rfl)
      case q5 => exact fun _ _ _ h => h
      case y5 => exact Or.inl ⟨by rfl, by (intro w hSw; (try dsimp only at hSw); go_simp; try with_reducible rfl)⟩
      try simp only [Act.put, sA, sB, sC]
      refine wpE_tk 3 (oi := ?o6) (v := ?v6) ?h6 (by kernel_rfl) ?q6 ?y6 (by assumption) ?_
      case h6 => (simp only [List.getElem?_toArray]; rfl)
      case q6 => exact fun _ _ _ h => h
      case y6 => exact Or.inl ⟨by rfl, by (intro w hSw; (try dsimp only at hSw); go_simp; try with_reducible rfl)⟩
      try simp only [Act.put, sA, sB, sC]
      refine wpE_tk 4 (oi := ?o7) (v := ?v7) ?h7 (by kernel_rfl) ?q7 ?y7 (by assumption) ?_
      case h7 => (simp only [List.getElem?_toArray]; rfl)
      case q7 => exact fun _ _ _ h => h
      case y7 => exact Or.inl ⟨by rfl, by (intro w hSw; (try dsimp only at hSw); go_simp; try with_reducible rfl)⟩
      try simp only [Act.put, sA, sB, sC]
      refine wpE_tk 5 (oi := ?o8) (v := ?v8) ?h8 (by kernel_rfl) ?q8 ?y8 (by assumption) ?_
      case h8 => (simp only [List.getElem?_toArray]; rfl)
      case q8 => exact fun _ _ _ h => h
      case y8 => exact Or.inl ⟨by rfl, by (intro w hSw; (try dsimp only at hSw); go_simp; try with_reducible rfl)⟩
      try simp only [Act.put, sA, sB, sC]
      refine wpE_tk 6 (oi := ?o9) (v := ?v9) ?h9 (by kernel_rfl) ?q9 ?y9 (by assumption) ?_
      case h9 => (simp only [List.getElem?_toArray]; rfl)
      case q9 => exact fun _ _ _ h => h
      case y9 => exact Or.inl ⟨by rfl, by (intro w hSw; (try dsimp only at hSw); go_simp; try with_reducible rfl)⟩
      try simp only [Act.put, sA, sB, sC]
      refine wpE_tk 7 (oi := ?o10) (v := ?v10) ?h10 (by kernel_rfl) ?q10 ?y10 (by assumption) ?_
      case h10 => (simp only [List.getElem?_toArray]; rfl)
      case q10 => exact fun _ _ _ h => h
      case y10 => exact Or.inl ⟨by rfl, by (intro w hSw; (try dsimp only at hSw); go_simp; try with_reducible rfl)⟩
      try simp only [Act.put, sA, sB, sC]
      refine wpE_tk 8 (oi := ?o11) (v := ?v11) ?h11 (by kernel_rfl) ?q11 ?y11 (by assumption) ?_
      case h11 => (simp only [List.getElem?_toArray]; rfl)
      case q11 => exact fun _ _ _ h => h
      case y11 => exact Or.inl ⟨by rfl, by (intro w hSw; (try dsimp only at hSw); go_simp; try with_reducible rfl)⟩
      try simp only [Act.put, sA, sB, sC]
      refine wpE_tk 9 (oi := ?o12) (v := ?v12) ?h12 (by kernel_rfl) ?q12 ?y12 (by assumption) ?_
      case h12 => (simp only [List.getElem?_toArray]; rfl)
      case q12 => exact fun _ _ _ h => h
      case y12 => exact Or.inl ⟨by rfl, by (intro w hSw; (try dsimp only at hSw); go_simp; try with_reducible rfl)⟩
      try simp only [Act.put, sA, sB, sC]
      refine wpE_tk 10 (oi := ?o13) (v := ?v13) ?h13 (by kernel_rfl) ?q13 ?y13 (by assumption) ?_
      case h13 => (simp only [List.getElem?_toArray]; rfl)
      case q13 => exact fun _ _ _ h => h
      case y13 => exact Or.inl ⟨by rfl, by (intro w hSw; (try dsimp only at hSw); go_simp; try with_reducible rfl)⟩
      try simp only [Act.put, sA, sB, sC]
      refine wpE_tk 11 (oi := ?o14) (v := ?v14) ?h14 (by kernel_rfl) ?q14 ?y14 (by assumption) ?_
      case h14 => (simp only [List.getElem?_toArray]; rfl)
      case q14 => exact fun _ _ _ h => h
      case y14 => exact Or.inl ⟨by rfl, by (intro w hSw; (try dsimp only at hSw); go_simp; try with_reducible rfl)⟩
      try simp only [Act.put, sA, sB, sC]
      refine wpE_tk 12 (oi := ?o15) (v := ?v15) ?h15 (by kernel_rfl) ?q15 ?y15 (by assumption) ?_
      case h15 => (simp only [List.getElem?_toArray]; rfl)
      case q15 => exact fun _ _ _ h => h
      case y15 => exact Or.inl ⟨by rfl, by (intro w hSw; (try dsimp only at hSw); go_simp; try with_reducible rfl)⟩
      try simp only [Act.put, sA, sB, sC]
      refine wpE_tk 13 (oi := ?o16) (v := ?v16) ?h16 (by kernel_rfl) ?q16 ?y16 (by assumption) ?_
      case h16 => (simp only [List.getElem?_toArray]; rfl)
      case q16 => exact fun _ _ _ h => h
      case y16 => exact Or.inl ⟨by rfl, by (intro w hSw; (try dsimp only at hSw); go_simp; try with_reducible rfl)⟩
      try simp only [Act.put, sA, sB, sC]
      refine wpE_two (i := 14) (j := 15) (oi := ?oa1) (oj := ?ob1) ?ha1 ?hb1 (by kernel_rfl) (fun K hK => ?_) (fun K hK => ?_)
      case ha1 => (simp only [List.getElem?_toArray]; rfl)
      case hb1 => (simp only [List.getElem?_toArray]; rfl)
      ·go_simp
       refine hK.out _ _ (by first | exact HS.out _ (Below.allocN wy _).drew | exact HS.out _ ((Below.allocN wy _).alloc (by rw [HS1.out]; omega) _).drew) (fun hHeld => ?_)
       clear hK K
       refine wpE_one (i := 15) (o := ?o31) ?ho31 (by kernel_rfl) (fun K hK => ?_)
       case ho31 => (simp only [List.getElem?_toArray]; rfl)
       go_simp
       refine hK.out _ _ (by first | exact HS.out _ (Below.allocN wy _).drew | exact HS.out _ ((Below.allocN wy _).alloc (by rw [HS1.out]; omega) _).drew) (fun hHeld => ?_)
       clear hK K
       refine wpE_one (i := 16) (o := ?o32) ?ho32 (by kernel_rfl) (fun K hK => ?_)
       case ho32 => (simp only [List.getElem?_toArray]; rfl)
       go_simp
       refine hK.out _ _ (by first | exact HS.out _ (Below.allocN wy _).drew | exact HS.out _ ((Below.allocN wy _).alloc (by rw [HS1.out]; omega) _).drew) (fun hHeld => ?_)
       clear hK K
       refine wpE_last (i := 17) (o := ?o39) ?ho39 (by kernel_rfl) (by kernel_rfl) (by kernel_rfl) (fun K hK => ?_)
       case ho39 => (simp only [List.getElem?_toArray]; rfl)
       go_simp
       refine hK.out _ _ ?_
       clear hK K hHeld
       go_wp2_with fail
       go_meet
       have h2 := two_new wy 81 81 #[.slice a1 L.length e1, .int .i64 p2, .int .i64 q2, .int .i64 r2, .bool f2] #[.slice a2 L.length e2, .int .i64 p2, .int .i64 q2, .int .i64 r2, .bool f2]
       exact ⟨wy.heap.size, wy.heap.size + 1, rfl, rfl, h2.1, h2.2.1, h2.2.2.drew⟩
      ·go_simp
       refine hK.out _ _ (by first | exact HS.out _ (Below.allocN wy _).drew | exact HS.out _ ((Below.allocN wy _).alloc (by rw [HS1.out]; omega) _).drew) (fun hHeld => ?_)
       clear hK K
       refine wpE_one (i := 14) (o := ?o33) ?ho33 (by kernel_rfl) (fun K hK => ?_)
       case ho33 => (simp only [List.getElem?_toArray]; rfl)
       go_simp
       refine hK.out _ _ (by first | exact HS.out _ (Below.allocN wy _).drew | exact HS.out _ ((Below.allocN wy _).alloc (by rw [HS1.out]; omega) _).drew) (fun hHeld => ?_)
       clear hK K
       refine wpE_one (i := 16) (o := ?o34) ?ho34 (by kernel_rfl) (fun K hK => ?_)
       case ho34 => (simp only [List.getElem?_toArray]; rfl)
       go_simp
       refine hK.out _ _ (by first | exact HS.out _ (Below.allocN wy _).drew | exact HS.out _ ((Below.allocN wy _).alloc (by rw [HS1.out]; omega) _).drew) (fun hHeld => ?_)
       clear hK K
       refine wpE_last (i := 17) (o := ?o40) ?ho40 (by kernel_rfl) (by kernel_rfl) (by kernel_rfl) (fun K hK => ?_)
       case ho40 => (simp only [List.getElem?_toArray]; rfl)
       go_simp
       refine hK.out _ _ ?_
       clear hK K hHeld
       go_wp2_with fail
       go_meet
       have h2 := two_new wy 81 81 #[.slice a2 L.length e2, .int .i64 p2, .int .i64 q2, .int .i64 r2, .bool f2] #[.slice a1 L.length e1, .int .i64 p2, .int .i64 q2, .int .i64 r2, .bool f2]
       exact ⟨wy.heap.size + 1, wy.heap.size, rfl, rfl, h2.2.1, h2.1, h2.2.2.drew⟩
     case rest =>
     obtain ⟨gx, gy, rfl, rfl, hgx, hgy, hbc⟩ := hcut
     obtain ⟨w5, rfl⟩ : ∃ wo : World, wo = wc := ⟨_, rfl⟩
     have HB5 := Lib.hid (HBY.out.trans (hbc.mono HBY.out.size))
     have HR1 := Lib.hid (HRW1.out.below hbc)
     have HR2 := Lib.hid (HRW2.out.below hbc)
     have HGX := Lib.hid hgx
     have HGY := Lib.hid hgy
     have x0 : w5.cell? ⟨gx, 0, none⟩ = some (.slice a1 L.length e1) := HGX.out.cell 0
     have y0 : w5.cell? ⟨gy, 0, none⟩ = some (.slice a2 L.length e2) := HGY.out.cell 0
     have x1 : w5.cell? ⟨gx, 1, none⟩ = some (.int .i64 p2) := HGX.out.cell 1
     have y1 : w5.cell? ⟨gy, 1, none⟩ = some (.int .i64 p2) := HGY.out.cell 1
     have x2 : w5.cell? ⟨gx, 2, none⟩ = some (.int .i64 q2) := HGX.out.cell 2
     have y2 : w5.cell? ⟨gy, 2, none⟩ = some (.int .i64 q2) := HGY.out.cell 2
     have x3 : w5.cell? ⟨gx, 3, none⟩ = some (.int .i64 r2) := HGX.out.cell 3
     have y3 : w5.cell? ⟨gy, 3, none⟩ = some (.int .i64 r2) := HGY.out.cell 3
     have x4 : w5.cell? ⟨gx, 4, none⟩ = some (.bool f2) := HGX.out.cell 4
     have y4 : w5.cell? ⟨gy, 4, none⟩ = some (.bool f2) := HGY.out.cell 4
     clear hgx hgy hbc HS HRW1 HRW2
     go_wp2_with fail
     clear x0 y0 x1 y1 x2 y2 x3 y3 x4 y4
     go_loopw [9] (fun i w' => ∃ q : Nat, i = .int .i64 q ∧ q ≤ L.length ∧ Below w5.heap.size w5 w') (fun i _ => L.length - (RowKit.intOf i).toNat)
     case atStart => exact ⟨0, rfl, Nat.zero_le _, Below.refl _ _⟩
     case round =>
      obtain ⟨q, rfl, hq, hbq⟩ := hrel
      obtain ⟨wq, rfl⟩ : ∃ wo : World, wo = wr := ⟨_, rfl⟩
      have HBQ := Lib.hid hbq
      have x0 : wq.cell? ⟨gx, 0, none⟩ = some (.slice a1 L.length e1) := (HGX.out.below hbq).cell 0
      have y0 : wq.cell? ⟨gy, 0, none⟩ = some (.slice a2 L.length e2) := (HGY.out.below hbq).cell 0
      clear hbq
      have hklo := HKL.out
      by_cases hlt2 : q < L.length
      ·have hlt2' : (q : Int) < (L.length : Int) := by omega
       obtain ⟨z, hz⟩ : ∃ z, L[q]? = some z := ⟨_, List.getElem?_eq_getElem hlt2⟩
       have h1r := HR1.out.below HBQ.out
       have h2r := HR2.out.below HBQ.out
       obtain ⟨gl, cap3, he, _, _⟩ := h1r.at_ q z hz
       injection he with he1 _ he3
       subst he1
       subst he3
       obtain ⟨gl2, cap4, he, _, _⟩ := h2r.at_ q z hz
       injection he with he1 _ he3
       subst he1
       subst he3
       obtain ⟨l0, l1, l2, _⟩ := rlv_at h1r hz
       obtain ⟨l3, l4, l5, _⟩ := rlv_at h2r hz
       clear hz h1r h2r
       go_wp2_with fail
       go_quiet (fail)
       have hbn := HBQ.out.trans ((Below.drewN_of wq nq).mono HBQ.out.size)
       have HBN := Lib.hid hbn
       clear hbn l0 l1 l2 l3 l4 l5 x0 y0
       go_wp2_with fail
       go_roundw
       case rel => exact ⟨q + 1, by go_num, hlt2, HBN.out⟩
       case measure => simp [RowKit.intOf]; omega
      ·have hql : q = L.length := by omega
       have HBF := Lib.hid (HB5.out.trans (HBQ.out.mono HB5.out.size))
       clear hql
       go_wp2_with fail
       go_roundw
       case rel => exact ⟨1, by go_num, .inr (.inl rfl), HBF.out⟩
       case measure => simp [RowKit.intOf]
    ·obtain ⟨g1, cap1, pp1, he, hg1, hcx, hq1, hq2⟩ := (HA.out.below HBY.out).get HX.out
     injection he with he1 _ he3
     subst he1
     subst he3
     obtain ⟨g2, cap2, pp2, he, hg2, hcy, hq3, hq4⟩ := (HBV.out.below HBY.out).get HX.out
     injection he with he1 _ he3
     subst he1
     subst he3
     obtain ⟨⟨b1, m1, h1, ⟨t1, u1, v1⟩, x1⟩, ⟨a1, n1, e1, ⟨p1, q1, r1⟩, f1⟩⟩ := pp1
     obtain ⟨⟨b2, m2, h2, ⟨t2, u2, v2⟩, x2⟩, ⟨a2, n2, e2, ⟨p2, q2, r2⟩, f2⟩⟩ := pp2
     have HSHA := hq2
     have HSHB := hq4
     obtain ⟨y1, hrw1, y3, y4⟩ := HSHA
     obtain ⟨z1, hrw2, z3, z4⟩ := HSHB
     obtain ⟨L, ⟨ip, iq, ic⟩, hh⟩ := d2
     dsimp only at y1 hrw1 y3 y4 z1 hrw2 z3 z4
     injection y3 with t1' t2' t3'
     injection z3 with t4' t5' t6'
     subst y1; subst y4; subst t1'; subst t2'; subst t3'; subst z1; subst t4'; subst t5'; subst t6'; subst z4
     have HKL : Hid (L.length ≤ 800000) := Lib.hid HL1.out.2
     have HRW1 := Lib.hid hrw1
     have HRW2 := Lib.hid hrw2
     have HS : Hid (∀ wx, Below wy.heap.size wy wx → (fun w' => w'.cell? ⟨ga, 0, none⟩ = some (.slice (some ⟨g1, 0, none⟩) V.length c) ∧ w'.cell? ⟨gb, 0, none⟩ = some (.slice (some ⟨g2, 0, none⟩) V.length d) ∧ w'.cell? ⟨g1, k * 10 + 5, none⟩ = some (.slice a1 L.length e1) ∧ w'.cell? ⟨g1, k * 10 + 6, none⟩ = some (.int .i64 p2) ∧ w'.cell? ⟨g1, k * 10 + 7, none⟩ = some (.int .i64 q2) ∧ w'.cell? ⟨g1, k * 10 + 8, none⟩ = some (.int .i64 r2) ∧ w'.cell? ⟨g1, k * 10 + 9, none⟩ = some (.bool f2) ∧ w'.cell? ⟨g2, k * 10 + 5, none⟩ = some (.slice a2 L.length e2) ∧ w'.cell? ⟨g2, k * 10 + 6, none⟩ = some (.int .i64 p2) ∧ w'.cell? ⟨g2, k * 10 + 7, none⟩ = some (.int .i64 q2) ∧ w'.cell? ⟨g2, k * 10 + 8, none⟩ = some (.int .i64 r2) ∧ w'.cell? ⟨g2, k * 10 + 9, none⟩ = some (.bool f2)) wx) := Lib.hid fun wx hb => by
      have hb1 := HBY.out.trans (hb.mono HBY.out.size)
      have e : ∀ (g o : Nat), g < wy.heap.size → wx.cell? ⟨g, o, none⟩ = wy.cell? ⟨g, o, none⟩ := fun g o hg => hb.cell (p := ⟨g, o, none⟩) hg
      exact ⟨(HGA2.out.below hb1).cell 0, (HGB.out.below hb1).cell 0, (e g1 _ hg1).trans (hcx 5 _ rfl), (e g1 _ hg1).trans (hcx 6 _ rfl), (e g1 _ hg1).trans (hcx 7 _ rfl), (e g1 _ hg1).trans (hcx 8 _ rfl), (e g1 _ hg1).trans (hcx 9 _ rfl), (e g2 _ hg2).trans (hcy 5 _ rfl), (e g2 _ hg2).trans (hcy 6 _ rfl), (e g2 _ hg2).trans (hcy 7 _ rfl), (e g2 _ hg2).trans (hcy 8 _ rfl), (e g2 _ hg2).trans (hcy 9 _ rfl)⟩
     clear hcx hcy hrw1 hrw2 hq1 hq2 hq3 hq4
     go_upto_region 9 with (fail)
     go_cut [7, 8] (fun u7 u8 wx => ∃ gx gy, u7 = .pointer (some ⟨gx, 0, none⟩) ∧ u8 = .pointer (some ⟨gy, 0, none⟩) ∧ Blk wx gx 81 #[.slice a1 L.length e1, .int .i64 p2, .int .i64 q2, .int .i64 r2, .bool f2] ∧ Blk wx gy 81 #[.slice a2 L.length e2, .int .i64 p2, .int .i64 q2, .int .i64 r2, .bool f2] ∧ Below wy.heap.size wy wx)
     case first =>
      refine wp_region_E (S := fun w' => w'.cell? ⟨ga, 0, none⟩ = some (.slice (some ⟨g1, 0, none⟩) V.length c) ∧ w'.cell? ⟨gb, 0, none⟩ = some (.slice (some ⟨g2, 0, none⟩) V.length d) ∧ w'.cell? ⟨g1, k * 10 + 5, none⟩ = some (.slice a1 L.length e1) ∧ w'.cell? ⟨g1, k * 10 + 6, none⟩ = some (.int .i64 p2) ∧ w'.cell? ⟨g1, k * 10 + 7, none⟩ = some (.int .i64 q2) ∧ w'.cell? ⟨g1, k * 10 + 8, none⟩ = some (.int .i64 r2) ∧ w'.cell? ⟨g1, k * 10 + 9, none⟩ = some (.bool f2) ∧ w'.cell? ⟨g2, k * 10 + 5, none⟩ = some (.slice a2 L.length e2) ∧ w'.cell? ⟨g2, k * 10 + 6, none⟩ = some (.int .i64 p2) ∧ w'.cell? ⟨g2, k * 10 + 7, none⟩ = some (.int .i64 q2) ∧ w'.cell? ⟨g2, k * 10 + 8, none⟩ = some (.int .i64 r2) ∧ w'.cell? ⟨g2, k * 10 + 9, none⟩ = some (.bool f2)) (by kernel_rfl) (HS.out _ (Below.refl _ _).drew) (fun hHeld => ?_)
      refine wpE_tk 0 (oi := ?o17) (v := ?v17) ?h17 (by kernel_rfl) ?q17 ?y17 (by assumption) ?_
      case h17 => (simp only [List.getElem?_toArray]; rfl)
      case q17 => exact fun _ _ _ h => h
      case y17 => exact Or.inl ⟨by rfl, by (intro w hSw; (try dsimp only at hSw); go_simp; try with_reducible rfl)⟩
      try simp only [Act.put, sA, sB, sC]
      refine wpE_tk 1 (oi := ?o18) (v := ?v18) ?h18 (by kernel_rfl) ?q18 ?y18 (by assumption) ?_
      case h18 => (simp only [List.getElem?_toArray]; rfl)
      case q18 => exact fun _ _ _ h => h
      case y18 => exact Or.inl ⟨by rfl, by (intro w hSw; (try dsimp only at hSw); go_simp; try with_reducible rfl)⟩
      try simp only [Act.put, sA, sB, sC]
      refine wpE_tk 2 (oi := ?o19) (v := ?v19) ?h19 (by kernel_rfl) ?q19 ?y19 (by assumption) ?_
      case h19 => (simp only [List.getElem?_toArray]; rfl)
      case q19 => exact fun _ _ _ h => h
      case y19 => exact Or.inl ⟨by rfl, by (intro w hSw; (try dsimp only at hSw); go_simp; try with_reducible rfl)⟩
      try simp only [Act.put, sA, sB, sC]
      refine wpE_tk 3 (oi := ?o20) (v := ?v20) ?h20 (by kernel_rfl) ?q20 ?y20 (by assumption) ?_
      case h20 => (simp only [List.getElem?_toArray]; rfl)
      case q20 => exact fun _ _ _ h => h
      case y20 => exact Or.inl ⟨by rfl, by (intro w hSw; (try dsimp only at hSw); go_simp; try with_reducible rfl)⟩
      try simp only [Act.put, sA, sB, sC]
      refine wpE_tk 4 (oi := ?o21) (v := ?v21) ?h21 (by kernel_rfl) ?q21 ?y21 (by assumption) ?_
      case h21 => (simp only [List.getElem?_toArray]; rfl)
      case q21 => exact fun _ _ _ h => h
      case y21 => exact Or.inl ⟨by rfl, by (intro w hSw; (try dsimp only at hSw); go_simp; try with_reducible rfl)⟩
      try simp only [Act.put, sA, sB, sC]
      refine wpE_tk 5 (oi := ?o22) (v := ?v22) ?h22 (by kernel_rfl) ?q22 ?y22 (by assumption) ?_
      case h22 => (simp only [List.getElem?_toArray]; rfl)
      case q22 => exact fun _ _ _ h => h
      case y22 => exact Or.inl ⟨by rfl, by (intro w hSw; (try dsimp only at hSw); go_simp; try with_reducible rfl)⟩
      try simp only [Act.put, sA, sB, sC]
      refine wpE_tk 6 (oi := ?o23) (v := ?v23) ?h23 (by kernel_rfl) ?q23 ?y23 (by assumption) ?_
      case h23 => (simp only [List.getElem?_toArray]; rfl)
      case q23 => exact fun _ _ _ h => h
      case y23 => exact Or.inl ⟨by rfl, by (intro w hSw; (try dsimp only at hSw); go_simp; try with_reducible rfl)⟩
      try simp only [Act.put, sA, sB, sC]
      refine wpE_tk 7 (oi := ?o24) (v := ?v24) ?h24 (by kernel_rfl) ?q24 ?y24 (by assumption) ?_
      case h24 => (simp only [List.getElem?_toArray]; rfl)
      case q24 => exact fun _ _ _ h => h
      case y24 => exact Or.inl ⟨by rfl, by (intro w hSw; (try dsimp only at hSw); go_simp; try with_reducible rfl)⟩
      try simp only [Act.put, sA, sB, sC]
      refine wpE_tk 8 (oi := ?o25) (v := ?v25) ?h25 (by kernel_rfl) ?q25 ?y25 (by assumption) ?_
      case h25 => (simp only [List.getElem?_toArray]; rfl)
      case q25 => exact fun _ _ _ h => h
      case y25 => exact Or.inl ⟨by rfl, by (intro w hSw; (try dsimp only at hSw); go_simp; try with_reducible rfl)⟩
      try simp only [Act.put, sA, sB, sC]
      refine wpE_tk 9 (oi := ?o26) (v := ?v26) ?h26 (by kernel_rfl) ?q26 ?y26 (by assumption) ?_
      case h26 => (simp only [List.getElem?_toArray]; rfl)
      case q26 => exact fun _ _ _ h => h
      case y26 => exact Or.inl ⟨by rfl, by (intro w hSw; (try dsimp only at hSw); go_simp; try with_reducible rfl)⟩
      try simp only [Act.put, sA, sB, sC]
      refine wpE_tk 10 (oi := ?o27) (v := ?v27) ?h27 (by kernel_rfl) ?q27 ?y27 (by assumption) ?_
      case h27 => (simp only [List.getElem?_toArray]; rfl)
      case q27 => exact fun _ _ _ h => h
      case y27 => exact Or.inl ⟨by rfl, by (intro w hSw; (try dsimp only at hSw); go_simp; try with_reducible rfl)⟩
      try simp only [Act.put, sA, sB, sC]
      refine wpE_tk 11 (oi := ?o28) (v := ?v28) ?h28 (by kernel_rfl) ?q28 ?y28 (by assumption) ?_
      case h28 => (simp only [List.getElem?_toArray]; rfl)
      case q28 => exact fun _ _ _ h => h
      case y28 => exact Or.inl ⟨by rfl, by (intro w hSw; (try dsimp only at hSw); go_simp; try with_reducible rfl)⟩
      try simp only [Act.put, sA, sB, sC]
      refine wpE_tk 12 (oi := ?o29) (v := ?v29) ?h29 (by kernel_rfl) ?q29 ?y29 (by assumption) ?_
      case h29 => (simp only [List.getElem?_toArray]; rfl)
      case q29 => exact fun _ _ _ h => h
      case y29 => exact Or.inl ⟨by rfl, by (intro w hSw; (try dsimp only at hSw); go_simp; try with_reducible rfl)⟩
      try simp only [Act.put, sA, sB, sC]
      refine wpE_tk 13 (oi := ?o30) (v := ?v30) ?h30 (by kernel_rfl) ?q30 ?y30 (by assumption) ?_
      case h30 => (simp only [List.getElem?_toArray]; rfl)
      case q30 => exact fun _ _ _ h => h
      case y30 => exact Or.inl ⟨by rfl, by (intro w hSw; (try dsimp only at hSw); go_simp; try with_reducible rfl)⟩
      try simp only [Act.put, sA, sB, sC]
      refine wpE_two (i := 14) (j := 15) (oi := ?oa2) (oj := ?ob2) ?ha2 ?hb2 (by kernel_rfl) (fun K hK => ?_) (fun K hK => ?_)
      case ha2 => (simp only [List.getElem?_toArray]; rfl)
      case hb2 => (simp only [List.getElem?_toArray]; rfl)
      ·go_simp
       refine hK.out _ _ (by first | exact HS.out _ (Below.allocN wy _).drew | exact HS.out _ ((Below.allocN wy _).alloc (by rw [HS1.out]; omega) _).drew) (fun hHeld => ?_)
       clear hK K
       refine wpE_one (i := 15) (o := ?o35) ?ho35 (by kernel_rfl) (fun K hK => ?_)
       case ho35 => (simp only [List.getElem?_toArray]; rfl)
       go_simp
       refine hK.out _ _ (by first | exact HS.out _ (Below.allocN wy _).drew | exact HS.out _ ((Below.allocN wy _).alloc (by rw [HS1.out]; omega) _).drew) (fun hHeld => ?_)
       clear hK K
       refine wpE_one (i := 16) (o := ?o36) ?ho36 (by kernel_rfl) (fun K hK => ?_)
       case ho36 => (simp only [List.getElem?_toArray]; rfl)
       go_simp
       refine hK.out _ _ (by first | exact HS.out _ (Below.allocN wy _).drew | exact HS.out _ ((Below.allocN wy _).alloc (by rw [HS1.out]; omega) _).drew) (fun hHeld => ?_)
       clear hK K
       refine wpE_last (i := 17) (o := ?o41) ?ho41 (by kernel_rfl) (by kernel_rfl) (by kernel_rfl) (fun K hK => ?_)
       case ho41 => (simp only [List.getElem?_toArray]; rfl)
       go_simp
       refine hK.out _ _ ?_
       clear hK K hHeld
       go_wp2_with fail
       go_meet
       have h2 := two_new wy 81 81 #[.slice a1 L.length e1, .int .i64 p2, .int .i64 q2, .int .i64 r2, .bool f2] #[.slice a2 L.length e2, .int .i64 p2, .int .i64 q2, .int .i64 r2, .bool f2]
       exact ⟨wy.heap.size, wy.heap.size + 1, rfl, rfl, h2.1, h2.2.1, h2.2.2.drew⟩
      ·go_simp
       refine hK.out _ _ (by first | exact HS.out _ (Below.allocN wy _).drew | exact HS.out _ ((Below.allocN wy _).alloc (by rw [HS1.out]; omega) _).drew) (fun hHeld => ?_)
       clear hK K
       refine wpE_one (i := 14) (o := ?o37) ?ho37 (by kernel_rfl) (fun K hK => ?_)
       case ho37 => (simp only [List.getElem?_toArray]; rfl)
       go_simp
       refine hK.out _ _ (by first | exact HS.out _ (Below.allocN wy _).drew | exact HS.out _ ((Below.allocN wy _).alloc (by rw [HS1.out]; omega) _).drew) (fun hHeld => ?_)
       clear hK K
       refine wpE_one (i := 16) (o := ?o38) ?ho38 (by kernel_rfl) (fun K hK => ?_)
       case ho38 => (simp only [List.getElem?_toArray]; rfl)
       go_simp
       refine hK.out _ _ (by first | exact HS.out _ (Below.allocN wy _).drew | exact HS.out _ ((Below.allocN wy _).alloc (by rw [HS1.out]; omega) _).drew) (fun hHeld => ?_)
       clear hK K
       refine wpE_last (i := 17) (o := ?o42) ?ho42 (by kernel_rfl) (by kernel_rfl) (by kernel_rfl) (fun K hK => ?_)
       case ho42 => (simp only [List.getElem?_toArray]; rfl)
       go_simp
       refine hK.out _ _ ?_
       clear hK K hHeld
       go_wp2_with fail
       go_meet
       have h2 := two_new wy 81 81 #[.slice a2 L.length e2, .int .i64 p2, .int .i64 q2, .int .i64 r2, .bool f2] #[.slice a1 L.length e1, .int .i64 p2, .int .i64 q2, .int .i64 r2, .bool f2]
       exact ⟨wy.heap.size + 1, wy.heap.size, rfl, rfl, h2.2.1, h2.1, h2.2.2.drew⟩
     case rest =>
     obtain ⟨gx, gy, rfl, rfl, hgx, hgy, hbc⟩ := hcut
     obtain ⟨w5, rfl⟩ : ∃ wo : World, wo = wc := ⟨_, rfl⟩
     have HB5 := Lib.hid (HBY.out.trans (hbc.mono HBY.out.size))
     have HR1 := Lib.hid (HRW1.out.below hbc)
     have HR2 := Lib.hid (HRW2.out.below hbc)
     have HGX := Lib.hid hgx
     have HGY := Lib.hid hgy
     have x0 : w5.cell? ⟨gx, 0, none⟩ = some (.slice a1 L.length e1) := HGX.out.cell 0
     have y0 : w5.cell? ⟨gy, 0, none⟩ = some (.slice a2 L.length e2) := HGY.out.cell 0
     have x1 : w5.cell? ⟨gx, 1, none⟩ = some (.int .i64 p2) := HGX.out.cell 1
     have y1 : w5.cell? ⟨gy, 1, none⟩ = some (.int .i64 p2) := HGY.out.cell 1
     have x2 : w5.cell? ⟨gx, 2, none⟩ = some (.int .i64 q2) := HGX.out.cell 2
     have y2 : w5.cell? ⟨gy, 2, none⟩ = some (.int .i64 q2) := HGY.out.cell 2
     have x3 : w5.cell? ⟨gx, 3, none⟩ = some (.int .i64 r2) := HGX.out.cell 3
     have y3 : w5.cell? ⟨gy, 3, none⟩ = some (.int .i64 r2) := HGY.out.cell 3
     have x4 : w5.cell? ⟨gx, 4, none⟩ = some (.bool f2) := HGX.out.cell 4
     have y4 : w5.cell? ⟨gy, 4, none⟩ = some (.bool f2) := HGY.out.cell 4
     clear hgx hgy hbc HS HRW1 HRW2
     go_wp2_with fail
     clear x0 y0 x1 y1 x2 y2 x3 y3 x4 y4
     go_loopw [9] (fun i w' => ∃ q : Nat, i = .int .i64 q ∧ q ≤ L.length ∧ Below w5.heap.size w5 w') (fun i _ => L.length - (RowKit.intOf i).toNat)
     case atStart => exact ⟨0, rfl, Nat.zero_le _, Below.refl _ _⟩
     case round =>
      obtain ⟨q, rfl, hq, hbq⟩ := hrel
      obtain ⟨wq, rfl⟩ : ∃ wo : World, wo = wr := ⟨_, rfl⟩
      have HBQ := Lib.hid hbq
      have x0 : wq.cell? ⟨gx, 0, none⟩ = some (.slice a1 L.length e1) := (HGX.out.below hbq).cell 0
      have y0 : wq.cell? ⟨gy, 0, none⟩ = some (.slice a2 L.length e2) := (HGY.out.below hbq).cell 0
      clear hbq
      have hklo := HKL.out
      by_cases hlt2 : q < L.length
      ·have hlt2' : (q : Int) < (L.length : Int) := by omega
       obtain ⟨z, hz⟩ : ∃ z, L[q]? = some z := ⟨_, List.getElem?_eq_getElem hlt2⟩
       have h1r := HR1.out.below HBQ.out
       have h2r := HR2.out.below HBQ.out
       obtain ⟨gl, cap3, he, _, _⟩ := h1r.at_ q z hz
       injection he with he1 _ he3
       subst he1
       subst he3
       obtain ⟨gl2, cap4, he, _, _⟩ := h2r.at_ q z hz
       injection he with he1 _ he3
       subst he1
       subst he3
       obtain ⟨l0, l1, l2, _⟩ := rlv_at h1r hz
       obtain ⟨l3, l4, l5, _⟩ := rlv_at h2r hz
       clear hz h1r h2r
       go_wp2_with fail
       go_quiet (fail)
       have hbn := HBQ.out.trans ((Below.drewN_of wq nq).mono HBQ.out.size)
       have HBN := Lib.hid hbn
       clear hbn l0 l1 l2 l3 l4 l5 x0 y0
       go_wp2_with fail
       go_roundw
       case rel => exact ⟨q + 1, by go_num, hlt2, HBN.out⟩
       case measure => simp [RowKit.intOf]; omega
      ·have hql : q = L.length := by omega
       have HBF := Lib.hid (HB5.out.trans (HBQ.out.mono HB5.out.size))
       clear hql
       go_wp2_with fail
       go_roundw
       case rel => exact ⟨2, by go_num, .inr (.inr rfl), HBF.out⟩
       case measure => simp [RowKit.intOf]
    ·go_wp2_with fail
     go_roundw
     case rel => exact ⟨k + 1, by go_num, hlt, HBY.out⟩
     case measure => simp [RowKit.intOf]; omega
  ·have hkl : k = V.length := by omega
   have HBF := Lib.hid (HB.out.trans (HBZ.out.mono HB.out.size))
   clear hkl
   go_wp2_with fail
   go_ret
   exact ⟨by trivial, HBF.out⟩
end
end Go.Proofs.Ytmaijkoopjocdaa
