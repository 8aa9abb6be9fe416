/- Merged: Snp2 Snp3. -/
import Derived.Test.YtmaijkoopjocdaaGL
/- The walk of snap.side. -/
namespace Go.Proofs.Ytmaijkoopjocdaa
open Go.RowKit Go.Lib

structure SdI (W w wr : World) (pr g2 g4 n : Nat) (s0 : RS) (k : Nat) (v : Value) (acc : List Lv) (t : RS) : Prop where
 rd : RDR W wr pr t
 bx : Blk wr g4 94 #[v, .int .i64 0, .int .i64 0, .int .i64 0, .bool false]
 br : Blk wr g2 94 #[.slice none 0 0, .int .i64 0, .int .i64 0, .int .i64 0, .bool false]
 row : LVL.Row wr w.heap.size v acc
 kp : Keeps (fun g => g = pr) w wr
 e1 : acc ++ (readLvs (n - k) t).1 = (readLvs n s0).1
 e2 : (readLvs (n - k) t).2 = (readLvs n s0).2
 len : acc.length = k
section
variable {W w w' : World} {pr : Nat} {s : RS}
theorem readLvs_len : ∀ (n : Nat) (s : RS), (readLvs n s).1.length = n
 | 0, _ => rfl
 | n + 1, s => by show ((readLv s).1 :: (readLvs n (readLv s).2).1).length = n + 1; rw [List.length_cons, readLvs_len n]
set_option maxRecDepth 20000 in
set_option maxHeartbeats 16000000 in
theorem side_any (h : RDR W w pr s) :
  Calls Try.prog 66 #[.pointer (some ⟨pr, 0, none⟩)] w fun e w' => ∃ sh : Sh, e = .returned (.tuple #[.agg #[.slice sh.a sh.n sh.c, .int .i64 sh.im.price, .int .i64 sh.im.qty, .int .i64 sh.im.count, .bool sh.has], .bool (readSd s).2.1]) ∧ ShO LVL w' w.heap.size sh (readSd s).1 ∧ RDR W w' pr (readSd s).2.2 ∧ Keeps (fun g => g = pr) w w' := by
 obtain ⟨nz, s1, h1⟩ : ∃ p t, s.num 1 = (p, t) := ⟨_, _, rfl⟩
 have hbr := RS.byte_range h.ok
 rw [h1] at hbr
 obtain ⟨n, rfl⟩ : ∃ n : Nat, nz = n := ⟨nz.toNat, by omega⟩
 have hn : n ≤ 255 := by omega
 have hv : readSd s = readIm (readLvs n s1).1 (readLvs n s1).2 := by unfold readSd; simp only [h1, Int.toNat_natCast]
 rw [hv]
 have hz : ∀ (w : World) (o : Obj), (w.alloc o).heap.size = w.heap.size + 1 := fun w o => by simp
 have hb1 := (Below.allocN w (.cells #[.slice none 0 0, .int .i64 0, .int .i64 0, .int .i64 0, .bool false] 94))
 have hb2 := hb1.trans ((Below.allocN (w.alloc (.cells #[.slice none 0 0, .int .i64 0, .int .i64 0, .int .i64 0, .bool false] 94)) (.cells #[.slice none 0 0, .int .i64 0, .int .i64 0, .int .i64 0, .bool false] 94)).mono hb1.size)
 have hg2 : Blk ((w.alloc (.cells #[.slice none 0 0, .int .i64 0, .int .i64 0, .int .i64 0, .bool false] 94)).alloc (.cells #[.slice none 0 0, .int .i64 0, .int .i64 0, .int .i64 0, .bool false] 94)) w.heap.size 94 #[.slice none 0 0, .int .i64 0, .int .i64 0, .int .i64 0, .bool false] := (Blk.new w _ _).alloc _
 have hg4 : Blk ((w.alloc (.cells #[.slice none 0 0, .int .i64 0, .int .i64 0, .int .i64 0, .bool false] 94)).alloc (.cells #[.slice none 0 0, .int .i64 0, .int .i64 0, .int .i64 0, .bool false] 94)) (w.heap.size + 1) 94 #[.slice none 0 0, .int .i64 0, .int .i64 0, .int .i64 0, .bool false] := by
  have := Blk.new (w.alloc (.cells #[.slice none 0 0, .int .i64 0, .int .i64 0, .int .i64 0, .bool false] 94)) 94 #[.slice none 0 0, .int .i64 0, .int .i64 0, .int .i64 0, .bool false]
  rwa [hz] at this
 have R0 := Lib.hid (h.below hb2)
 have HG2 := Lib.hid hg2
 have HG4 := Lib.hid hg4
 have K0 := Lib.hid (Below.keeps (F := fun g => g = pr) hb2)
 have NP : Hid (pr < w.heap.size) := Lib.hid h.lt
 have NW : Hid (W.heap.size ≤ w.heap.size) := Lib.hid h.bel.size
 have H1 := Lib.hid h1
 have HSZ := Lib.hid hb2.size
 clear h hz hb1 hb2 hg2 hg4 h1 hv hbr
 go_enter Try.func66, Try.ntmps66
 go_upto_region 2 with (fail)
 obtain ⟨g2, hg2⟩ : ∃ g, w.heap.size = g := ⟨_, rfl⟩
 obtain ⟨g4, hg4⟩ : ∃ g, w.heap.size + 1 = g := ⟨_, rfl⟩
 have N24 : Hid (g2 ≠ g4 ∧ pr < g2 ∧ pr < g4 ∧ w.heap.size ≤ g2 ∧ w.heap.size ≤ g4) := Lib.hid (by have := NP.out; omega)
 rw [hg4] at HG4 ⊢
 rw [hg2] at HG2 ⊢
 clear hg2 hg4
 generalize (w.alloc (.cells #[.slice none 0 0, .int .i64 0, .int .i64 0, .int .i64 0, .bool false] 94)).alloc (.cells #[.slice none 0 0, .int .i64 0, .int .i64 0, .int .i64 0, .bool false] 94) = w1 at *
 go_wp2_with fail
 refine (rbyte_eq R0.out H1.out).mono ?_
 rintro e w2 ⟨rfl, hr, hk⟩
 have I0 : Hid (SdI W w w2 pr g2 g4 n s1 0 (.slice none 0 0) [] s1) := Lib.hid ⟨hr, HG4.out.keeps hk (by have := N24.out; omega), HG2.out.keeps hk (by have := N24.out; omega), Lay.Row.nil _ _, K0.out.trans hk, rfl, rfl, rfl⟩
 clear hr hk R0 HG2 HG4 K0
 go_wp2_with fail
 go_loopw [8] (fun i w' => ∃ (k : Nat) (v : Value) (acc : List Lv) (t : RS), i = .int .i64 k ∧ k ≤ n ∧ SdI W w w' pr g2 g4 n s1 k v acc t) (fun i _ => n - (RowKit.intOf i).toNat)
 case atStart => exact ⟨0, _, _, _, rfl, Nat.zero_le _, I0.out⟩
 case round =>
  clear I0
  obtain ⟨k, v, acc, t, rfl, hk, hI⟩ := hrel
  obtain ⟨wz, rfl⟩ : ∃ wo : World, wo = wr := ⟨_, rfl⟩
  have I1 := Lib.hid hI
  obtain ⟨av, cv, hvf⟩ := hI.row.form
  have hal := hI.len
  clear hI
  by_cases hlt : k < n
  ·have hlt' : (k : Int) < (n : Int) := by omega
   subst hvf
   have hS : wz.cell? ⟨g4, 0, none⟩ = some (.slice av acc.length cv) := I1.out.bx.cell 0
   have HGT := Lib.hid (get_any (I1.out.rd.below (Below.drewN_of wz 1)))
   have HRL : Hid (readLvs (n - k) t = ((readLv t).1 :: (readLvs (n - (k + 1)) (readLv t).2).1, (readLvs (n - (k + 1)) (readLv t).2).2)) := Lib.hid (by rw [show n - k = (n - (k + 1)) + 1 by omega]; rfl)
   obtain ⟨x, t', hx⟩ : ∃ x t', readLv t = (x, t') := ⟨_, _, rfl⟩
   rw [hx] at HGT HRL
   unfold Lv.agg at HGT
   dsimp only at HGT HRL
   have HAL := Lib.hid hal
   clear hx hal
   go_upto_region 4 with (fail)
   refine wp_region_E (S := fun w' => w'.cell? ⟨g4, 0, none⟩ = some (.slice av acc.length cv)) (by kernel_rfl) hS (fun hHeld => ?_)
   refine wpE_tk 0 (oi := ?o1) (v := ?v1) ?h1 (by kernel_rfl) ?q1 ?y1 (by assumption) ?_
   case h1 => (simp only [List.getElem?_toArray]; rfl)
   case q1 => exact fun _ _ _ h => h
   case y1 => exact Or.inl ⟨by rfl, by (intro w hSw; (try dsimp only at hSw); go_simp; try with_reducible rfl)⟩
   try simp only [Act.put, sA, sB, sC]
   refine wpE_tk 1 (oi := ?o2) (v := ?v2) ?h2 (by kernel_rfl) ?q2 ?y2 (by assumption) ?_
   case h2 => (simp only [List.getElem?_toArray]; rfl)
   case q2 => exact fun _ _ _ h => h
   case y2 => exact Or.inl ⟨by rfl, by (intro w hSw; (try dsimp only at hSw); go_simp; try with_reducible rfl)⟩
   try simp only [Act.put, sA, sB, sC]
   refine wpE_tk 2 (oi := ?o3) (v := ?v3) ?h3 (by kernel_rfl) ?q3 ?y3 (by assumption) ?_
   case h3 => (simp only [List.getElem?_toArray]; rfl)
   case q3 => exact fun _ _ _ h => h
   case y3 => exact Or.inl ⟨by rfl, by (intro w hSw; (try dsimp only at hSw); go_simp; try with_reducible rfl)⟩
   try simp only [Act.put, sA, sB, sC]
   refine wpE_one (i := 3) (o := ?o5) ?ho5 (by kernel_rfl) (fun K hK => ?_)
   case ho5 => (simp only [List.getElem?_toArray]; rfl)
   go_simp
   refine HGT.out.mono ?_
   rintro e w3 ⟨rfl, hr3, hk3⟩
   have hkz := (Below.keeps (F := fun g => g = pr) (Below.drewN_of wz 1)).trans hk3
   have BX3 := Lib.hid (I1.out.bx.keeps hkz (by have := N24.out; omega))
   have BR3 := Lib.hid (I1.out.br.keeps hkz (by have := N24.out; omega))
   have RW3 := Lib.hid (I1.out.row.keep hkz (fun g hg e => hg.ne I1.out.rd.tyd (by decide) e))
   have K3 := Lib.hid (I1.out.kp.trans hkz)
   have R3 := Lib.hid hr3
   refine hK.out _ _ (BX3.out.cell 0) (fun hHeld => ?_)
   clear hK K hr3 hk3 hkz hS HGT
   have hba := Below.allocN w3 (.cells #[.int .i64 x.price, .int .i64 x.qty, .int .i64 x.count] 92)
   have BX4 := Lib.hid (BX3.out.below hba)
   have BR4 := Lib.hid (BR3.out.below hba)
   have RW4 := Lib.hid (RW3.out.below hba)
   have K4 := Lib.hid (K3.out.trans (Below.keeps hba))
   have R4 := Lib.hid (R3.out.below hba)
   have HN4 : Hid (Blk (w3.alloc (.cells #[.int .i64 x.price, .int .i64 x.qty, .int .i64 x.count] 92)) w3.heap.size 92 x.cells.toArray) := Lib.hid (Blk.new _ _ _)
   obtain ⟨gx, hgx⟩ : ∃ gx, w3.heap.size = gx := ⟨_, rfl⟩
   refine wpE_one (i := 4) (o := ?o6) ?ho6 (by kernel_rfl) (fun K hK => ?_)
   case ho6 => (simp only [List.getElem?_toArray]; rfl)
   go_simp
   refine hK.out _ _ (BX4.out.cell 0) (fun hHeld => ?_)
   rw [hgx] at HN4
   have NX : Hid (w.heap.size ≤ gx) := Lib.hid (by have h1 := K3.out.size; omega)
   clear hgx hK K hba BX3 BR3 RW3 K3 R3
   generalize w3.alloc (.cells #[.int .i64 x.price, .int .i64 x.qty, .int .i64 x.count] 92) = w4 at *
   refine wpE_one (i := 5) (o := ?o7) ?ho7 (by kernel_rfl) (fun K hK => ?_)
   case ho7 => (simp only [List.getElem?_toArray]; rfl)
   refine LVL.step (by rfl) (.tmp 11) (.tmp 14) (by rfl) w.heap.size (.slice av acc.length cv) acc (by rfl) RW4.out gx x (by rfl) HN4.out.lt HN4.out.cellsAt (by have := HAL.out; omega) K4.out.size ?_
   intro v' w5 hr5 hg5 _
   obtain ⟨a5, c5, hv5⟩ := hr5.form
   rw [show (acc ++ [x]).length = acc.length + 1 by rw [List.length_append]; rfl] at hv5
   subst hv5
   have hk5 := grown_keeps hg5
   have hty : ∀ g, (Value.slice av acc.length cv).ownBlock = some g → Tyd w4 g LVL.t := fun g hg => own_tyd RW4.out g hg
   have hbs : ∀ g, (Value.slice av acc.length cv).ownBlock = some g → w.heap.size ≤ g := own_base RW4.out
   have BX5 := Lib.hid (BX4.out.keeps hk5 (fun e => (hty _ e).ne BX4.out.tyd (by decide) rfl))
   have BR5 := Lib.hid (BR4.out.keeps hk5 (fun e => (hty _ e).ne BR4.out.tyd (by decide) rfl))
   have R5 := Lib.hid (R4.out.keep hk5 (fun e => (hty _ e).ne R4.out.tyd (by decide) rfl) (fun b hb e => (hty _ e).ne hb (by decide) rfl) (fun k hk => Nat.le_trans NW.out (hbs k hk)))
   have K5 := Lib.hid (K4.out.step hk5 (fun i hi hg => absurd (hbs i hg) (by omega)))
   have RW5 := Lib.hid hr5
   refine hK.out _ _ (BX5.out.cell 0) (fun hHeld => ?_)
   clear hK K hr5 hg5 hk5 hty hbs BX4 BR4 R4 K4 RW4 HN4
   refine wpE_tk 6 (oi := ?o4) (v := ?v4) ?h4 (by kernel_rfl) ?q4 ?y4 (by assumption) ?_
   case h4 => (simp only [List.getElem?_toArray]; rfl)
   case q4 => exact fun _ _ _ h => h
   case y4 => exact Or.inl ⟨by rfl, by (intro w hSw; (try dsimp only at hSw); go_simp; try with_reducible rfl)⟩
   try simp only [Act.put, sA, sB, sC]
   refine wpE_last (i := 7) (o := ?o8) ?ho8 (by kernel_rfl) (by kernel_rfl) (by kernel_rfl) (fun K hK => ?_)
   case ho8 => (simp only [List.getElem?_toArray]; rfl)
   have k5 : w5.cell? ⟨g4, 0, none⟩ = some (.slice av acc.length cv) := BX5.out.cell 0
   have z5 : w5.frozen? ⟨g4, 0, none⟩ = false := BX5.out.frozen 0
   go_simp
   refine hK.out _ _ ?_
   have hk6 := keep1 w5 g4 0 (.slice a5 (acc.length + 1) c5)
   have hb6 := BX5.out.set_ 0 (.slice a5 (acc.length + 1) c5)
   simp only [List.setIfInBounds_toArray, List.set_cons_zero] at hb6
   have I6 : Hid (SdI W w (w5.setCell ⟨g4, 0, none⟩ (.slice a5 (acc.length + 1) c5)) pr g2 g4 n s1 (k + 1) (.slice a5 (acc.length + 1) c5) (acc ++ [x]) t') := Lib.hid
    ⟨R5.out.keep hk6 (by have := N24.out; omega) (fun b hb e => hb.ne BX5.out.tyd (by decide) e) (fun k hk => by have hk2 : k = g4 := hk; rw [hk2]; exact Nat.le_trans NW.out N24.out.2.2.2.2),
     hb6, BR5.out.keeps hk6 N24.out.1, RW5.out.keep hk6 (fun g hg e => hg.ne BX5.out.tyd (by decide) e), K5.out.step hk6 (fun i hi he => by have he2 : i = g4 := he; have := N24.out; omega),
     by rw [← I1.out.e1, HRL.out]; simp, by rw [← I1.out.e2, HRL.out], by rw [List.length_append, HAL.out]; rfl⟩
   clear hK K hHeld k5 z5 hk6 hb6 I1 HRL BX5 BR5 R5 K5 RW5
   go_wp2_with fail
   go_roundw
   case rel => exact ⟨k + 1, _, _, _, by go_num, hlt, I6.out⟩
   case measure => simp [RowKit.intOf]; omega
  ·have hkn : k = n := by omega
   subst hvf
   have HA : Hid ((readLvs n s1).1 = acc) := Lib.hid (by rw [← I1.out.e1, hkn, Nat.sub_self]; exact (List.append_nil _))
   have HT : Hid ((readLvs n s1).2 = t) := Lib.hid (by rw [← I1.out.e2, hkn, Nat.sub_self]; rfl)
   obtain ⟨y, t1, hy⟩ : ∃ p u, t.num 1 = (p, u) := ⟨_, _, rfl⟩
   have HY := Lib.hid hy
   clear hal hkn hy
   go_wp2_with fail
   refine (rbyte_eq I1.out.rd HY.out).mono ?_
   rintro e w3 ⟨rfl, hr3, hk3⟩
   have R3 := Lib.hid hr3
   have BX3 := Lib.hid (I1.out.bx.keeps hk3 (by have := N24.out; omega))
   have BR3 := Lib.hid (I1.out.br.keeps hk3 (by have := N24.out; omega))
   have RW3 := Lib.hid (I1.out.row.keep hk3 (fun g hg e => hg.ne I1.out.rd.tyd (by decide) e))
   have K3 := Lib.hid (I1.out.kp.trans hk3)
   clear hr3 hk3 I1
   by_cases hy1 : y = 1
   ·subst hy1
    obtain ⟨x, t2, hx⟩ : ∃ x u, readLv t1 = (x, u) := ⟨_, _, rfl⟩
    have HIMM : Hid (readIm acc t = (⟨acc, x, true⟩, true, t2)) := Lib.hid (by unfold readIm; rw [HY.out]; simp only [if_true, hx])
    have hgt := get_any R3.out
    rw [hx] at hgt
    unfold Lv.agg at hgt
    dsimp only at hgt
    have HGT := Lib.hid hgt
    clear hgt hx
    go_wp2_with fail
    refine HGT.out.mono ?_
    rintro e w4 ⟨rfl, hr4, hk4⟩
    have R4 := Lib.hid hr4
    have BX4 := Lib.hid (BX3.out.keeps hk4 (by have := N24.out; omega))
    have BR4 := Lib.hid (BR3.out.keeps hk4 (by have := N24.out; omega))
    have RW4 := Lib.hid (RW3.out.keep hk4 (fun g hg e => hg.ne R3.out.tyd (by decide) e))
    have K4 := Lib.hid (K3.out.trans hk4)
    clear hr4 hk4 R3 BX3 BR3 RW3 K3 HGT
    have z1 : w4.cell? ⟨g4, 1, none⟩ = some (.int .i64 0) := BX4.out.cell 1
    have z2 : w4.cell? ⟨g4, 2, none⟩ = some (.int .i64 0) := BX4.out.cell 2
    have z3 : w4.cell? ⟨g4, 3, none⟩ = some (.int .i64 0) := BX4.out.cell 3
    have z4 : w4.cell? ⟨g4, 4, none⟩ = some (.bool false) := BX4.out.cell 4
    have zf : ∀ o, w4.frozen? ⟨g4, o, none⟩ = false := fun o => BX4.out.frozen o
    have hk5 := (((keep1 w4 g4 1 (.int .i64 x.price)).trans (keep1 _ g4 2 (.int .i64 x.qty))).trans (keep1 _ g4 3 (.int .i64 x.count))).trans (keep1 _ g4 4 (.bool true))
    have hb5 := (((BX4.out.set_ 1 (.int .i64 x.price)).set_ 2 (.int .i64 x.qty)).set_ 3 (.int .i64 x.count)).set_ 4 (.bool true)
    simp only [List.setIfInBounds_toArray, List.set_cons_zero, List.set_cons_succ] at hb5
    have BX5 := Lib.hid hb5
    have BR5 := Lib.hid (BR4.out.keeps hk5 N24.out.1)
    have R5 := Lib.hid (R4.out.keep hk5 (by have := N24.out; omega) (fun b hb e => hb.ne BX4.out.tyd (by decide) e) (fun k hk => by have hk2 : k = g4 := hk; rw [hk2]; exact Nat.le_trans NW.out N24.out.2.2.2.2))
    have K5 := Lib.hid (K4.out.step hk5 (fun i hi he => by have he2 : i = g4 := he; have := N24.out; omega))
    have RW5 := Lib.hid (RW4.out.keep hk5 (fun g hg e => hg.ne BX4.out.tyd (by decide) e))
    clear hk5 hb5
    go_upto_region 9 with (fail)
    clear z1 z2 z3 z4 zf BX4 BR4 R4 K4 RW4
    generalize (((w4.setCell ⟨g4, 1, none⟩ (.int .i64 x.price)).setCell ⟨g4, 2, none⟩ (.int .i64 x.qty)).setCell ⟨g4, 3, none⟩ (.int .i64 x.count)).setCell ⟨g4, 4, none⟩ (.bool true) = w5 at *
    have x0 : w5.cell? ⟨g4, 0, none⟩ = some (.slice av acc.length cv) := BX5.out.cell 0
    have x1 : w5.cell? ⟨g4, 1, none⟩ = some (.int .i64 (x.price)) := BX5.out.cell 1
    have x2 : w5.cell? ⟨g4, 2, none⟩ = some (.int .i64 (x.qty)) := BX5.out.cell 2
    have x3 : w5.cell? ⟨g4, 3, none⟩ = some (.int .i64 (x.count)) := BX5.out.cell 3
    have x4 : w5.cell? ⟨g4, 4, none⟩ = some (.bool true) := BX5.out.cell 4
    have l0 : w5.cell? ⟨g2, 0, none⟩ = some (.slice none 0 0) := BR5.out.cell 0
    have l1 : w5.cell? ⟨g2, 1, none⟩ = some (.int .i64 0) := BR5.out.cell 1
    have l2 : w5.cell? ⟨g2, 2, none⟩ = some (.int .i64 0) := BR5.out.cell 2
    have l3 : w5.cell? ⟨g2, 3, none⟩ = some (.int .i64 0) := BR5.out.cell 3
    have l4 : w5.cell? ⟨g2, 4, none⟩ = some (.bool false) := BR5.out.cell 4
    have fz : ∀ o, w5.frozen? ⟨g2, o, none⟩ = false := fun o => BR5.out.frozen o
    have hkf := Keeps.fillN5 w5 g2 (.slice av acc.length cv) (.int .i64 (x.price)) (.int .i64 (x.qty)) (.int .i64 (x.count)) (.bool true)
    have GF := Lib.hid (BR5.out.fillN5 (.slice av acc.length cv) (.int .i64 (x.price)) (.int .i64 (x.qty)) (.int .i64 (x.count)) (.bool true))
    have RF := Lib.hid (R5.out.keep hkf (by have := N24.out; omega) (fun b hb e => hb.ne BR5.out.tyd (by decide) e) (fun k hk => by have hk2 : k = g2 := hk; rw [hk2]; exact Nat.le_trans NW.out N24.out.2.2.2.1))
    have KF : Hid (Keeps (fun g => g = pr) w (((((w5.setCell ⟨g2, 0, none⟩ (.slice av acc.length cv)).setCell ⟨g2, 1, none⟩ (.int .i64 (x.price))).setCell ⟨g2, 2, none⟩ (.int .i64 (x.qty))).setCell ⟨g2, 3, none⟩ (.int .i64 (x.count))).setCell ⟨g2, 4, none⟩ (.bool true))) := Lib.hid (K5.out.step hkf (fun i hi he => by have he2 : i = g2 := he; have := N24.out; omega))
    have RWF := Lib.hid (RW5.out.keep hkf (fun g hg e => hg.ne BR5.out.tyd (by decide) e))
    clear hkf
    go_wp2_with fail
    clear x0 x1 x2 x3 x4 l0 l1 l2 l3 l4 fz
    generalize (((((w5.setCell ⟨g2, 0, none⟩ (.slice av acc.length cv)).setCell ⟨g2, 1, none⟩ (.int .i64 (x.price))).setCell ⟨g2, 2, none⟩ (.int .i64 (x.qty))).setCell ⟨g2, 3, none⟩ (.int .i64 (x.count))).setCell ⟨g2, 4, none⟩ (.bool true)) = wf at *
    have f0 : wf.cell? ⟨g2, 0, none⟩ = some (.slice av acc.length cv) := GF.out.cell 0
    have f1 : wf.cell? ⟨g2, 1, none⟩ = some (.int .i64 (x.price)) := GF.out.cell 1
    have f2 : wf.cell? ⟨g2, 2, none⟩ = some (.int .i64 (x.qty)) := GF.out.cell 2
    have f3 : wf.cell? ⟨g2, 3, none⟩ = some (.int .i64 (x.count)) := GF.out.cell 3
    have f4 : wf.cell? ⟨g2, 4, none⟩ = some (.bool true) := GF.out.cell 4
    refine bodyPost_ret (v := .tuple #[.agg #[.slice av acc.length cv, .int .i64 (x.price), .int .i64 (x.qty), .int .i64 (x.count), .bool true], .bool (true)]) (by simp [results, Try.results66, go_sem, f0, f1, f2, f3, f4]) rfl ⟨⟨av, acc.length, cv, x, true⟩, ?_, ?_, ?_, KF.out⟩
    ·rw [HA.out, HT.out, HIMM.out]; try rfl
    ·rw [HA.out, HT.out, HIMM.out]; exact ⟨rfl, RWF.out, rfl, rfl⟩
    ·rw [HA.out, HT.out, HIMM.out]; exact RF.out
   ·have hyb : (y == 1) = false := by rw [beq_eq_false_iff_ne]; exact hy1
    have HIMM : Hid (readIm acc t = (⟨acc, zeroLv, false⟩, decide (y ≤ 1), t1)) := Lib.hid (by unfold readIm; rw [HY.out]; exact if_neg hy1)
    clear hy1
    have x0 : w3.cell? ⟨g4, 0, none⟩ = some (.slice av acc.length cv) := BX3.out.cell 0
    have x1 : w3.cell? ⟨g4, 1, none⟩ = some (.int .i64 (0)) := BX3.out.cell 1
    have x2 : w3.cell? ⟨g4, 2, none⟩ = some (.int .i64 (0)) := BX3.out.cell 2
    have x3 : w3.cell? ⟨g4, 3, none⟩ = some (.int .i64 (0)) := BX3.out.cell 3
    have x4 : w3.cell? ⟨g4, 4, none⟩ = some (.bool false) := BX3.out.cell 4
    have l0 : w3.cell? ⟨g2, 0, none⟩ = some (.slice none 0 0) := BR3.out.cell 0
    have l1 : w3.cell? ⟨g2, 1, none⟩ = some (.int .i64 0) := BR3.out.cell 1
    have l2 : w3.cell? ⟨g2, 2, none⟩ = some (.int .i64 0) := BR3.out.cell 2
    have l3 : w3.cell? ⟨g2, 3, none⟩ = some (.int .i64 0) := BR3.out.cell 3
    have l4 : w3.cell? ⟨g2, 4, none⟩ = some (.bool false) := BR3.out.cell 4
    have fz : ∀ o, w3.frozen? ⟨g2, o, none⟩ = false := fun o => BR3.out.frozen o
    have hkf := Keeps.fillN5 w3 g2 (.slice av acc.length cv) (.int .i64 (0)) (.int .i64 (0)) (.int .i64 (0)) (.bool false)
    have GF := Lib.hid (BR3.out.fillN5 (.slice av acc.length cv) (.int .i64 (0)) (.int .i64 (0)) (.int .i64 (0)) (.bool false))
    have RF := Lib.hid (R3.out.keep hkf (by have := N24.out; omega) (fun b hb e => hb.ne BR3.out.tyd (by decide) e) (fun k hk => by have hk2 : k = g2 := hk; rw [hk2]; exact Nat.le_trans NW.out N24.out.2.2.2.1))
    have KF : Hid (Keeps (fun g => g = pr) w (((((w3.setCell ⟨g2, 0, none⟩ (.slice av acc.length cv)).setCell ⟨g2, 1, none⟩ (.int .i64 (0))).setCell ⟨g2, 2, none⟩ (.int .i64 (0))).setCell ⟨g2, 3, none⟩ (.int .i64 (0))).setCell ⟨g2, 4, none⟩ (.bool false))) := Lib.hid (K3.out.step hkf (fun i hi he => by have he2 : i = g2 := he; have := N24.out; omega))
    have RWF := Lib.hid (RW3.out.keep hkf (fun g hg e => hg.ne BR3.out.tyd (by decide) e))
    clear hkf
    go_wp2_with fail
    clear x0 x1 x2 x3 x4 l0 l1 l2 l3 l4 fz
    generalize (((((w3.setCell ⟨g2, 0, none⟩ (.slice av acc.length cv)).setCell ⟨g2, 1, none⟩ (.int .i64 (0))).setCell ⟨g2, 2, none⟩ (.int .i64 (0))).setCell ⟨g2, 3, none⟩ (.int .i64 (0))).setCell ⟨g2, 4, none⟩ (.bool false)) = wf at *
    have f0 : wf.cell? ⟨g2, 0, none⟩ = some (.slice av acc.length cv) := GF.out.cell 0
    have f1 : wf.cell? ⟨g2, 1, none⟩ = some (.int .i64 (0)) := GF.out.cell 1
    have f2 : wf.cell? ⟨g2, 2, none⟩ = some (.int .i64 (0)) := GF.out.cell 2
    have f3 : wf.cell? ⟨g2, 3, none⟩ = some (.int .i64 (0)) := GF.out.cell 3
    have f4 : wf.cell? ⟨g2, 4, none⟩ = some (.bool false) := GF.out.cell 4
    refine bodyPost_ret (v := .tuple #[.agg #[.slice av acc.length cv, .int .i64 (0), .int .i64 (0), .int .i64 (0), .bool false], .bool (decide (y ≤ 1))]) (by simp [results, Try.results66, go_sem, f0, f1, f2, f3, f4]) rfl ⟨⟨av, acc.length, cv, zeroLv, false⟩, ?_, ?_, ?_, KF.out⟩
    ·rw [HA.out, HT.out, HIMM.out]; try rfl
    ·rw [HA.out, HT.out, HIMM.out]; exact ⟨rfl, RWF.out, rfl, rfl⟩
    ·rw [HA.out, HT.out, HIMM.out]; exact RF.out
end
end Go.Proofs.Ytmaijkoopjocdaa

/- The walk of snap.right. -/
namespace Go.Proofs.Ytmaijkoopjocdaa
open Go.RowKit Go.Lib

def rightF (side : Int) (prev : Option Int) : List Lv → Bool
 | [] => true
 | x :: t => decide (1 ≤ x.qty ∧ 1 ≤ x.count) && (match prev with | none => true | some p => betterP side p x.price) && rightF side (some x.price) t
theorem rightL_F (side : Int) : ∀ (x : Lv) (t : List Lv), rightL side (x :: t) = (decide (1 ≤ x.qty ∧ 1 ≤ x.count) && rightF side (some x.price) t)
 | x, [] => by simp [rightL, rightF]
 | x, y :: t => by
  show (decide (1 ≤ x.qty ∧ 1 ≤ x.count) && betterP side x.price y.price && rightL side (y :: t)) = _
  rw [rightL_F side y t]
  show _ = (decide (1 ≤ x.qty ∧ 1 ≤ x.count) && (decide (1 ≤ y.qty ∧ 1 ≤ y.count) && betterP side x.price y.price && rightF side (some y.price) t))
  cases decide (1 ≤ x.qty ∧ 1 ≤ x.count) <;> cases decide (1 ≤ y.qty ∧ 1 ≤ y.count) <;> cases betterP side x.price y.price <;> rfl
theorem rightL_eq (side : Int) : ∀ (L : List Lv), rightL side L = rightF side none L
 | [] => rfl
 | x :: t => by
  rw [rightL_F]
  show _ = (decide (1 ≤ x.qty ∧ 1 ≤ x.count) && true && rightF side (some x.price) t)
  rw [Bool.and_true]
def prevP (L : List Lv) (k : Nat) : Option Int := if k = 0 then none else (L[k - 1]?).map Lv.price
theorem rightF_step {side : Int} {L : List Lv} {k : Nat} {x : Lv} (hx : L[k]? = some x) : rightF side (prevP L k) (L.drop k) = (decide (1 ≤ x.qty ∧ 1 ≤ x.count) && (match prevP L k with | none => true | some p => betterP side p x.price) && rightF side (prevP L (k + 1)) (L.drop (k + 1))) := by
 obtain ⟨h1, h2⟩ := get_of hx
 rw [List.drop_eq_getElem_cons h1, h2]
 have e : prevP L (k + 1) = some x.price := by unfold prevP; rw [if_neg (by omega), Nat.add_sub_cancel, hx]; rfl
 rw [e]; rfl
section
variable {w w' : World}
set_option maxRecDepth 20000 in
set_option maxHeartbeats 16000000 in
theorem sright_any {B : Nat} {sh : Sh} {d : Sd} (h : ShO LVL w B sh d) (side : Int) (hl : d.lv.length ≤ 800000) :
  Calls Try.prog 87 #[.int .i64 side, .agg #[.slice sh.a sh.n sh.c, .int .i64 sh.im.price, .int .i64 sh.im.qty, .int .i64 sh.im.count, .bool sh.has]] w fun e w' => e = .returned (.bool (rightS side d)) ∧ Below w.heap.size w w' := by
 obtain ⟨L, ⟨ip, iq, ic⟩, hs⟩ := d
 obtain ⟨sa, sn, sc, ⟨jp, jq, jc⟩, js⟩ := sh
 obtain ⟨h1, h2, h3, h4⟩ := h
 dsimp only at h1 h2 h3 h4 hl ⊢
 injection h3 with e1 e2 e3
 subst h1; subst h4; subst e1; subst e2; subst e3
 have HV : Hid (rightS side ⟨L, ⟨jp, jq, jc⟩, js⟩ = (rightF side none L && decide (L.length ≤ 255) && (if js = true then decide (1 ≤ jq ∧ 1 ≤ jc) else decide ((⟨jp, jq, jc⟩ : Lv) = zeroLv)))) := Lib.hid (by unfold rightS; rw [rightL_eq])
 obtain ⟨bi, hbi⟩ : ∃ bi, (if js = true then decide (1 ≤ jq ∧ 1 ≤ jc) else decide ((⟨jp, jq, jc⟩ : Lv) = zeroLv)) = bi := ⟨_, rfl⟩
 rw [HV.out, hbi]
 have HBI := Lib.hid hbi
 clear hbi
 have hba := Below.allocN w (.cells #[.slice sa L.length sc, .int .i64 jp, .int .i64 jq, .int .i64 jc, .bool js] 94)
 have HG : Hid (Blk (w.alloc (.cells #[.slice sa L.length sc, .int .i64 jp, .int .i64 jq, .int .i64 jc, .bool js] 94)) w.heap.size 94 #[.slice sa L.length sc, .int .i64 jp, .int .i64 jq, .int .i64 jc, .bool js]) := Lib.hid (Blk.new _ _ _)
 have HB := Lib.hid hba
 have HR := Lib.hid (h2.below hba)
 clear hba h2 HV
 go_enter Try.func87, Try.ntmps87
 go_upto_region 1 with (fail)
 obtain ⟨g, hg⟩ : ∃ g, w.heap.size = g := ⟨_, rfl⟩
 rw [hg] at HG ⊢
 clear hg
 generalize w.alloc (.cells #[.slice sa L.length sc, .int .i64 jp, .int .i64 jq, .int .i64 jc, .bool js] 94) = w1 at *
 have c0 : w1.cell? ⟨g, 0, none⟩ = some (.slice sa L.length sc) := HG.out.cell 0
 go_wp2_with fail
 go_loopw [10] (fun i w' => ∃ k : Nat, i = .int .i64 k ∧ k ≤ L.length ∧ rightF side none L = rightF side (prevP L k) (L.drop k) ∧ Below w1.heap.size w1 w') (fun i _ => L.length - (RowKit.intOf i).toNat)
 case atStart => exact ⟨0, rfl, Nat.zero_le _, rfl, Below.refl _ _⟩
 case round =>
  clear c0
  obtain ⟨k, rfl, hk, hrf, hb⟩ := hrel
  obtain ⟨wz, rfl⟩ : ∃ wo : World, wo = wr := ⟨_, rfl⟩
  have HRF := Lib.hid hrf
  have HBZ := Lib.hid hb
  have HGZ := Lib.hid (HG.out.below hb)
  have HRZ := Lib.hid (HR.out.below hb)
  clear hrf hb
  by_cases hlt : k < L.length
  ·have hlt' : (k : Int) < (L.length : Int) := by omega
   obtain ⟨x, hx⟩ : ∃ x, L[k]? = some x := ⟨_, List.getElem?_eq_getElem hlt⟩
   have HST := Lib.hid (rightF_step (side := side) hx)
   obtain ⟨gb, cap, he, _, hcx⟩ := HRZ.out.at_ k x hx
   injection he with he1 _ he3
   subst he1
   subst he3
   obtain ⟨x0, x1, x2, _⟩ := lvl_at HRZ.out hx
   have HX := Lib.hid hx
   clear hcx hx
   obtain ⟨gx, hgx⟩ : ∃ gx, wz.heap.size = gx := ⟨_, rfl⟩
   go_upto_region 4 with (fail)
   have hb5 : Below wz.heap.size wz (wz.alloc (.cells #[.int .i64 x.price, .int .i64 x.qty, .int .i64 x.count] 92)) := Below.allocN _ _
   have hgx5 : Blk (wz.alloc (.cells #[.int .i64 x.price, .int .i64 x.qty, .int .i64 x.count] 92)) wz.heap.size 92 #[.int .i64 x.price, .int .i64 x.qty, .int .i64 x.count] := Blk.new _ _ _
   rw [hgx] at hgx5
   have HB5 : Hid (Below w.heap.size w (wz.alloc (.cells #[.int .i64 x.price, .int .i64 x.qty, .int .i64 x.count] 92))) := Lib.hid (HB.out.trans ((HBZ.out.trans (hb5.mono HBZ.out.size)).mono HB.out.size))
   have HBZ5 := Lib.hid (HBZ.out.trans (hb5.mono HBZ.out.size))
   have HG5 := Lib.hid (HGZ.out.below hb5)
   have HR5 := Lib.hid (HRZ.out.below hb5)
   have HGX := Lib.hid hgx5
   clear hb5 hgx5 hgx x0 x1 x2 HGZ HRZ HBZ
   generalize wz.alloc (.cells #[.int .i64 x.price, .int .i64 x.qty, .int .i64 x.count] 92) = w5 at *
   have x0 : w5.cell? ⟨gx, 0, none⟩ = some (.int .i64 x.price) := HGX.out.cell 0
   have x1 : w5.cell? ⟨gx, 1, none⟩ = some (.int .i64 x.qty) := HGX.out.cell 1
   have x2 : w5.cell? ⟨gx, 2, none⟩ = some (.int .i64 x.count) := HGX.out.cell 2
   have g0 : w5.cell? ⟨g, 0, none⟩ = some (.slice (some ⟨gb, 0, none⟩) L.length sc) := HG5.out.cell 0
   by_cases hq : x.qty < 1
   ·have hqd : decide (x.qty < 1) = true := decide_eq_true hq
    have HF : Hid (rightF side none L = false) := Lib.hid (by rw [HRF.out, HST.out, decide_eq_false (by omega : ¬ (1 ≤ x.qty ∧ 1 ≤ x.count)), Bool.false_and, Bool.false_and])
    clear hq
    go_quiet (fail)
    have hbq := HB5.out.trans ((Below.drewN_of w5 nq).mono HB5.out.size)
    go_wp2_with fail
    go_ret
    exact ⟨by rw [HF.out]; try rfl, hbq⟩
   ·have hqd : decide (x.qty < 1) = false := decide_eq_false hq
    by_cases hc : x.count < 1
    ·have hcd : decide (x.count < 1) = true := decide_eq_true hc
     have HF : Hid (rightF side none L = false) := Lib.hid (by rw [HRF.out, HST.out, decide_eq_false (by omega : ¬ (1 ≤ x.qty ∧ 1 ≤ x.count)), Bool.false_and, Bool.false_and])
     clear hq hc
     go_quiet (fail)
     have hbq := HB5.out.trans ((Below.drewN_of w5 nq).mono HB5.out.size)
     go_wp2_with fail
     go_ret
     exact ⟨by rw [HF.out]; try rfl, hbq⟩
    ·have hcd : decide (x.count < 1) = false := decide_eq_false hc
     have HOK : Hid (decide (1 ≤ x.qty ∧ 1 ≤ x.count) = true) := Lib.hid (decide_eq_true (by omega))
     clear hq hc
     by_cases hk0 : k = 0
     ·have hk0' : ¬ (0 : Int) < (k : Int) := by omega
      have HN : Hid (rightF side none L = rightF side (prevP L (k + 1)) (L.drop (k + 1))) := Lib.hid (by rw [HRF.out, HST.out, HOK.out, show prevP L k = none from if_pos hk0]; rfl)
      go_quiet (fail)
      have HBQ := Lib.hid (HBZ5.out.trans ((Below.drewN_of w5 nq).mono HBZ5.out.size))
      go_wp2_with fail
      go_roundw
      case rel => exact ⟨k + 1, by go_num, hlt, HN.out, HBQ.out⟩
      case measure => simp [RowKit.intOf]; omega
     ·have hk0' : (0 : Int) < (k : Int) := by omega
      have hkd : decide (0 < k) = true := decide_eq_true (by omega)
      obtain ⟨j, hj⟩ : ∃ j : Nat, k = j + 1 := ⟨k - 1, by omega⟩
      have y1 : IntKind.i64.wrap (j : Int) = (j : Int) := IntWalk.i64_in _ (by omega)
      have y3 : (0 : Int) ≤ (j : Int) := by omega
      have y2 : (k : Int) - 1 = (j : Int) := by omega
      have hjl : (j : Int) < (L.length : Int) := by omega
      obtain ⟨y, hy⟩ : ∃ y, L[j]? = some y := ⟨_, List.getElem?_eq_getElem (by omega)⟩
      obtain ⟨p0, _, _, _⟩ := lvl_at HR5.out hy
      have hpv : prevP L k = some y.price := by unfold prevP; rw [if_neg hk0, hj, Nat.add_sub_cancel, hy]; rfl
      have HST2 : Hid (rightF side none L = (betterP side y.price x.price && rightF side (prevP L (k + 1)) (L.drop (k + 1)))) := Lib.hid (by rw [HRF.out, HST.out, HOK.out, hpv]; rfl)
      have hS : w5.cell? ⟨gx, 0, none⟩ = some (.int .i64 x.price) ∧ w5.cell? ⟨gx, 1, none⟩ = some (.int .i64 x.qty) ∧ w5.cell? ⟨gx, 2, none⟩ = some (.int .i64 x.count) ∧ w5.cell? ⟨g, 0, none⟩ = some (.slice (some ⟨gb, 0, none⟩) L.length sc) ∧ w5.cell? ⟨gb, j * 3, none⟩ = some (.int .i64 y.price) := ⟨x0, x1, x2, g0, p0⟩
      have HBT := Lib.hid (better_any side y.price x.price w5.drew)
      obtain ⟨bt, hbt⟩ : ∃ bt, betterP side y.price x.price = bt := ⟨_, rfl⟩
      rw [hbt] at HBT HST2
      clear hj hy hpv hk0 x0 x1 x2 g0 p0 hbt HST HRF
      refine wp_region_E (S := fun w5 => w5.cell? ⟨gx, 0, none⟩ = some (.int .i64 x.price) ∧ w5.cell? ⟨gx, 1, none⟩ = some (.int .i64 x.qty) ∧ w5.cell? ⟨gx, 2, none⟩ = some (.int .i64 x.count) ∧ w5.cell? ⟨g, 0, none⟩ = some (.slice (some ⟨gb, 0, none⟩) L.length sc) ∧ w5.cell? ⟨gb, j * 3, none⟩ = some (.int .i64 y.price)) (by kernel_rfl) hS (fun hHeld => ?_)
      refine wpE_tk 0 (oi := ?o1) (v := ?v1) ?h1 (by kernel_rfl) ?q1 ?y1 (by assumption) ?_
      case h1 => (simp only [List.getElem?_toArray]; rfl)
      case q1 => exact fun _ _ _ h => h
      case y1 => exact Or.inl ⟨by rfl, by (intro w hSw; (try dsimp only at hSw); go_simp; try with_reducible rfl)⟩
      try simp only [Act.put, sA, sB, sC]
      refine wpE_tk 1 (oi := ?o2) (v := ?v2) ?h2 (by kernel_rfl) ?q2 ?y2 (by assumption) ?_
      case h2 => (simp only [List.getElem?_toArray]; rfl)
      case q2 => exact fun _ _ _ h => h
      case y2 => exact Or.inl ⟨by rfl, by (intro w hSw; (try dsimp only at hSw); go_simp; try with_reducible rfl)⟩
      try simp only [Act.put, sA, sB, sC]
      refine wpE_tk 2 (oi := ?o3) (v := ?v3) ?h3 (by kernel_rfl) ?q3 ?y3 (by assumption) ?_
      case h3 => (simp only [List.getElem?_toArray]; rfl)
      case q3 => exact fun _ _ _ h => h
      case y3 => exact Or.inl ⟨by rfl, by (intro w hSw; (try dsimp only at hSw); go_simp; try with_reducible rfl)⟩
      try simp only [Act.put, sA, sB, sC]
      refine wpE_tk 3 (oi := ?o4) (v := ?v4) ?h4 (by kernel_rfl) ?q4 ?y4 (by assumption) ?_
      case h4 => (simp only [List.getElem?_toArray]; rfl)
      case q4 => exact fun _ _ _ h => h
      case y4 => exact Or.inl ⟨by rfl, by (intro w hSw; (try dsimp only at hSw); go_simp; try with_reducible rfl)⟩
      try simp only [Act.put, sA, sB, sC]
      refine wpE_tk 4 (oi := ?o5) (v := ?v5) ?h5 (by kernel_rfl) ?q5 ?y5 (by assumption) ?_
      case h5 => (simp only [List.getElem?_toArray]; rfl)
      case q5 => exact fun _ _ _ h => h
      case y5 => exact Or.inl ⟨by rfl, by (intro w hSw; (try dsimp only at hSw); go_simp; try with_reducible rfl)⟩
      try simp only [Act.put, sA, sB, sC]
      refine wpE_tk 5 (oi := ?o6) (v := ?v6) ?h6 (by kernel_rfl) ?q6 ?y6 (by assumption) ?_
      case h6 => (simp only [List.getElem?_toArray]; rfl)
      case q6 => exact fun _ _ _ h => h
      case y6 => exact Or.inl ⟨by rfl, by (intro w hSw; (try dsimp only at hSw); go_simp; try with_reducible rfl)⟩
      try simp only [Act.put, sA, sB, sC]
      refine wpE_tk 6 (oi := ?o7) (v := ?v7) ?h7 (by kernel_rfl) ?q7 ?y7 (by assumption) ?_
      case h7 => (simp only [List.getElem?_toArray]; rfl)
      case q7 => exact fun _ _ _ h => h
      case y7 => exact Or.inl ⟨by rfl, by (intro w hSw; (try dsimp only at hSw); go_simp; try with_reducible rfl)⟩
      try simp only [Act.put, sA, sB, sC]
      refine wpE_tk 7 (oi := ?o8) (v := ?v8) ?h8 (by kernel_rfl) ?q8 ?y8 (by assumption) ?_
      case h8 => (simp only [List.getElem?_toArray]; rfl)
      case q8 => exact fun _ _ _ h => h
      case y8 => exact Or.inl ⟨by rfl, by (intro w hSw; (try dsimp only at hSw); go_simp; try with_reducible rfl)⟩
      try simp only [Act.put, sA, sB, sC]
      refine wpE_tk 8 (oi := ?o9) (v := ?v9) ?h9 (by kernel_rfl) ?q9 ?y9 (by assumption) ?_
      case h9 => (simp only [List.getElem?_toArray]; rfl)
      case q9 => exact fun _ _ _ h => h
      case y9 => exact Or.inl ⟨by rfl, by (intro w hSw; (try dsimp only at hSw); go_simp; try with_reducible rfl)⟩
      try simp only [Act.put, sA, sB, sC]
      refine wpE_tk 9 (oi := ?o10) (v := ?v10) ?h10 (by kernel_rfl) ?q10 ?y10 (by assumption) ?_
      case h10 => (simp only [List.getElem?_toArray]; rfl)
      case q10 => exact fun _ _ _ h => h
      case y10 => exact Or.inl ⟨by rfl, by (intro w hSw; (try dsimp only at hSw); go_simp; try with_reducible rfl)⟩
      try simp only [Act.put, sA, sB, sC]
      refine wpE_tk 10 (oi := ?o11) (v := ?v11) ?h11 (by kernel_rfl) ?q11 ?y11 (by assumption) ?_
      case h11 => (simp only [List.getElem?_toArray]; rfl)
      case q11 => exact fun _ _ _ h => h
      case y11 => exact Or.inl ⟨by rfl, by (intro w hSw; (try dsimp only at hSw); go_simp; try with_reducible rfl)⟩
      try simp only [Act.put, sA, sB, sC]
      refine wpE_tk 11 (oi := ?o12) (v := ?v12) ?h12 (by kernel_rfl) ?q12 ?y12 (by assumption) ?_
      case h12 => (simp only [List.getElem?_toArray]; rfl)
      case q12 => exact fun _ _ _ h => h
      case y12 => exact Or.inl ⟨by rfl, by (intro w hSw; (try dsimp only at hSw); go_simp; try with_reducible rfl)⟩
      try simp only [Act.put, sA, sB, sC]
      refine wpE_tk 12 (oi := ?o13) (v := ?v13) ?h13 (by kernel_rfl) ?q13 ?y13 (by assumption) ?_
      case h13 => (simp only [List.getElem?_toArray]; rfl)
      case q13 => exact fun _ _ _ h => h
      case y13 => exact Or.inl ⟨by rfl, by (intro w hSw; (try dsimp only at hSw); go_simp; try with_reducible rfl)⟩
      try simp only [Act.put, sA, sB, sC]
      refine wpE_tk 13 (oi := ?o14) (v := ?v14) ?h14 (by kernel_rfl) ?q14 ?y14 (by assumption) ?_
      case h14 => (simp only [List.getElem?_toArray]; rfl)
      case q14 => exact fun _ _ _ h => h
      case y14 => exact Or.inl ⟨by rfl, by (intro w hSw; (try dsimp only at hSw); go_simp; try with_reducible rfl)⟩
      try simp only [Act.put, sA, sB, sC]
      refine wpE_tk 14 (oi := ?o15) (v := ?v15) ?h15 (by kernel_rfl) ?q15 ?y15 (by assumption) ?_
      case h15 => (simp only [List.getElem?_toArray]; rfl)
      case q15 => exact fun _ _ _ h => h
      case y15 => exact Or.inl ⟨by rfl, by (intro w hSw; (try dsimp only at hSw); go_simp; try with_reducible rfl)⟩
      try simp only [Act.put, sA, sB, sC]
      refine wpE_tk 15 (oi := ?o16) (v := ?v16) ?h16 (by kernel_rfl) ?q16 ?y16 (by assumption) ?_
      case h16 => (simp only [List.getElem?_toArray]; rfl)
      case q16 => exact fun _ _ _ h => h
      case y16 => exact Or.inl ⟨by rfl, by (intro w hSw; (try dsimp only at hSw); go_simp; try with_reducible rfl)⟩
      try simp only [Act.put, sA, sB, sC]
      refine wpE_tk 16 (oi := ?o17) (v := ?v17) ?h17 (by kernel_rfl) ?q17 ?y17 (by assumption) ?_
      case h17 => (simp only [List.getElem?_toArray]; rfl)
      case q17 => exact fun _ _ _ h => h
      case y17 => exact Or.inl ⟨by rfl, by (intro w hSw; (try dsimp only at hSw); go_simp; try with_reducible rfl)⟩
      try simp only [Act.put, sA, sB, sC]
      refine wpE_tk 17 (oi := ?o18) (v := ?v18) ?h18 (by kernel_rfl) ?q18 ?y18 (by assumption) ?_
      case h18 => (simp only [List.getElem?_toArray]; rfl)
      case q18 => exact fun _ _ _ h => h
      case y18 => exact Or.inl ⟨by rfl, by (intro w hSw; (try dsimp only at hSw); go_simp; try with_reducible rfl)⟩
      try simp only [Act.put, sA, sB, sC]
      refine wpE_tk 18 (oi := ?o19) (v := ?v19) ?h19 (by kernel_rfl) ?q19 ?y19 (by assumption) ?_
      case h19 => (simp only [List.getElem?_toArray]; rfl)
      case q19 => exact fun _ _ _ h => h
      case y19 => exact Or.inl ⟨by rfl, by (intro w hSw; (try dsimp only at hSw); go_simp; try with_reducible rfl)⟩
      try simp only [Act.put, sA, sB, sC]
      refine wpE_tk 19 (oi := ?o20) (v := ?v20) ?h20 (by kernel_rfl) ?q20 ?y20 (by assumption) ?_
      case h20 => (simp only [List.getElem?_toArray]; rfl)
      case q20 => exact fun _ _ _ h => h
      case y20 => exact Or.inl ⟨by rfl, by (intro w hSw; (try dsimp only at hSw); go_simp; try with_reducible rfl)⟩
      try simp only [Act.put, sA, sB, sC]
      refine wpE_tk 20 (oi := ?o21) (v := ?v21) ?h21 (by kernel_rfl) ?q21 ?y21 (by assumption) ?_
      case h21 => (simp only [List.getElem?_toArray]; rfl)
      case q21 => exact fun _ _ _ h => h
      case y21 => exact Or.inl ⟨by rfl, by (intro w hSw; (try dsimp only at hSw); go_simp; try with_reducible rfl)⟩
      try simp only [Act.put, sA, sB, sC]
      refine wpE_tk 21 (oi := ?o22) (v := ?v22) ?h22 (by kernel_rfl) ?q22 ?y22 (by assumption) ?_
      case h22 => (simp only [List.getElem?_toArray]; rfl)
      case q22 => exact fun _ _ _ h => h
      case y22 => exact Or.inl ⟨by rfl, by (intro w hSw; (try dsimp only at hSw); go_simp; try with_reducible rfl)⟩
      try simp only [Act.put, sA, sB, sC]
      refine wpE_one (i := 22) (o := ?o25) ?ho25 (by kernel_rfl) (fun K hK => ?_)
      case ho25 => (simp only [List.getElem?_toArray]; rfl)
      go_simp
      refine HBT.out.mono ?_
      rintro e w6 ⟨rfl, rfl⟩
      refine hK.out _ _ hHeld (fun hHeld => ?_)
      clear hK K
      refine wpE_tk 23 (oi := ?o23) (v := ?v23) ?h23 (by kernel_rfl) ?q23 ?y23 (by assumption) ?_
      case h23 => (simp only [List.getElem?_toArray]; rfl)
      case q23 => exact fun _ _ _ h => h
      case y23 => exact Or.inl ⟨by rfl, by (intro w hSw; (try dsimp only at hSw); go_simp; try with_reducible rfl)⟩
      try simp only [Act.put, sA, sB, sC]
      refine wpE_tk 24 (oi := ?o24) (v := ?v24) ?h24 (by kernel_rfl) ?q24 ?y24 (by assumption) ?_
      case h24 => (simp only [List.getElem?_toArray]; rfl)
      case q24 => exact fun _ _ _ h => h
      case y24 => exact Or.inl ⟨by rfl, by (intro w hSw; (try dsimp only at hSw); go_simp; try with_reducible rfl)⟩
      try simp only [Act.put, sA, sB, sC]
      refine wpE_last (i := 25) (o := ?o26) ?ho26 (by kernel_rfl) (by kernel_rfl) (by kernel_rfl) (fun K hK => ?_)
      case ho26 => (simp only [List.getElem?_toArray]; rfl)
      go_simp
      refine hK.out _ _ ?_
      clear hK K hHeld hS
      have HBQ := Lib.hid (HBZ5.out.trans ((Below.drewN_of w5 1).mono HBZ5.out.size))
      have HBW := Lib.hid (HB5.out.trans ((Below.drewN_of w5 1).mono HB5.out.size))
      cases bt with
      | true =>
       have HN : Hid (rightF side none L = rightF side (prevP L (k + 1)) (L.drop (k + 1))) := Lib.hid (by rw [HST2.out, Bool.true_and])
       go_wp2_with fail
       go_roundw
       case rel => exact ⟨k + 1, by go_num, hlt, HN.out, HBQ.out⟩
       case measure => simp [RowKit.intOf]; omega
      | false =>
       have HF : Hid (rightF side none L = false) := Lib.hid (by rw [HST2.out, Bool.false_and])
       go_wp2_with fail
       go_ret
       exact ⟨by rw [HF.out]; try rfl, HBW.out⟩
  ·have hkl : k = L.length := by omega
   have HTR : Hid (rightF side none L = true) := Lib.hid (by rw [HRF.out, hkl, List.drop_length]; rfl)
   have HBF := Lib.hid (HB.out.trans (HBZ.out.mono HB.out.size))
   have g0 : wz.cell? ⟨g, 0, none⟩ = some (.slice sa L.length sc) := HGZ.out.cell 0
   have g1 : wz.cell? ⟨g, 1, none⟩ = some (.int .i64 jp) := HGZ.out.cell 1
   have g2 : wz.cell? ⟨g, 2, none⟩ = some (.int .i64 jq) := HGZ.out.cell 2
   have g3 : wz.cell? ⟨g, 3, none⟩ = some (.int .i64 jc) := HGZ.out.cell 3
   have g4 : wz.cell? ⟨g, 4, none⟩ = some (.bool js) := HGZ.out.cell 4
   obtain ⟨b1, hb1⟩ : ∃ b, decide (L.length ≤ 255) = b := ⟨_, rfl⟩
   have hb1' : decide ((L.length : Int) ≤ 255) = b1 := by rw [← hb1]; exact decide_eq_decide.2 (by omega)
   have HB1 := Lib.hid hb1
   clear hkl hb1 HRF HGZ HRZ HBZ
   cases js with
   | true =>
    have hbi := HBI.out
    rw [if_pos rfl] at hbi
    clear g1
    by_cases hq : 1 ≤ jq
    ·have hqd : decide (1 ≤ jq) = true := decide_eq_true hq
     obtain ⟨b2, hb2⟩ : ∃ b, decide (1 ≤ jc) = b := ⟨_, rfl⟩
     have HB2 : Hid (bi = b2) := Lib.hid (by rw [← hbi, ← hb2]; exact decide_eq_decide.2 (by omega))
     clear hbi hq
     cases b1 with
     | true =>
      go_wp2_with fail
      go_ret
      exact ⟨by first | (rw [HTR.out, HB1.out, HB2.out, hb2]; rfl) | simp [HTR.out, HB1.out, HB2.out], HBF.out⟩
     | false =>
      go_wp2_with fail
      go_ret
      exact ⟨by first | (rw [HTR.out, HB1.out, HB2.out]; rfl) | simp [HTR.out, HB1.out, HB2.out], HBF.out⟩
    ·have hqd : decide (1 ≤ jq) = false := decide_eq_false hq
     have HB2 : Hid (bi = false) := Lib.hid (by rw [← hbi]; exact decide_eq_false (by omega))
     clear hbi hq
     cases b1 with
     | true =>
      go_wp2_with fail
      go_ret
      exact ⟨by first | (rw [HTR.out, HB1.out, HB2.out]; rfl) | simp [HTR.out, HB1.out, HB2.out], HBF.out⟩
     | false =>
      go_wp2_with fail
      go_ret
      exact ⟨by first | (rw [HTR.out, HB1.out, HB2.out]; rfl) | simp [HTR.out, HB1.out, HB2.out], HBF.out⟩
   | false =>
    have hbi := HBI.out
    rw [if_neg (by simp)] at hbi
    cases b1 with
    | false =>
     clear hbi
     go_wp2_with fail
     go_ret
     exact ⟨by first | (rw [HTR.out, HB1.out]; rfl) | simp [HTR.out, HB1.out], HBF.out⟩
    | true =>
     have HBI2 := Lib.hid hbi
     clear hbi
     go_wp2_with fail
     all_goals go_ret
     all_goals refine ⟨?_, HBF.out⟩
     all_goals first
      | (rw [HTR.out, HB1.out, ← HBI2.out]; simp_all [zeroLv]; done)
      | (simp [HTR.out, HB1.out, ← HBI2.out, zeroLv]; done)
      | (simp [HTR.out, HB1.out, ← HBI2.out, zeroLv, *]; done)
end
end Go.Proofs.Ytmaijkoopjocdaa
