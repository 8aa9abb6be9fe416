/- The walk of cornhilllaw21.ViewerNumbers. -/
import Derived.Test.YtmaijkoopjocdaaGV
import Derived.Test.YtmaijkoopjocdaaRSEnc
import Derived.Test.YtmaijkoopjocdaaGO
import Derived.Deep.DeepCutAuto
namespace Go.Proofs.Ytmaijkoopjocdaa
open Go.RowKit Go.Lib

def lst1 : List Int := [0, -1, 1, 1, 3, 3, 5, 2, 4, 4611686018427387904, -9223372036854775808, 9223372036854775807, 6]
def lst2 : List Int := [-1, 5, 6, 4611686018427387903, 4611686018427387904]
def lst3 : List Nat := [6, 5, 0]
theorem lst1_ok : ∀ q ∈ lst1, -9223372036854775808 ≤ q ∧ q ≤ 9223372036854775807 := by decide
theorem lst2_ok : ∀ q ∈ lst2, -9223372036854775808 ≤ q ∧ q ≤ 9223372036854775807 := by decide
theorem lst3_ok : ∀ n ∈ lst3, n ≤ 6 := by decide
theorem right0 : ∀ n, n ≤ 6 → rightV (List.replicate n (zeroSd, zeroSd)) = true := by decide
def goodC : Array Value := #[.int .i64 0, .int .i64 1, .int .i64 2, .int .i64 5, .int .i64 3, .int .i64 1, .bool false]
def zeroP : Prod := ⟨⟨#[]⟩, none, [], 0, 0, 0, 0, 0, 0, 0, 0, 0, none, [], 0⟩
theorem zeroP_check : checkP zeroP = 12 := by
 unfold checkP
 rw [if_pos (by decide +kernel)]
theorem zeroP_pv (w : World) : PV w zeroP := ⟨by decide, fun j x hj => by simp [zeroP] at hj, fun j x hj => by simp [zeroP] at hj, by decide, by decide, by unfold i64ok zeroP; decide, by unfold i64ok zeroP; decide, by unfold i64ok zeroP; decide, by unfold i64ok zeroP; decide⟩
structure NI (W w : World) (pv pw B g5 gl : Nat) (L : List Int) (c : Nat) : Prop where
 two : ∃ hv hw s t, TwoL W w pv pw 6 hv hw s t c B
 gd : Blk w g5 34 goodC
 g5B : g5 < B
 l1 : Blk w gl 2 (L.map (Value.int .i64)).toArray
theorem NI.below {W w w1 : World} {pv pw B g5 gl c : Nat} {L : List Int} (h : NI W w pv pw B g5 gl L c) (hb : Below w.heap.size w w1) : NI W w1 pv pw B g5 gl L c := by
 obtain ⟨⟨hv, hw, s, t, h1⟩, h2, h3, h4⟩ := h
 exact ⟨⟨hv, hw, s, t, h1.below hb⟩, h2.below hb, h3, h4.below hb⟩
theorem NI.more {W w : World} {pv pw B g5 gl c d : Nat} {L : List Int} (h : NI W w pv pw B g5 gl L c) (hd : c ≤ d) : NI W w pv pw B g5 gl L d := by
 obtain ⟨⟨hv, hw, s, t, h1⟩, h2, h3, h4⟩ := h
 exact ⟨⟨hv, hw, s, t, h1.more hd⟩, h2, h3, h4⟩
theorem takes_len {n c : Nat} {s : LSt} (h : SOk n c s) : LenV s.V (255 + c) := by
 obtain ⟨j, h1, h2⟩ := h.sz
 exact h1.more (by omega)
theorem tmod50 (q : Int) : -50 < q.tmod 50 ∧ q.tmod 50 < 50 := by
 have h1 := Int.tmod_lt_of_pos q (show (0 : Int) < 50 by decide)
 have h2 := Int.lt_tmod_of_pos q (show (0 : Int) < 50 by decide)
 omega
set_option maxRecDepth 20000 in
set_option maxHeartbeats 32000000 in
theorem vnum_any (w : World) : Calls Try.prog 3 #[] w fun e w' => e = .returned (.bool true) ∧ Below w.heap.size w w' := by
 go_enter Try.func3, Try.ntmps3
 go_wp2_with fail
 refine (three_any 1 w).mono ?_
 rintro e w1 ⟨a, b, rfl, hp, hb⟩
 have hz : checkP (threeP 1 a b) = 0 := three_check 1 (by decide) a b
 have hcn : countN (threeP 1 a b).months.length = 6 := by show countN 3 = 6; decide
 have hcp : (countP (threeP 1 a b)).toNat = 6 := by unfold countP; rw [if_pos hz, hcn]; rfl
 have hba := Below.allocN w1 (.cells (threeP 1 a b).cells 25)
 have HN := Lib.hid (vnew_any (threeP 1 a b) _ (hp.below hba) hz)
 have HRN : Hid (∀ wx, Below (w1.alloc (.cells (threeP 1 a b).cells 25)).heap.size (w1.alloc (.cells (threeP 1 a b).cells 25)) wx → Calls Try.prog 6 #[(threeP 1 a b).agg] wx fun e w' => ∃ pw, e = .returned (.pointer (some ⟨pw, 0, none⟩)) ∧ RW wx w' pw (.slice none 0 0) (newLs 6)) := Lib.hid (fun wx hwx => by
  have := rnew_any (threeP 1 a b) wx ((hp.below hba).below hwx)
  rw [hcp] at this
  exact this)
 have HPB : Hid (Blk (w1.alloc (.cells (threeP 1 a b).cells 25)) w1.heap.size 25 (threeP 1 a b).cells) := Lib.hid (Blk.new _ _ _)
 rw [hcn] at HN
 have HB1 := Lib.hid (hb.trans (hba.mono hb.size))
 unfold Prod.agg Prod.cells threeP at *
 dsimp only at *
 clear hp hz hcn hba hb hcp
 go_wp2_with fail
 refine HN.out.mono ?_
 rintro e w2 ⟨pv, rfl, hv2⟩
 have V2 := Lib.hid hv2
 have HRN2 := Lib.hid (HRN.out w2 hv2.bel)
 have HPB2 := Lib.hid (HPB.out.below hv2.bel)
 clear HN hv2 HRN HPB
 generalize w1.alloc _ = wW at *
 obtain ⟨gp, hgp⟩ : ∃ g, w1.heap.size = g := ⟨_, rfl⟩
 rw [hgp] at HPB2 ⊢
 clear hgp
 have b0 : w2.cell? ⟨gp, 0, none⟩ = some (.string ⟨#[67, 76]⟩) := HPB2.out.cell 0
 have b1 : w2.cell? ⟨gp, 1, none⟩ = some (.slice (some ⟨a, 0, none⟩) 3 3) := HPB2.out.cell 1
 have b2 : w2.cell? ⟨gp, 2, none⟩ = some (.int .i64 5) := HPB2.out.cell 2
 have b3 : w2.cell? ⟨gp, 3, none⟩ = some (.int .i64 0) := HPB2.out.cell 3
 have b4 : w2.cell? ⟨gp, 4, none⟩ = some (.int .i64 1000) := HPB2.out.cell 4
 have b5 : w2.cell? ⟨gp, 5, none⟩ = some (.int .i64 200) := HPB2.out.cell 5
 have b6 : w2.cell? ⟨gp, 6, none⟩ = some (.int .i64 1) := HPB2.out.cell 6
 have b7 : w2.cell? ⟨gp, 7, none⟩ = some (.int .i64 4) := HPB2.out.cell 7
 have b8 : w2.cell? ⟨gp, 8, none⟩ = some (.int .i64 2) := HPB2.out.cell 8
 have b9 : w2.cell? ⟨gp, 9, none⟩ = some (.int .i64 40) := HPB2.out.cell 9
 have b10 : w2.cell? ⟨gp, 10, none⟩ = some (.slice (some ⟨b, 0, none⟩) 3 3) := HPB2.out.cell 10
 go_wp2_with fail
 refine HRN2.out.mono ?_
 rintro e w3 ⟨pw, rfl, hr3⟩
 have T3 : Hid (TwoL wW w3 pv pw 6 (.slice none 0 0) (.slice none 0 0) (newLs 6) (newLs 6) 0 0) := Lib.hid
  ⟨V2.out.below hr3.bel, hr3.rebase V2.out.bel, fun g hg => (by cases hg), new_rel 6, new_ok 6, fun g hg => (by cases hg), fun g hg => (by cases hg), Nat.zero_le _⟩
 clear HRN2 HPB2 hr3 V2 b0 b1 b2 b3 b4 b5 b6 b7 b8 b9 b10
 have hba := Below.allocN w3 (.cells goodC 34)
 have T4 := Lib.hid (T3.out.below hba)
 have HG4 : Hid (Blk (w3.alloc (.cells goodC 34)) w3.heap.size 34 goodC) := Lib.hid (Blk.new _ _ _)
 unfold goodC at T4 HG4
 clear hba T3
 go_upto_region 7 with (fail)
 obtain ⟨g5, hg5⟩ : ∃ g, w3.heap.size = g := ⟨_, rfl⟩
 rw [hg5] at HG4 ⊢
 clear hg5
 generalize w3.alloc _ = w4 at *
 have hbl := Below.allocN w4 (.cells #[.int .i64 0, .int .i64 (-1), .int .i64 1, .int .i64 1, .int .i64 3, .int .i64 3, .int .i64 5, .int .i64 2, .int .i64 4, .int .i64 4611686018427387904, .int .i64 (-9223372036854775808), .int .i64 9223372036854775807, .int .i64 6] 2)
 have hsz : ∀ o, (w4.alloc o).heap.size = w4.heap.size + 1 := fun o => by simp
 have hbk : Blk (w4.alloc (.cells #[.int .i64 0, .int .i64 (-1), .int .i64 1, .int .i64 1, .int .i64 3, .int .i64 3, .int .i64 5, .int .i64 2, .int .i64 4, .int .i64 4611686018427387904, .int .i64 (-9223372036854775808), .int .i64 9223372036854775807, .int .i64 6] 2)) w4.heap.size 2 (lst1.map (Value.int .i64)).toArray := Blk.new _ _ _
 have N0 : Hid (NI wW (w4.alloc (.cells #[.int .i64 0, .int .i64 (-1), .int .i64 1, .int .i64 1, .int .i64 3, .int .i64 3, .int .i64 5, .int .i64 2, .int .i64 4, .int .i64 4611686018427387904, .int .i64 (-9223372036854775808), .int .i64 9223372036854775807, .int .i64 6] 2)) pv pw (w4.heap.size + 1) g5 w4.heap.size lst1 0) := Lib.hid
  ⟨⟨_, _, _, _, ⟨T4.out.v.below hbl, T4.out.r.below hbl, T4.out.ap, T4.out.rel, T4.out.ok, fun g hg => (by cases hg), fun g hg => (by cases hg), Nat.le_of_eq (hsz _).symm⟩⟩, HG4.out.below hbl, by have := HG4.out.lt; omega, hbk⟩
 clear hbl T4 HG4 hbk hsz
 go_upto_region 8 with (fail)
 obtain ⟨gl, hgl⟩ : ∃ g, w4.heap.size = g := ⟨_, rfl⟩
 obtain ⟨B, hBB⟩ : ∃ B, w4.heap.size + 1 = B := ⟨_, rfl⟩
 rw [hBB, hgl] at N0
 rw [hgl]
 clear hgl hBB
 generalize w4.alloc _ = w5 at *
 go_loopw [38] (fun i w' => ∃ k : Nat, i = .int .i64 k ∧ k ≤ 13 ∧ NI wW w' pv pw B g5 gl lst1 (8 * k)) (fun i _ => 13 - (RowKit.intOf i).toNat)
 case atStart => exact ⟨0, rfl, by decide, N0.out⟩
 case round =>
  clear N0
  obtain ⟨k, rfl, hk, hN⟩ := hrel
  obtain ⟨wz, rfl⟩ : ∃ wo : World, wo = wr := ⟨_, rfl⟩
  have N1 := Lib.hid hN
  clear hN
  by_cases hlt : k < 13
  ·have hlt' : (k : Int) < 13 := by omega
   obtain ⟨q, hq⟩ : ∃ q, lst1[k]? = some q := ⟨_, List.getElem?_eq_getElem (by show k < 13; exact hlt)⟩
   have hqr := lst1_ok q (List.mem_of_getElem? hq)
   have HQR := Lib.hid hqr
   have e0 : wz.cell? ⟨gl, k, none⟩ = some (.int .i64 q) := by rw [N1.out.l1.cell k, List.getElem?_toArray, List.getElem?_map, hq]; rfl
   have hbl := Below.allocN wz (.cells #[.int .i64 0, .int .i64 1, .int .i64 2, .int .i64 3] 3)
   have H42 : Hid (Blk (wz.alloc (.cells #[.int .i64 0, .int .i64 1, .int .i64 2, .int .i64 3] 3)) wz.heap.size 3 #[.int .i64 0, .int .i64 1, .int .i64 2, .int .i64 3]) := Lib.hid (Blk.new _ _ _)
   have N2 := Lib.hid (N1.out.below hbl)
   clear hq hqr hbl
   go_upto_region 11 with (fail)
   obtain ⟨g42, hg42⟩ : ∃ g, wz.heap.size = g := ⟨_, rfl⟩
   rw [hg42] at H42 ⊢
   clear hg42 e0 N1
   generalize wz.alloc _ = w6 at *
   go_loopw [44] (fun i w' => ∃ j : Nat, i = .int .i64 j ∧ (j = 0 ∨ j = 1 ∨ j = 2 ∨ j = 3 ∨ j = 4) ∧ NI wW w' pv pw B g5 gl lst1 (8 * k + 2 * j) ∧ Blk w' g42 3 #[.int .i64 0, .int .i64 1, .int .i64 2, .int .i64 3]) (fun i _ => 4 - (RowKit.intOf i).toNat)
   case atStart => exact ⟨0, rfl, .inl rfl, N2.out, H42.out⟩
   case round =>
    clear N2 H42
    obtain ⟨j, rfl, hj, hN, h42⟩ := hrel
    obtain ⟨wy, rfl⟩ : ∃ wo : World, wo = wr := ⟨_, rfl⟩
    have N3 := Lib.hid hN
    have H42 := Lib.hid h42
    clear hN h42
    have f0 : wy.cell? ⟨g5, 0, none⟩ = some (.int .i64 0) := N3.out.gd.cell 0
    have f1 : wy.cell? ⟨g5, 1, none⟩ = some (.int .i64 1) := N3.out.gd.cell 1
    have f2 : wy.cell? ⟨g5, 2, none⟩ = some (.int .i64 2) := N3.out.gd.cell 2
    have f3 : wy.cell? ⟨g5, 3, none⟩ = some (.int .i64 5) := N3.out.gd.cell 3
    have f4 : wy.cell? ⟨g5, 4, none⟩ = some (.int .i64 3) := N3.out.gd.cell 4
    have f5 : wy.cell? ⟨g5, 5, none⟩ = some (.int .i64 1) := N3.out.gd.cell 5
    have f6 : wy.cell? ⟨g5, 6, none⟩ = some (.bool false) := N3.out.gd.cell 6
    rcases hj with rfl | rfl | rfl | rfl | rfl
    ·have e0 : wy.cell? ⟨g42, 0, none⟩ = some (.int .i64 0) := H42.out.cell 0
     go_upto_region 22 with (fail)
     have hba := Below.allocN wy (.cells #[.int .i64 q, .int .i64 1, .int .i64 2, .int .i64 5, .int .i64 3, .int .i64 1, .bool false] 34)
     have N4 := Lib.hid (N3.out.below hba)
     have H44 := Lib.hid (H42.out.below hba)
     have G10 : Hid (Blk (wy.alloc (.cells #[.int .i64 q, .int .i64 1, .int .i64 2, .int .i64 5, .int .i64 3, .int .i64 1, .bool false] 34)) wy.heap.size 34 #[.int .i64 q, .int .i64 1, .int .i64 2, .int .i64 5, .int .i64 3, .int .i64 1, .bool false]) := Lib.hid (Blk.new _ _ _)
     obtain ⟨g10, hg10⟩ : ∃ g, wy.heap.size = g := ⟨_, rfl⟩
     rw [hg10] at G10 ⊢
     clear hg10 hba f0 f1 f2 f3 f4 f5 f6 e0 N3 H42
     generalize wy.alloc _ = w7 at *
     have m0 : w7.cell? ⟨g10, 0, none⟩ = some (.int .i64 q) := G10.out.cell 0
     have m1 : w7.cell? ⟨g10, 1, none⟩ = some (.int .i64 1) := G10.out.cell 1
     have m2 : w7.cell? ⟨g10, 2, none⟩ = some (.int .i64 2) := G10.out.cell 2
     have m3 : w7.cell? ⟨g10, 3, none⟩ = some (.int .i64 5) := G10.out.cell 3
     have m4 : w7.cell? ⟨g10, 4, none⟩ = some (.int .i64 3) := G10.out.cell 4
     have m5 : w7.cell? ⟨g10, 5, none⟩ = some (.int .i64 1) := G10.out.cell 5
     have m6 : w7.cell? ⟨g10, 6, none⟩ = some (.bool false) := G10.out.cell 6
     have hen := renc_any ⟨q, 1, 2, 5, 3, 1, false⟩ w7 (⟨by decide, by decide⟩ : (0 : Int) ≤ 1 ∧ (1 : Int) ≤ 255) (.inr rfl)
     unfold Mg.agg at hen
     have HEN := Lib.hid hen
     clear hen
     go_wp2_with fail
     refine HEN.out.mono ?_
     rintro e w8 ⟨vb, rfl, hrb, hb8⟩
     obtain ⟨b, hbe⟩ : ∃ b, encM ⟨q, 1, 2, 5, 3, 1, false⟩ = b := ⟨_, rfl⟩
     have hl35 : b.length = 35 := by rw [← hbe]; exact encM_len _
     have HBO : Hid (∀ z ∈ b, isByte z) := Lib.hid (by rw [← hbe]; exact encM_byte _)
     rw [hbe] at hrb
     obtain ⟨gb, cap, hvb, hcap⟩ := rowB hrb (by rw [hl35]; decide)
     have HBL : Hid (b.length ≤ 900000) := Lib.hid (by rw [hl35]; decide)
     have HL2 : Hid (2 ≤ b.length) := Lib.hid (by rw [hl35]; decide)
     have N5 := Lib.hid (N4.out.below hb8)
     have H45 := Lib.hid (H44.out.below hb8)
     obtain ⟨hv, hw, s, t, hT⟩ := N5.out.two
     have GD := Lib.hid N5.out.gd
     have L1 := Lib.hid N5.out.l1
     have T5 := Lib.hid hT
     subst hvb
     obtain ⟨l, hl⟩ : ∃ l, b.length = l := ⟨_, rfl⟩
     have HRB := Lib.hid hrb
     have z1 : ¬ cap = 1 := by omega
     have z2 : 1 ≤ b.length := by omega
     have z3 : (1 : Int) ≤ (b.length : Int) := by omega
     have z4 : 1 ≤ cap := by omega
     have z5 : b.length ≤ cap := hcap
     clear hrb hb8 HEN hbe hl35 hT N4 H44 hl G10 m0 m1 m2 m3 m4 m5 m6
     go_upto_region 23 with (fail)
     have hd1 : Below w8.heap.size w8 w8.drew := Below.drewN_of w8 1
     have T6 := Lib.hid (T5.out.below hd1)
     have R6 := Lib.hid (HRB.out.below hd1)
     have GD0 := Lib.hid (GD.out.below hd1)
     have L10 := Lib.hid (L1.out.below hd1)
     have H420 := Lib.hid (H45.out.below hd1)
     clear T5 HRB hd1
     refine wp_region_E (S := fun _ => True) (by kernel_rfl) True.intro (fun hHeld => ?_)
     refine wpE_tk 0 (oi := ?o1) (v := ?v1) ?h1 (by kernel_rfl) ?q1 ?y1 (by assumption) ?_
     case h1 => (simp only [List.getElem?_toArray]; rfl)
     case q1 => exact fun _ _ _ h => h
     case y1 => exact Or.inl ⟨by rfl, by (intro w hSw; (try dsimp only at hSw); go_simp; try with_reducible rfl)⟩
     try simp only [Act.put, sA, sB, sC]
     refine wpE_tk 1 (oi := ?o2) (v := ?v2) ?h2 (by kernel_rfl) ?q2 ?y2 (by assumption) ?_
     case h2 => (simp only [List.getElem?_toArray]; rfl)
     case q2 => exact fun _ _ _ h => h
     case y2 => exact Or.inl ⟨by rfl, by (intro w hSw; (try dsimp only at hSw); go_simp; try with_reducible rfl)⟩
     try simp only [Act.put, sA, sB, sC]
     refine wpE_tk 3 (oi := ?o3) (v := ?v3) ?h3 (by kernel_rfl) ?q3 ?y3 (by assumption) ?_
     case h3 => (simp only [List.getElem?_toArray]; rfl)
     case q3 => exact fun _ _ _ h => h
     case y3 => exact Or.inl ⟨by rfl, by (intro w hSw; (try dsimp only at hSw); go_simp; try with_reducible rfl)⟩
     try simp only [Act.put, sA, sB, sC]
     refine wpE_tk 4 (oi := ?o4) (v := ?v4) ?h4 (by kernel_rfl) ?q4 ?y4 (by assumption) ?_
     case h4 => (simp only [List.getElem?_toArray]; rfl)
     case q4 => exact fun _ _ _ h => h
     case y4 => exact Or.inl ⟨by rfl, by (intro w hSw; (try dsimp only at hSw); go_simp; try with_reducible rfl)⟩
     try simp only [Act.put, sA, sB, sC]
     have HCA := Lib.hid (vtake_any T6.out.v T6.out.ok T6.out.rel.a (by decide) (by omega) R6.out.sl HBL.out HBO.out)
     refine wpE_one (i := 2) (o := ?o91) ?ho91 (by kernel_rfl) (fun K hK => ?_)
     case ho91 => (simp only [List.getElem?_toArray]; rfl)
     go_simp
     refine HCA.out.mono ?_
     rintro e waA ⟨rfl, hvA, hvw1, hk1, ho1⟩
     have RVA := Lib.hid (T6.out.one hk1)
     have RBA := Lib.hid (T6.out.row hk1 R6.out)
     refine hK.out _ _ True.intro (fun hHeld => ?_)
     clear hK K HCA
     have hdA := dtake_any RVA.out (T6.out.ok.of_rel T6.out.rel) (by decide) (by omega) (RBA.out.sl) HBL.out HBO.out
     rw [(take_rel T6.out.rel).1] at hdA
     have HDA := Lib.hid hdA
     clear hdA
     refine wpE_one (i := 5) (o := ?o92) ?ho92 (by kernel_rfl) (fun K hK => ?_)
     case ho92 => (simp only [List.getElem?_toArray]; rfl)
     go_simp
     refine HDA.out.mono ?_
     rintro e wbA ⟨rfl, hwA, hrw1, hk2, ho2⟩
     have T7 := Lib.hid (T6.out.two hvw1 hk1 ho1 hrw1 hk2 ho2 (take_rel T6.out.rel).2 (take_ok HBO.out T6.out.ok))
     have R7 := Lib.hid (T6.out.row2 hk1 hk2 R6.out)
     have GDA := Lib.hid (T6.out.blk hk1 hk2 GD0.out (by decide) (by decide) (.inr N5.out.g5B))
     have L1A := Lib.hid (T6.out.blk hk1 hk2 L10.out (by decide) (by decide) (.inl (by decide)))
     have H42A := Lib.hid (T6.out.blk hk1 hk2 H420.out (by decide) (by decide) (.inl (by decide)))
     refine hK.out _ _ True.intro (fun hHeld => ?_)
     clear hK K HDA hvw1 hk1 ho1 hrw1 hk2 ho2 RVA RBA T6 R6
     refine wpE_tk 6 (oi := ?o5) (v := ?v5) ?h5 (by kernel_rfl) ?q5 ?y5 (by assumption) ?_
     case h5 => (simp only [List.getElem?_toArray]; rfl)
     case q5 => exact fun _ _ _ h => h
     case y5 => exact Or.inl ⟨by rfl, by (intro w hSw; (try dsimp only at hSw); go_simp; try with_reducible rfl)⟩
     try simp only [Act.put, sA, sB, sC]
     refine wpE_tk 7 (oi := ?o6) (v := ?v6) ?h6 (by kernel_rfl) ?q6 ?y6 (by assumption) ?_
     case h6 => (simp only [List.getElem?_toArray]; rfl)
     case q6 => exact fun _ _ _ h => h
     case y6 => exact Or.inl ⟨by rfl, by (intro w hSw; (try dsimp only at hSw); go_simp; try with_reducible rfl)⟩
     try simp only [Act.put, sA, sB, sC]
     refine wpE_tk 8 (oi := ?o7) (v := ?v7) ?h7 (by kernel_rfl) ?q7 ?y7 (by assumption) ?_
     case h7 => (simp only [List.getElem?_toArray]; rfl)
     case q7 => exact fun _ _ _ h => h
     case y7 => exact Or.inl ⟨by rfl, by (intro w hSw; (try dsimp only at hSw); go_simp; try with_reducible rfl)⟩
     try simp only [Act.put, sA, sB, sC]
     refine wpE_tk 9 (oi := ?o8) (v := ?v8) ?h8 (by kernel_rfl) ?q8 ?y8 (by assumption) ?_
     case h8 => (simp only [List.getElem?_toArray]; rfl)
     case q8 => exact fun _ _ _ h => h
     case y8 => exact Or.inl ⟨by rfl, by (intro w hSw; (try dsimp only at hSw); go_simp; try with_reducible rfl)⟩
     try simp only [Act.put, sA, sB, sC]
     refine wpE_tk 10 (oi := ?o9) (v := ?v9) ?h9 (by kernel_rfl) ?q9 ?y9 (by assumption) ?_
     case h9 => (simp only [List.getElem?_toArray]; rfl)
     case q9 => exact fun _ _ _ h => h
     case y9 => exact Or.inl ⟨by rfl, by (intro w hSw; (try dsimp only at hSw); go_simp; try with_reducible rfl)⟩
     try simp only [Act.put, sA, sB, sC]
     refine wpE_tk 12 (oi := ?o10) (v := ?v10) ?h10 (by kernel_rfl) ?q10 ?y10 (by assumption) ?_
     case h10 => (simp only [List.getElem?_toArray]; rfl)
     case q10 => exact fun _ _ _ h => h
     case y10 => exact Or.inl ⟨by rfl, by (intro w hSw; (try dsimp only at hSw); go_simp; try with_reducible rfl)⟩
     try simp only [Act.put, sA, sB, sC]
     refine wpE_tk 13 (oi := ?o11) (v := ?v11) ?h11 (by kernel_rfl) ?q11 ?y11 (by assumption) ?_
     case h11 => (simp only [List.getElem?_toArray]; rfl)
     case q11 => exact fun _ _ _ h => h
     case y11 => exact Or.inl ⟨by rfl, by (intro w hSw; (try dsimp only at hSw); go_simp; try with_reducible rfl)⟩
     try simp only [Act.put, sA, sB, sC]
     refine wpE_tk 14 (oi := ?o12) (v := ?v12) ?h12 (by kernel_rfl) ?q12 ?y12 (by assumption) ?_
     case h12 => (simp only [List.getElem?_toArray]; rfl)
     case q12 => exact fun _ _ _ h => h
     case y12 => exact Or.inl ⟨by rfl, by (intro w hSw; (try dsimp only at hSw); go_simp; try with_reducible rfl)⟩
     try simp only [Act.put, sA, sB, sC]
     have HCB := Lib.hid (vtake_any T7.out.v T7.out.ok T7.out.rel.a (by decide) (by omega) (tailB R7.out HL2.out) (by rw [List.length_drop]; have := HBL.out; omega) (fun z hz => HBO.out z (List.mem_of_mem_drop hz)))
     refine wpE_one (i := 11) (o := ?o93) ?ho93 (by kernel_rfl) (fun K hK => ?_)
     case ho93 => (simp only [List.getElem?_toArray]; rfl)
     go_simp
     refine HCB.out.mono ?_
     rintro e waB ⟨rfl, hvB, hvw1, hk1, ho1⟩
     have RVB := Lib.hid (T7.out.one hk1)
     have RBB := Lib.hid (T7.out.row hk1 R7.out)
     refine hK.out _ _ True.intro (fun hHeld => ?_)
     clear hK K HCB
     have hdB := dtake_any RVB.out (T7.out.ok.of_rel T7.out.rel) (by decide) (by omega) ((tailB RBB.out HL2.out)) (by rw [List.length_drop]; have := HBL.out; omega) (fun z hz => HBO.out z (List.mem_of_mem_drop hz))
     rw [(take_rel T7.out.rel).1] at hdB
     have HDB := Lib.hid hdB
     clear hdB
     refine wpE_one (i := 15) (o := ?o94) ?ho94 (by kernel_rfl) (fun K hK => ?_)
     case ho94 => (simp only [List.getElem?_toArray]; rfl)
     go_simp
     refine HDB.out.mono ?_
     rintro e wbB ⟨rfl, hwB, hrw1, hk2, ho2⟩
     have T8 := Lib.hid (T7.out.two hvw1 hk1 ho1 hrw1 hk2 ho2 (take_rel T7.out.rel).2 (take_ok (fun z hz => HBO.out z (List.mem_of_mem_drop hz)) T7.out.ok))
     have R8 := Lib.hid (T7.out.row2 hk1 hk2 R7.out)
     have GDB := Lib.hid (T7.out.blk hk1 hk2 GDA.out (by decide) (by decide) (.inr N5.out.g5B))
     have L1B := Lib.hid (T7.out.blk hk1 hk2 L1A.out (by decide) (by decide) (.inl (by decide)))
     have H42B := Lib.hid (T7.out.blk hk1 hk2 H42A.out (by decide) (by decide) (.inl (by decide)))
     refine hK.out _ _ True.intro (fun hHeld => ?_)
     clear hK K HDB hvw1 hk1 ho1 hrw1 hk2 ho2 RVB RBB T7 R7
     refine wpE_tk 16 (oi := ?o13) (v := ?v13) ?h13 (by kernel_rfl) ?q13 ?y13 (by assumption) ?_
     case h13 => (simp only [List.getElem?_toArray]; rfl)
     case q13 => exact fun _ _ _ h => h
     case y13 => exact Or.inl ⟨by rfl, by (intro w hSw; (try dsimp only at hSw); go_simp; try with_reducible rfl)⟩
     try simp only [Act.put, sA, sB, sC]
     refine wpE_tk 17 (oi := ?o14) (v := ?v14) ?h14 (by kernel_rfl) ?q14 ?y14 (by assumption) ?_
     case h14 => (simp only [List.getElem?_toArray]; rfl)
     case q14 => exact fun _ _ _ h => h
     case y14 => exact Or.inl ⟨by rfl, by (intro w hSw; (try dsimp only at hSw); go_simp; try with_reducible rfl)⟩
     try simp only [Act.put, sA, sB, sC]
     refine wpE_tk 18 (oi := ?o15) (v := ?v15) ?h15 (by kernel_rfl) ?q15 ?y15 (by assumption) ?_
     case h15 => (simp only [List.getElem?_toArray]; rfl)
     case q15 => exact fun _ _ _ h => h
     case y15 => exact Or.inl ⟨by rfl, by (intro w hSw; (try dsimp only at hSw); go_simp; try with_reducible rfl)⟩
     try simp only [Act.put, sA, sB, sC]
     refine wpE_tk 19 (oi := ?o16) (v := ?v16) ?h16 (by kernel_rfl) ?q16 ?y16 (by assumption) ?_
     case h16 => (simp only [List.getElem?_toArray]; rfl)
     case q16 => exact fun _ _ _ h => h
     case y16 => exact Or.inl ⟨by rfl, by (intro w hSw; (try dsimp only at hSw); go_simp; try with_reducible rfl)⟩
     try simp only [Act.put, sA, sB, sC]
     refine wpE_tk 20 (oi := ?o17) (v := ?v17) ?h17 (by kernel_rfl) ?q17 ?y17 (by assumption) ?_
     case h17 => (simp only [List.getElem?_toArray]; rfl)
     case q17 => exact fun _ _ _ h => h
     case y17 => exact Or.inl ⟨by rfl, by (intro w hSw; (try dsimp only at hSw); go_simp; try with_reducible rfl)⟩
     try simp only [Act.put, sA, sB, sC]
     have HSM := Lib.hid (lsame_any T8.out.v T8.out.r T8.out.rel (by rw [T8.out.ok.len]; decide) (takes_len T8.out.ok) (by omega))
     refine wpE_one (i := 21) (o := ?o95) ?ho95 (by kernel_rfl) (fun K hK => ?_)
     case ho95 => (simp only [List.getElem?_toArray]; rfl)
     go_simp
     refine HSM.out.mono ?_
     rintro e wc ⟨rfl, hbc⟩
     have T9 := Lib.hid (T8.out.below hbc)
     have GD9 := Lib.hid (GDB.out.below hbc)
     have L19 := Lib.hid (L1B.out.below hbc)
     have H429 := Lib.hid (H42B.out.below hbc)
     refine hK.out _ _ True.intro (fun hHeld => ?_)
     clear hK K HSM hbc T8 R8
     refine wpE_tk 22 (oi := ?o18) (v := ?v18) ?h18 (by kernel_rfl) ?q18 ?y18 (by assumption) ?_
     case h18 => (simp only [List.getElem?_toArray]; rfl)
     case q18 => exact fun _ _ _ h => h
     case y18 => exact Or.inl ⟨by rfl, by (intro w hSw; (try dsimp only at hSw); go_simp; try with_reducible rfl)⟩
     try simp only [Act.put, sA, sB, sC]
     refine wpE_last (i := 23) (o := ?o116) ?ho116 (by kernel_rfl) (by kernel_rfl) (by kernel_rfl) (fun K hK => ?_)
     case ho116 => (simp only [List.getElem?_toArray]; rfl)
     go_simp
     refine hK.out _ _ ?_
     clear hK K hHeld
     have NE : Hid (NI wW wc pv pw B g5 gl lst1 (8 * k + 2 * 1)) := Lib.hid ⟨⟨_, _, _, _, T9.out.more (by omega)⟩, GD9.out, N5.out.g5B, L19.out⟩
     clear T9 GD9 L19 N5
     go_wp2_with fail
     go_roundw
     case rel => exact ⟨1, by go_num, .inr (.inl rfl), NE.out, H429.out⟩
     case measure => simp [RowKit.intOf]
    ·have e0 : wy.cell? ⟨g42, 1, none⟩ = some (.int .i64 1) := H42.out.cell 1
     go_upto_region 22 with (fail)
     have hba := Below.allocN wy (.cells #[.int .i64 q, .int .i64 6, .int .i64 2, .int .i64 5, .int .i64 3, .int .i64 1, .bool false] 34)
     have N4 := Lib.hid (N3.out.below hba)
     have H44 := Lib.hid (H42.out.below hba)
     have G10 : Hid (Blk (wy.alloc (.cells #[.int .i64 q, .int .i64 6, .int .i64 2, .int .i64 5, .int .i64 3, .int .i64 1, .bool false] 34)) wy.heap.size 34 #[.int .i64 q, .int .i64 6, .int .i64 2, .int .i64 5, .int .i64 3, .int .i64 1, .bool false]) := Lib.hid (Blk.new _ _ _)
     obtain ⟨g10, hg10⟩ : ∃ g, wy.heap.size = g := ⟨_, rfl⟩
     rw [hg10] at G10 ⊢
     clear hg10 hba f0 f1 f2 f3 f4 f5 f6 e0 N3 H42
     generalize wy.alloc _ = w7 at *
     have m0 : w7.cell? ⟨g10, 0, none⟩ = some (.int .i64 q) := G10.out.cell 0
     have m1 : w7.cell? ⟨g10, 1, none⟩ = some (.int .i64 6) := G10.out.cell 1
     have m2 : w7.cell? ⟨g10, 2, none⟩ = some (.int .i64 2) := G10.out.cell 2
     have m3 : w7.cell? ⟨g10, 3, none⟩ = some (.int .i64 5) := G10.out.cell 3
     have m4 : w7.cell? ⟨g10, 4, none⟩ = some (.int .i64 3) := G10.out.cell 4
     have m5 : w7.cell? ⟨g10, 5, none⟩ = some (.int .i64 1) := G10.out.cell 5
     have m6 : w7.cell? ⟨g10, 6, none⟩ = some (.bool false) := G10.out.cell 6
     have hen := renc_any ⟨q, 6, 2, 5, 3, 1, false⟩ w7 (⟨by decide, by decide⟩ : (0 : Int) ≤ 6 ∧ (6 : Int) ≤ 255) (.inr rfl)
     unfold Mg.agg at hen
     have HEN := Lib.hid hen
     clear hen
     go_wp2_with fail
     refine HEN.out.mono ?_
     rintro e w8 ⟨vb, rfl, hrb, hb8⟩
     obtain ⟨b, hbe⟩ : ∃ b, encM ⟨q, 6, 2, 5, 3, 1, false⟩ = b := ⟨_, rfl⟩
     have hl35 : b.length = 35 := by rw [← hbe]; exact encM_len _
     have HBO : Hid (∀ z ∈ b, isByte z) := Lib.hid (by rw [← hbe]; exact encM_byte _)
     rw [hbe] at hrb
     obtain ⟨gb, cap, hvb, hcap⟩ := rowB hrb (by rw [hl35]; decide)
     have HBL : Hid (b.length ≤ 900000) := Lib.hid (by rw [hl35]; decide)
     have HL2 : Hid (2 ≤ b.length) := Lib.hid (by rw [hl35]; decide)
     have N5 := Lib.hid (N4.out.below hb8)
     have H45 := Lib.hid (H44.out.below hb8)
     obtain ⟨hv, hw, s, t, hT⟩ := N5.out.two
     have GD := Lib.hid N5.out.gd
     have L1 := Lib.hid N5.out.l1
     have T5 := Lib.hid hT
     subst hvb
     obtain ⟨l, hl⟩ : ∃ l, b.length = l := ⟨_, rfl⟩
     have HRB := Lib.hid hrb
     have z1 : ¬ cap = 1 := by omega
     have z2 : 1 ≤ b.length := by omega
     have z3 : (1 : Int) ≤ (b.length : Int) := by omega
     have z4 : 1 ≤ cap := by omega
     have z5 : b.length ≤ cap := hcap
     clear hrb hb8 HEN hbe hl35 hT N4 H44 hl G10 m0 m1 m2 m3 m4 m5 m6
     go_upto_region 23 with (fail)
     have hd1 : Below w8.heap.size w8 w8.drew := Below.drewN_of w8 1
     have T6 := Lib.hid (T5.out.below hd1)
     have R6 := Lib.hid (HRB.out.below hd1)
     have GD0 := Lib.hid (GD.out.below hd1)
     have L10 := Lib.hid (L1.out.below hd1)
     have H420 := Lib.hid (H45.out.below hd1)
     clear T5 HRB hd1
     refine wp_region_E (S := fun _ => True) (by kernel_rfl) True.intro (fun hHeld => ?_)
     refine wpE_tk 0 (oi := ?o19) (v := ?v19) ?h19 (by kernel_rfl) ?q19 ?y19 (by assumption) ?_
     case h19 => (simp only [List.getElem?_toArray]; rfl)
     case q19 => exact fun _ _ _ h => h
     case y19 => exact Or.inl ⟨by rfl, by (intro w hSw; (try dsimp only at hSw); go_simp; try with_reducible rfl)⟩
     try simp only [Act.put, sA, sB, sC]
     refine wpE_tk 1 (oi := ?o20) (v := ?v20) ?h20 (by kernel_rfl) ?q20 ?y20 (by assumption) ?_
     case h20 => (simp only [List.getElem?_toArray]; rfl)
     case q20 => exact fun _ _ _ h => h
     case y20 => exact Or.inl ⟨by rfl, by (intro w hSw; (try dsimp only at hSw); go_simp; try with_reducible rfl)⟩
     try simp only [Act.put, sA, sB, sC]
     refine wpE_tk 3 (oi := ?o21) (v := ?v21) ?h21 (by kernel_rfl) ?q21 ?y21 (by assumption) ?_
     case h21 => (simp only [List.getElem?_toArray]; rfl)
     case q21 => exact fun _ _ _ h => h
     case y21 => exact Or.inl ⟨by rfl, by (intro w hSw; (try dsimp only at hSw); go_simp; try with_reducible rfl)⟩
     try simp only [Act.put, sA, sB, sC]
     refine wpE_tk 4 (oi := ?o22) (v := ?v22) ?h22 (by kernel_rfl) ?q22 ?y22 (by assumption) ?_
     case h22 => (simp only [List.getElem?_toArray]; rfl)
     case q22 => exact fun _ _ _ h => h
     case y22 => exact Or.inl ⟨by rfl, by (intro w hSw; (try dsimp only at hSw); go_simp; try with_reducible rfl)⟩
     try simp only [Act.put, sA, sB, sC]
     have HCA := Lib.hid (vtake_any T6.out.v T6.out.ok T6.out.rel.a (by decide) (by omega) R6.out.sl HBL.out HBO.out)
     refine wpE_one (i := 2) (o := ?o96) ?ho96 (by kernel_rfl) (fun K hK => ?_)
     case ho96 => (simp only [List.getElem?_toArray]; rfl)
     go_simp
     refine HCA.out.mono ?_
     rintro e waA ⟨rfl, hvA, hvw1, hk1, ho1⟩
     have RVA := Lib.hid (T6.out.one hk1)
     have RBA := Lib.hid (T6.out.row hk1 R6.out)
     refine hK.out _ _ True.intro (fun hHeld => ?_)
     clear hK K HCA
     have hdA := dtake_any RVA.out (T6.out.ok.of_rel T6.out.rel) (by decide) (by omega) (RBA.out.sl) HBL.out HBO.out
     rw [(take_rel T6.out.rel).1] at hdA
     have HDA := Lib.hid hdA
     clear hdA
     refine wpE_one (i := 5) (o := ?o97) ?ho97 (by kernel_rfl) (fun K hK => ?_)
     case ho97 => (simp only [List.getElem?_toArray]; rfl)
     go_simp
     refine HDA.out.mono ?_
     rintro e wbA ⟨rfl, hwA, hrw1, hk2, ho2⟩
     have T7 := Lib.hid (T6.out.two hvw1 hk1 ho1 hrw1 hk2 ho2 (take_rel T6.out.rel).2 (take_ok HBO.out T6.out.ok))
     have R7 := Lib.hid (T6.out.row2 hk1 hk2 R6.out)
     have GDA := Lib.hid (T6.out.blk hk1 hk2 GD0.out (by decide) (by decide) (.inr N5.out.g5B))
     have L1A := Lib.hid (T6.out.blk hk1 hk2 L10.out (by decide) (by decide) (.inl (by decide)))
     have H42A := Lib.hid (T6.out.blk hk1 hk2 H420.out (by decide) (by decide) (.inl (by decide)))
     refine hK.out _ _ True.intro (fun hHeld => ?_)
     clear hK K HDA hvw1 hk1 ho1 hrw1 hk2 ho2 RVA RBA T6 R6
     refine wpE_tk 6 (oi := ?o23) (v := ?v23) ?h23 (by kernel_rfl) ?q23 ?y23 (by assumption) ?_
     case h23 => (simp only [List.getElem?_toArray]; rfl)
     case q23 => exact fun _ _ _ h => h
     case y23 => exact Or.inl ⟨by rfl, by (intro w hSw; (try dsimp only at hSw); go_simp; try with_reducible rfl)⟩
     try simp only [Act.put, sA, sB, sC]
     refine wpE_tk 7 (oi := ?o24) (v := ?v24) ?h24 (by kernel_rfl) ?q24 ?y24 (by assumption) ?_
     case h24 => (simp only [List.getElem?_toArray]; rfl)
     case q24 => exact fun _ _ _ h => h
     case y24 => exact Or.inl ⟨by rfl, by (intro w hSw; (try dsimp only at hSw); go_simp; try with_reducible rfl)⟩
     try simp only [Act.put, sA, sB, sC]
     refine wpE_tk 8 (oi := ?o25) (v := ?v25) ?h25 (by kernel_rfl) ?q25 ?y25 (by assumption) ?_
     case h25 => (simp only [List.getElem?_toArray]; rfl)
     case q25 => exact fun _ _ _ h => h
     case y25 => exact Or.inl ⟨by rfl, by (intro w hSw; (try dsimp only at hSw); go_simp; try with_reducible rfl)⟩
     try simp only [Act.put, sA, sB, sC]
     refine wpE_tk 9 (oi := ?o26) (v := ?v26) ?h26 (by kernel_rfl) ?q26 ?y26 (by assumption) ?_
     case h26 => (simp only [List.getElem?_toArray]; rfl)
     case q26 => exact fun _ _ _ h => h
     case y26 => exact Or.inl ⟨by rfl, by (intro w hSw; (try dsimp only at hSw); go_simp; try with_reducible rfl)⟩
     try simp only [Act.put, sA, sB, sC]
     refine wpE_tk 10 (oi := ?o27) (v := ?v27) ?h27 (by kernel_rfl) ?q27 ?y27 (by assumption) ?_
     case h27 => (simp only [List.getElem?_toArray]; rfl)
     case q27 => exact fun _ _ _ h => h
     case y27 => exact Or.inl ⟨by rfl, by (intro w hSw; (try dsimp only at hSw); go_simp; try with_reducible rfl)⟩
     try simp only [Act.put, sA, sB, sC]
     refine wpE_tk 12 (oi := ?o28) (v := ?v28) ?h28 (by kernel_rfl) ?q28 ?y28 (by assumption) ?_
     case h28 => (simp only [List.getElem?_toArray]; rfl)
     case q28 => exact fun _ _ _ h => h
     case y28 => exact Or.inl ⟨by rfl, by (intro w hSw; (try dsimp only at hSw); go_simp; try with_reducible rfl)⟩
     try simp only [Act.put, sA, sB, sC]
     refine wpE_tk 13 (oi := ?o29) (v := ?v29) ?h29 (by kernel_rfl) ?q29 ?y29 (by assumption) ?_
     case h29 => (simp only [List.getElem?_toArray]; rfl)
     case q29 => exact fun _ _ _ h => h
     case y29 => exact Or.inl ⟨by rfl, by (intro w hSw; (try dsimp only at hSw); go_simp; try with_reducible rfl)⟩
     try simp only [Act.put, sA, sB, sC]
     refine wpE_tk 14 (oi := ?o30) (v := ?v30) ?h30 (by kernel_rfl) ?q30 ?y30 (by assumption) ?_
     case h30 => (simp only [List.getElem?_toArray]; rfl)
     case q30 => exact fun _ _ _ h => h
     case y30 => exact Or.inl ⟨by rfl, by (intro w hSw; (try dsimp only at hSw); go_simp; try with_reducible rfl)⟩
     try simp only [Act.put, sA, sB, sC]
     have HCB := Lib.hid (vtake_any T7.out.v T7.out.ok T7.out.rel.a (by decide) (by omega) (tailB R7.out HL2.out) (by rw [List.length_drop]; have := HBL.out; omega) (fun z hz => HBO.out z (List.mem_of_mem_drop hz)))
     refine wpE_one (i := 11) (o := ?o98) ?ho98 (by kernel_rfl) (fun K hK => ?_)
     case ho98 => (simp only [List.getElem?_toArray]; rfl)
     go_simp
     refine HCB.out.mono ?_
     rintro e waB ⟨rfl, hvB, hvw1, hk1, ho1⟩
     have RVB := Lib.hid (T7.out.one hk1)
     have RBB := Lib.hid (T7.out.row hk1 R7.out)
     refine hK.out _ _ True.intro (fun hHeld => ?_)
     clear hK K HCB
     have hdB := dtake_any RVB.out (T7.out.ok.of_rel T7.out.rel) (by decide) (by omega) ((tailB RBB.out HL2.out)) (by rw [List.length_drop]; have := HBL.out; omega) (fun z hz => HBO.out z (List.mem_of_mem_drop hz))
     rw [(take_rel T7.out.rel).1] at hdB
     have HDB := Lib.hid hdB
     clear hdB
     refine wpE_one (i := 15) (o := ?o99) ?ho99 (by kernel_rfl) (fun K hK => ?_)
     case ho99 => (simp only [List.getElem?_toArray]; rfl)
     go_simp
     refine HDB.out.mono ?_
     rintro e wbB ⟨rfl, hwB, hrw1, hk2, ho2⟩
     have T8 := Lib.hid (T7.out.two hvw1 hk1 ho1 hrw1 hk2 ho2 (take_rel T7.out.rel).2 (take_ok (fun z hz => HBO.out z (List.mem_of_mem_drop hz)) T7.out.ok))
     have R8 := Lib.hid (T7.out.row2 hk1 hk2 R7.out)
     have GDB := Lib.hid (T7.out.blk hk1 hk2 GDA.out (by decide) (by decide) (.inr N5.out.g5B))
     have L1B := Lib.hid (T7.out.blk hk1 hk2 L1A.out (by decide) (by decide) (.inl (by decide)))
     have H42B := Lib.hid (T7.out.blk hk1 hk2 H42A.out (by decide) (by decide) (.inl (by decide)))
     refine hK.out _ _ True.intro (fun hHeld => ?_)
     clear hK K HDB hvw1 hk1 ho1 hrw1 hk2 ho2 RVB RBB T7 R7
     refine wpE_tk 16 (oi := ?o31) (v := ?v31) ?h31 (by kernel_rfl) ?q31 ?y31 (by assumption) ?_
     case h31 => (simp only [List.getElem?_toArray]; rfl)
     case q31 => exact fun _ _ _ h => h
     case y31 => exact Or.inl ⟨by rfl, by (intro w hSw; (try dsimp only at hSw); go_simp; try with_reducible rfl)⟩
     try simp only [Act.put, sA, sB, sC]
     refine wpE_tk 17 (oi := ?o32) (v := ?v32) ?h32 (by kernel_rfl) ?q32 ?y32 (by assumption) ?_
     case h32 => (simp only [List.getElem?_toArray]; rfl)
     case q32 => exact fun _ _ _ h => h
     case y32 => exact Or.inl ⟨by rfl, by (intro w hSw; (try dsimp only at hSw); go_simp; try with_reducible rfl)⟩
     try simp only [Act.put, sA, sB, sC]
     refine wpE_tk 18 (oi := ?o33) (v := ?v33) ?h33 (by kernel_rfl) ?q33 ?y33 (by assumption) ?_
     case h33 => (simp only [List.getElem?_toArray]; rfl)
     case q33 => exact fun _ _ _ h => h
     case y33 => exact Or.inl ⟨by rfl, by (intro w hSw; (try dsimp only at hSw); go_simp; try with_reducible rfl)⟩
     try simp only [Act.put, sA, sB, sC]
     refine wpE_tk 19 (oi := ?o34) (v := ?v34) ?h34 (by kernel_rfl) ?q34 ?y34 (by assumption) ?_
     case h34 => (simp only [List.getElem?_toArray]; rfl)
     case q34 => exact fun _ _ _ h => h
     case y34 => exact Or.inl ⟨by rfl, by (intro w hSw; (try dsimp only at hSw); go_simp; try with_reducible rfl)⟩
     try simp only [Act.put, sA, sB, sC]
     refine wpE_tk 20 (oi := ?o35) (v := ?v35) ?h35 (by kernel_rfl) ?q35 ?y35 (by assumption) ?_
     case h35 => (simp only [List.getElem?_toArray]; rfl)
     case q35 => exact fun _ _ _ h => h
     case y35 => exact Or.inl ⟨by rfl, by (intro w hSw; (try dsimp only at hSw); go_simp; try with_reducible rfl)⟩
     try simp only [Act.put, sA, sB, sC]
     have HSM := Lib.hid (lsame_any T8.out.v T8.out.r T8.out.rel (by rw [T8.out.ok.len]; decide) (takes_len T8.out.ok) (by omega))
     refine wpE_one (i := 21) (o := ?o100) ?ho100 (by kernel_rfl) (fun K hK => ?_)
     case ho100 => (simp only [List.getElem?_toArray]; rfl)
     go_simp
     refine HSM.out.mono ?_
     rintro e wc ⟨rfl, hbc⟩
     have T9 := Lib.hid (T8.out.below hbc)
     have GD9 := Lib.hid (GDB.out.below hbc)
     have L19 := Lib.hid (L1B.out.below hbc)
     have H429 := Lib.hid (H42B.out.below hbc)
     refine hK.out _ _ True.intro (fun hHeld => ?_)
     clear hK K HSM hbc T8 R8
     refine wpE_tk 22 (oi := ?o36) (v := ?v36) ?h36 (by kernel_rfl) ?q36 ?y36 (by assumption) ?_
     case h36 => (simp only [List.getElem?_toArray]; rfl)
     case q36 => exact fun _ _ _ h => h
     case y36 => exact Or.inl ⟨by rfl, by (intro w hSw; (try dsimp only at hSw); go_simp; try with_reducible rfl)⟩
     try simp only [Act.put, sA, sB, sC]
     refine wpE_last (i := 23) (o := ?o117) ?ho117 (by kernel_rfl) (by kernel_rfl) (by kernel_rfl) (fun K hK => ?_)
     case ho117 => (simp only [List.getElem?_toArray]; rfl)
     go_simp
     refine hK.out _ _ ?_
     clear hK K hHeld
     have NE : Hid (NI wW wc pv pw B g5 gl lst1 (8 * k + 2 * 2)) := Lib.hid ⟨⟨_, _, _, _, T9.out.more (by omega)⟩, GD9.out, N5.out.g5B, L19.out⟩
     clear T9 GD9 L19 N5
     go_wp2_with fail
     go_roundw
     case rel => exact ⟨2, by go_num, .inr (.inr (.inl rfl)), NE.out, H429.out⟩
     case measure => simp [RowKit.intOf]
    ·have e0 : wy.cell? ⟨g42, 2, none⟩ = some (.int .i64 2) := H42.out.cell 2
     go_upto_region 22 with (fail)
     have hba := Below.allocN wy (.cells #[.int .i64 q, .int .i64 1, .int .i64 2, .int .i64 5, .int .i64 0, .int .i64 1, .bool false] 34)
     have N4 := Lib.hid (N3.out.below hba)
     have H44 := Lib.hid (H42.out.below hba)
     have G10 : Hid (Blk (wy.alloc (.cells #[.int .i64 q, .int .i64 1, .int .i64 2, .int .i64 5, .int .i64 0, .int .i64 1, .bool false] 34)) wy.heap.size 34 #[.int .i64 q, .int .i64 1, .int .i64 2, .int .i64 5, .int .i64 0, .int .i64 1, .bool false]) := Lib.hid (Blk.new _ _ _)
     obtain ⟨g10, hg10⟩ : ∃ g, wy.heap.size = g := ⟨_, rfl⟩
     rw [hg10] at G10 ⊢
     clear hg10 hba f0 f1 f2 f3 f4 f5 f6 e0 N3 H42
     generalize wy.alloc _ = w7 at *
     have m0 : w7.cell? ⟨g10, 0, none⟩ = some (.int .i64 q) := G10.out.cell 0
     have m1 : w7.cell? ⟨g10, 1, none⟩ = some (.int .i64 1) := G10.out.cell 1
     have m2 : w7.cell? ⟨g10, 2, none⟩ = some (.int .i64 2) := G10.out.cell 2
     have m3 : w7.cell? ⟨g10, 3, none⟩ = some (.int .i64 5) := G10.out.cell 3
     have m4 : w7.cell? ⟨g10, 4, none⟩ = some (.int .i64 0) := G10.out.cell 4
     have m5 : w7.cell? ⟨g10, 5, none⟩ = some (.int .i64 1) := G10.out.cell 5
     have m6 : w7.cell? ⟨g10, 6, none⟩ = some (.bool false) := G10.out.cell 6
     have hen := renc_any ⟨q, 1, 2, 5, 0, 1, false⟩ w7 (⟨by decide, by decide⟩ : (0 : Int) ≤ 1 ∧ (1 : Int) ≤ 255) (.inr rfl)
     unfold Mg.agg at hen
     have HEN := Lib.hid hen
     clear hen
     go_wp2_with fail
     refine HEN.out.mono ?_
     rintro e w8 ⟨vb, rfl, hrb, hb8⟩
     obtain ⟨b, hbe⟩ : ∃ b, encM ⟨q, 1, 2, 5, 0, 1, false⟩ = b := ⟨_, rfl⟩
     have hl35 : b.length = 35 := by rw [← hbe]; exact encM_len _
     have HBO : Hid (∀ z ∈ b, isByte z) := Lib.hid (by rw [← hbe]; exact encM_byte _)
     rw [hbe] at hrb
     obtain ⟨gb, cap, hvb, hcap⟩ := rowB hrb (by rw [hl35]; decide)
     have HBL : Hid (b.length ≤ 900000) := Lib.hid (by rw [hl35]; decide)
     have HL2 : Hid (2 ≤ b.length) := Lib.hid (by rw [hl35]; decide)
     have N5 := Lib.hid (N4.out.below hb8)
     have H45 := Lib.hid (H44.out.below hb8)
     obtain ⟨hv, hw, s, t, hT⟩ := N5.out.two
     have GD := Lib.hid N5.out.gd
     have L1 := Lib.hid N5.out.l1
     have T5 := Lib.hid hT
     subst hvb
     obtain ⟨l, hl⟩ : ∃ l, b.length = l := ⟨_, rfl⟩
     have HRB := Lib.hid hrb
     have z1 : ¬ cap = 1 := by omega
     have z2 : 1 ≤ b.length := by omega
     have z3 : (1 : Int) ≤ (b.length : Int) := by omega
     have z4 : 1 ≤ cap := by omega
     have z5 : b.length ≤ cap := hcap
     clear hrb hb8 HEN hbe hl35 hT N4 H44 hl G10 m0 m1 m2 m3 m4 m5 m6
     go_upto_region 23 with (fail)
     have hd1 : Below w8.heap.size w8 w8.drew := Below.drewN_of w8 1
     have T6 := Lib.hid (T5.out.below hd1)
     have R6 := Lib.hid (HRB.out.below hd1)
     have GD0 := Lib.hid (GD.out.below hd1)
     have L10 := Lib.hid (L1.out.below hd1)
     have H420 := Lib.hid (H45.out.below hd1)
     clear T5 HRB hd1
     refine wp_region_E (S := fun _ => True) (by kernel_rfl) True.intro (fun hHeld => ?_)
     refine wpE_tk 0 (oi := ?o37) (v := ?v37) ?h37 (by kernel_rfl) ?q37 ?y37 (by assumption) ?_
     case h37 => (simp only [List.getElem?_toArray]; rfl)
     case q37 => exact fun _ _ _ h => h
     case y37 => exact Or.inl ⟨by rfl, by (intro w hSw; (try dsimp only at hSw); go_simp; try with_reducible rfl)⟩
     try simp only [Act.put, sA, sB, sC]
     refine wpE_tk 1 (oi := ?o38) (v := ?v38) ?h38 (by kernel_rfl) ?q38 ?y38 (by assumption) ?_
     case h38 => (simp only [List.getElem?_toArray]; rfl)
     case q38 => exact fun _ _ _ h => h
     case y38 => exact Or.inl ⟨by rfl, by (intro w hSw; (try dsimp only at hSw); go_simp; try with_reducible rfl)⟩
     try simp only [Act.put, sA, sB, sC]
     refine wpE_tk 3 (oi := ?o39) (v := ?v39) ?h39 (by kernel_rfl) ?q39 ?y39 (by assumption) ?_
     case h39 => (simp only [List.getElem?_toArray]; rfl)
     case q39 => exact fun _ _ _ h => h
     case y39 => exact Or.inl ⟨by rfl, by (intro w hSw; (try dsimp only at hSw); go_simp; try with_reducible rfl)⟩
     try simp only [Act.put, sA, sB, sC]
     refine wpE_tk 4 (oi := ?o40) (v := ?v40) ?h40 (by kernel_rfl) ?q40 ?y40 (by assumption) ?_
     case h40 => (simp only [List.getElem?_toArray]; rfl)
     case q40 => exact fun _ _ _ h => h
     case y40 => exact Or.inl ⟨by rfl, by (intro w hSw; (try dsimp only at hSw); go_simp; try with_reducible rfl)⟩
     try simp only [Act.put, sA, sB, sC]
     have HCA := Lib.hid (vtake_any T6.out.v T6.out.ok T6.out.rel.a (by decide) (by omega) R6.out.sl HBL.out HBO.out)
     refine wpE_one (i := 2) (o := ?o101) ?ho101 (by kernel_rfl) (fun K hK => ?_)
     case ho101 => (simp only [List.getElem?_toArray]; rfl)
     go_simp
     refine HCA.out.mono ?_
     rintro e waA ⟨rfl, hvA, hvw1, hk1, ho1⟩
     have RVA := Lib.hid (T6.out.one hk1)
     have RBA := Lib.hid (T6.out.row hk1 R6.out)
     refine hK.out _ _ True.intro (fun hHeld => ?_)
     clear hK K HCA
     have hdA := dtake_any RVA.out (T6.out.ok.of_rel T6.out.rel) (by decide) (by omega) (RBA.out.sl) HBL.out HBO.out
     rw [(take_rel T6.out.rel).1] at hdA
     have HDA := Lib.hid hdA
     clear hdA
     refine wpE_one (i := 5) (o := ?o102) ?ho102 (by kernel_rfl) (fun K hK => ?_)
     case ho102 => (simp only [List.getElem?_toArray]; rfl)
     go_simp
     refine HDA.out.mono ?_
     rintro e wbA ⟨rfl, hwA, hrw1, hk2, ho2⟩
     have T7 := Lib.hid (T6.out.two hvw1 hk1 ho1 hrw1 hk2 ho2 (take_rel T6.out.rel).2 (take_ok HBO.out T6.out.ok))
     have R7 := Lib.hid (T6.out.row2 hk1 hk2 R6.out)
     have GDA := Lib.hid (T6.out.blk hk1 hk2 GD0.out (by decide) (by decide) (.inr N5.out.g5B))
     have L1A := Lib.hid (T6.out.blk hk1 hk2 L10.out (by decide) (by decide) (.inl (by decide)))
     have H42A := Lib.hid (T6.out.blk hk1 hk2 H420.out (by decide) (by decide) (.inl (by decide)))
     refine hK.out _ _ True.intro (fun hHeld => ?_)
     clear hK K HDA hvw1 hk1 ho1 hrw1 hk2 ho2 RVA RBA T6 R6
     refine wpE_tk 6 (oi := ?o41) (v := ?v41) ?h41 (by kernel_rfl) ?q41 ?y41 (by assumption) ?_
     case h41 => (simp only [List.getElem?_toArray]; rfl)
     case q41 => exact fun _ _ _ h => h
     case y41 => exact Or.inl ⟨by rfl, by (intro w hSw; (try dsimp only at hSw); go_simp; try with_reducible rfl)⟩
     try simp only [Act.put, sA, sB, sC]
     refine wpE_tk 7 (oi := ?o42) (v := ?v42) ?h42 (by kernel_rfl) ?q42 ?y42 (by assumption) ?_
     case h42 => (simp only [List.getElem?_toArray]; rfl)
     case q42 => exact fun _ _ _ h => h
     case y42 => exact Or.inl ⟨by rfl, by (intro w hSw; (try dsimp only at hSw); go_simp; try with_reducible rfl)⟩
     try simp only [Act.put, sA, sB, sC]
     refine wpE_tk 8 (oi := ?o43) (v := ?v43) ?h43 (by kernel_rfl) ?q43 ?y43 (by assumption) ?_
     case h43 => (simp only [List.getElem?_toArray]; rfl)
     case q43 => exact fun _ _ _ h => h
     case y43 => exact Or.inl ⟨by rfl, by (intro w hSw; (try dsimp only at hSw); go_simp; try with_reducible rfl)⟩
     try simp only [Act.put, sA, sB, sC]
     refine wpE_tk 9 (oi := ?o44) (v := ?v44) ?h44 (by kernel_rfl) ?q44 ?y44 (by assumption) ?_
     case h44 => (simp only [List.getElem?_toArray]; rfl)
     case q44 => exact fun _ _ _ h => h
     case y44 => exact Or.inl ⟨by rfl, by (intro w hSw; (try dsimp only at hSw); go_simp; try with_reducible rfl)⟩
     try simp only [Act.put, sA, sB, sC]
     refine wpE_tk 10 (oi := ?o45) (v := ?v45) ?h45 (by kernel_rfl) ?q45 ?y45 (by assumption) ?_
     case h45 => (simp only [List.getElem?_toArray]; rfl)
     case q45 => exact fun _ _ _ h => h
     case y45 => exact Or.inl ⟨by rfl, by (intro w hSw; (try dsimp only at hSw); go_simp; try with_reducible rfl)⟩
     try simp only [Act.put, sA, sB, sC]
     refine wpE_tk 12 (oi := ?o46) (v := ?v46) ?h46 (by kernel_rfl) ?q46 ?y46 (by assumption) ?_
     case h46 => (simp only [List.getElem?_toArray]; rfl)
     case q46 => exact fun _ _ _ h => h
     case y46 => exact Or.inl ⟨by rfl, by (intro w hSw; (try dsimp only at hSw); go_simp; try with_reducible rfl)⟩
     try simp only [Act.put, sA, sB, sC]
     refine wpE_tk 13 (oi := ?o47) (v := ?v47) ?h47 (by kernel_rfl) ?q47 ?y47 (by assumption) ?_
     case h47 => (simp only [List.getElem?_toArray]; rfl)
     case q47 => exact fun _ _ _ h => h
     case y47 => exact Or.inl ⟨by rfl, by (intro w hSw; (try dsimp only at hSw); go_simp; try with_reducible rfl)⟩
     try simp only [Act.put, sA, sB, sC]
     refine wpE_tk 14 (oi := ?o48) (v := ?v48) ?h48 (by kernel_rfl) ?q48 ?y48 (by assumption) ?_
     case h48 => (simp only [List.getElem?_toArray]; rfl)
     case q48 => exact fun _ _ _ h => h
     case y48 => exact Or.inl ⟨by rfl, by (intro w hSw; (try dsimp only at hSw); go_simp; try with_reducible rfl)⟩
     try simp only [Act.put, sA, sB, sC]
     have HCB := Lib.hid (vtake_any T7.out.v T7.out.ok T7.out.rel.a (by decide) (by omega) (tailB R7.out HL2.out) (by rw [List.length_drop]; have := HBL.out; omega) (fun z hz => HBO.out z (List.mem_of_mem_drop hz)))
     refine wpE_one (i := 11) (o := ?o103) ?ho103 (by kernel_rfl) (fun K hK => ?_)
     case ho103 => (simp only [List.getElem?_toArray]; rfl)
     go_simp
     refine HCB.out.mono ?_
     rintro e waB ⟨rfl, hvB, hvw1, hk1, ho1⟩
     have RVB := Lib.hid (T7.out.one hk1)
     have RBB := Lib.hid (T7.out.row hk1 R7.out)
     refine hK.out _ _ True.intro (fun hHeld => ?_)
     clear hK K HCB
     have hdB := dtake_any RVB.out (T7.out.ok.of_rel T7.out.rel) (by decide) (by omega) ((tailB RBB.out HL2.out)) (by rw [List.length_drop]; have := HBL.out; omega) (fun z hz => HBO.out z (List.mem_of_mem_drop hz))
     rw [(take_rel T7.out.rel).1] at hdB
     have HDB := Lib.hid hdB
     clear hdB
     refine wpE_one (i := 15) (o := ?o104) ?ho104 (by kernel_rfl) (fun K hK => ?_)
     case ho104 => (simp only [List.getElem?_toArray]; rfl)
     go_simp
     refine HDB.out.mono ?_
     rintro e wbB ⟨rfl, hwB, hrw1, hk2, ho2⟩
     have T8 := Lib.hid (T7.out.two hvw1 hk1 ho1 hrw1 hk2 ho2 (take_rel T7.out.rel).2 (take_ok (fun z hz => HBO.out z (List.mem_of_mem_drop hz)) T7.out.ok))
     have R8 := Lib.hid (T7.out.row2 hk1 hk2 R7.out)
     have GDB := Lib.hid (T7.out.blk hk1 hk2 GDA.out (by decide) (by decide) (.inr N5.out.g5B))
     have L1B := Lib.hid (T7.out.blk hk1 hk2 L1A.out (by decide) (by decide) (.inl (by decide)))
     have H42B := Lib.hid (T7.out.blk hk1 hk2 H42A.out (by decide) (by decide) (.inl (by decide)))
     refine hK.out _ _ True.intro (fun hHeld => ?_)
     clear hK K HDB hvw1 hk1 ho1 hrw1 hk2 ho2 RVB RBB T7 R7
     refine wpE_tk 16 (oi := ?o49) (v := ?v49) ?h49 (by kernel_rfl) ?q49 ?y49 (by assumption) ?_
     case h49 => (simp only [List.getElem?_toArray]; rfl)
     case q49 => exact fun _ _ _ h => h
     case y49 => exact Or.inl ⟨by rfl, by (intro w hSw; (try dsimp only at hSw); go_simp; try with_reducible rfl)⟩
     try simp only [Act.put, sA, sB, sC]
     refine wpE_tk 17 (oi := ?o50) (v := ?v50) ?h50 (by kernel_rfl) ?q50 ?y50 (by assumption) ?_
     case h50 => (simp only [List.getElem?_toArray]; rfl)
     case q50 => exact fun _ _ _ h => h
     case y50 => exact Or.inl ⟨by rfl, by (intro w hSw; (try dsimp only at hSw); go_simp; try with_reducible rfl)⟩
     try simp only [Act.put, sA, sB, sC]
     refine wpE_tk 18 (oi := ?o51) (v := ?v51) ?h51 (by kernel_rfl) ?q51 ?y51 (by assumption) ?_
     case h51 => (simp only [List.getElem?_toArray]; rfl)
     case q51 => exact fun _ _ _ h => h
     case y51 => exact Or.inl ⟨by rfl, by (intro w hSw; (try dsimp only at hSw); go_simp; try with_reducible rfl)⟩
     try simp only [Act.put, sA, sB, sC]
     refine wpE_tk 19 (oi := ?o52) (v := ?v52) ?h52 (by kernel_rfl) ?q52 ?y52 (by assumption) ?_
     case h52 => (simp only [List.getElem?_toArray]; rfl)
     case q52 => exact fun _ _ _ h => h
     case y52 => exact Or.inl ⟨by rfl, by (intro w hSw; (try dsimp only at hSw); go_simp; try with_reducible rfl)⟩
     try simp only [Act.put, sA, sB, sC]
     refine wpE_tk 20 (oi := ?o53) (v := ?v53) ?h53 (by kernel_rfl) ?q53 ?y53 (by assumption) ?_
     case h53 => (simp only [List.getElem?_toArray]; rfl)
     case q53 => exact fun _ _ _ h => h
     case y53 => exact Or.inl ⟨by rfl, by (intro w hSw; (try dsimp only at hSw); go_simp; try with_reducible rfl)⟩
     try simp only [Act.put, sA, sB, sC]
     have HSM := Lib.hid (lsame_any T8.out.v T8.out.r T8.out.rel (by rw [T8.out.ok.len]; decide) (takes_len T8.out.ok) (by omega))
     refine wpE_one (i := 21) (o := ?o105) ?ho105 (by kernel_rfl) (fun K hK => ?_)
     case ho105 => (simp only [List.getElem?_toArray]; rfl)
     go_simp
     refine HSM.out.mono ?_
     rintro e wc ⟨rfl, hbc⟩
     have T9 := Lib.hid (T8.out.below hbc)
     have GD9 := Lib.hid (GDB.out.below hbc)
     have L19 := Lib.hid (L1B.out.below hbc)
     have H429 := Lib.hid (H42B.out.below hbc)
     refine hK.out _ _ True.intro (fun hHeld => ?_)
     clear hK K HSM hbc T8 R8
     refine wpE_tk 22 (oi := ?o54) (v := ?v54) ?h54 (by kernel_rfl) ?q54 ?y54 (by assumption) ?_
     case h54 => (simp only [List.getElem?_toArray]; rfl)
     case q54 => exact fun _ _ _ h => h
     case y54 => exact Or.inl ⟨by rfl, by (intro w hSw; (try dsimp only at hSw); go_simp; try with_reducible rfl)⟩
     try simp only [Act.put, sA, sB, sC]
     refine wpE_last (i := 23) (o := ?o118) ?ho118 (by kernel_rfl) (by kernel_rfl) (by kernel_rfl) (fun K hK => ?_)
     case ho118 => (simp only [List.getElem?_toArray]; rfl)
     go_simp
     refine hK.out _ _ ?_
     clear hK K hHeld
     have NE : Hid (NI wW wc pv pw B g5 gl lst1 (8 * k + 2 * 3)) := Lib.hid ⟨⟨_, _, _, _, T9.out.more (by omega)⟩, GD9.out, N5.out.g5B, L19.out⟩
     clear T9 GD9 L19 N5
     go_wp2_with fail
     go_roundw
     case rel => exact ⟨3, by go_num, .inr (.inr (.inr (.inl rfl))), NE.out, H429.out⟩
     case measure => simp [RowKit.intOf]
    ·have e0 : wy.cell? ⟨g42, 3, none⟩ = some (.int .i64 3) := H42.out.cell 3
     obtain ⟨r, hr⟩ : ∃ r, q.tmod 50 = r := ⟨_, rfl⟩
     have hr0 : -50 < r ∧ r < 50 := by rw [← hr]; exact tmod50 q
     go_upto_region 22 with (fail)
     have hba := Below.allocN wy (.cells #[.int .i64 q, .int .i64 1, .int .i64 2, .int .i64 (5 + r), .int .i64 3, .int .i64 1, .bool false] 34)
     have N4 := Lib.hid (N3.out.below hba)
     have H44 := Lib.hid (H42.out.below hba)
     have G10 : Hid (Blk (wy.alloc (.cells #[.int .i64 q, .int .i64 1, .int .i64 2, .int .i64 (5 + r), .int .i64 3, .int .i64 1, .bool false] 34)) wy.heap.size 34 #[.int .i64 q, .int .i64 1, .int .i64 2, .int .i64 (5 + r), .int .i64 3, .int .i64 1, .bool false]) := Lib.hid (Blk.new _ _ _)
     obtain ⟨g10, hg10⟩ : ∃ g, wy.heap.size = g := ⟨_, rfl⟩
     rw [hg10] at G10 ⊢
     clear hg10 hba f0 f1 f2 f3 f4 f5 f6 e0 N3 H42
     generalize wy.alloc _ = w7 at *
     have m0 : w7.cell? ⟨g10, 0, none⟩ = some (.int .i64 q) := G10.out.cell 0
     have m1 : w7.cell? ⟨g10, 1, none⟩ = some (.int .i64 1) := G10.out.cell 1
     have m2 : w7.cell? ⟨g10, 2, none⟩ = some (.int .i64 2) := G10.out.cell 2
     have m3 : w7.cell? ⟨g10, 3, none⟩ = some (.int .i64 (5 + r)) := G10.out.cell 3
     have m4 : w7.cell? ⟨g10, 4, none⟩ = some (.int .i64 3) := G10.out.cell 4
     have m5 : w7.cell? ⟨g10, 5, none⟩ = some (.int .i64 1) := G10.out.cell 5
     have m6 : w7.cell? ⟨g10, 6, none⟩ = some (.bool false) := G10.out.cell 6
     have hen := renc_any ⟨q, 1, 2, 5 + r, 3, 1, false⟩ w7 (⟨by decide, by decide⟩ : (0 : Int) ≤ 1 ∧ (1 : Int) ≤ 255) (.inr rfl)
     unfold Mg.agg at hen
     have HEN := Lib.hid hen
     clear hen
     go_wp2_with fail
     refine HEN.out.mono ?_
     rintro e w8 ⟨vb, rfl, hrb, hb8⟩
     obtain ⟨b, hbe⟩ : ∃ b, encM ⟨q, 1, 2, 5 + r, 3, 1, false⟩ = b := ⟨_, rfl⟩
     have hl35 : b.length = 35 := by rw [← hbe]; exact encM_len _
     have HBO : Hid (∀ z ∈ b, isByte z) := Lib.hid (by rw [← hbe]; exact encM_byte _)
     rw [hbe] at hrb
     obtain ⟨gb, cap, hvb, hcap⟩ := rowB hrb (by rw [hl35]; decide)
     have HBL : Hid (b.length ≤ 900000) := Lib.hid (by rw [hl35]; decide)
     have HL2 : Hid (2 ≤ b.length) := Lib.hid (by rw [hl35]; decide)
     have N5 := Lib.hid (N4.out.below hb8)
     have H45 := Lib.hid (H44.out.below hb8)
     obtain ⟨hv, hw, s, t, hT⟩ := N5.out.two
     have GD := Lib.hid N5.out.gd
     have L1 := Lib.hid N5.out.l1
     have T5 := Lib.hid hT
     subst hvb
     obtain ⟨l, hl⟩ : ∃ l, b.length = l := ⟨_, rfl⟩
     have HRB := Lib.hid hrb
     have z1 : ¬ cap = 1 := by omega
     have z2 : 1 ≤ b.length := by omega
     have z3 : (1 : Int) ≤ (b.length : Int) := by omega
     have z4 : 1 ≤ cap := by omega
     have z5 : b.length ≤ cap := hcap
     clear hrb hb8 HEN hbe hl35 hT N4 H44 hl G10 m0 m1 m2 m3 m4 m5 m6
     go_upto_region 23 with (fail)
     have hd1 : Below w8.heap.size w8 w8.drew := Below.drewN_of w8 1
     have T6 := Lib.hid (T5.out.below hd1)
     have R6 := Lib.hid (HRB.out.below hd1)
     have GD0 := Lib.hid (GD.out.below hd1)
     have L10 := Lib.hid (L1.out.below hd1)
     have H420 := Lib.hid (H45.out.below hd1)
     clear T5 HRB hd1
     refine wp_region_E (S := fun _ => True) (by kernel_rfl) True.intro (fun hHeld => ?_)
     refine wpE_tk 0 (oi := ?o55) (v := ?v55) ?h55 (by kernel_rfl) ?q55 ?y55 (by assumption) ?_
     case h55 => (simp only [List.getElem?_toArray]; rfl)
     case q55 => exact fun _ _ _ h => h
     case y55 => exact Or.inl ⟨by rfl, by (intro w hSw; (try dsimp only at hSw); go_simp; try with_reducible rfl)⟩
     try simp only [Act.put, sA, sB, sC]
     refine wpE_tk 1 (oi := ?o56) (v := ?v56) ?h56 (by kernel_rfl) ?q56 ?y56 (by assumption) ?_
     case h56 => (simp only [List.getElem?_toArray]; rfl)
     case q56 => exact fun _ _ _ h => h
     case y56 => exact Or.inl ⟨by rfl, by (intro w hSw; (try dsimp only at hSw); go_simp; try with_reducible rfl)⟩
     try simp only [Act.put, sA, sB, sC]
     refine wpE_tk 3 (oi := ?o57) (v := ?v57) ?h57 (by kernel_rfl) ?q57 ?y57 (by assumption) ?_
     case h57 => (simp only [List.getElem?_toArray]; rfl)
     case q57 => exact fun _ _ _ h => h
     case y57 => exact Or.inl ⟨by rfl, by (intro w hSw; (try dsimp only at hSw); go_simp; try with_reducible rfl)⟩
     try simp only [Act.put, sA, sB, sC]
     refine wpE_tk 4 (oi := ?o58) (v := ?v58) ?h58 (by kernel_rfl) ?q58 ?y58 (by assumption) ?_
     case h58 => (simp only [List.getElem?_toArray]; rfl)
     case q58 => exact fun _ _ _ h => h
     case y58 => exact Or.inl ⟨by rfl, by (intro w hSw; (try dsimp only at hSw); go_simp; try with_reducible rfl)⟩
     try simp only [Act.put, sA, sB, sC]
     have HCA := Lib.hid (vtake_any T6.out.v T6.out.ok T6.out.rel.a (by decide) (by omega) R6.out.sl HBL.out HBO.out)
     refine wpE_one (i := 2) (o := ?o106) ?ho106 (by kernel_rfl) (fun K hK => ?_)
     case ho106 => (simp only [List.getElem?_toArray]; rfl)
     go_simp
     refine HCA.out.mono ?_
     rintro e waA ⟨rfl, hvA, hvw1, hk1, ho1⟩
     have RVA := Lib.hid (T6.out.one hk1)
     have RBA := Lib.hid (T6.out.row hk1 R6.out)
     refine hK.out _ _ True.intro (fun hHeld => ?_)
     clear hK K HCA
     have hdA := dtake_any RVA.out (T6.out.ok.of_rel T6.out.rel) (by decide) (by omega) (RBA.out.sl) HBL.out HBO.out
     rw [(take_rel T6.out.rel).1] at hdA
     have HDA := Lib.hid hdA
     clear hdA
     refine wpE_one (i := 5) (o := ?o107) ?ho107 (by kernel_rfl) (fun K hK => ?_)
     case ho107 => (simp only [List.getElem?_toArray]; rfl)
     go_simp
     refine HDA.out.mono ?_
     rintro e wbA ⟨rfl, hwA, hrw1, hk2, ho2⟩
     have T7 := Lib.hid (T6.out.two hvw1 hk1 ho1 hrw1 hk2 ho2 (take_rel T6.out.rel).2 (take_ok HBO.out T6.out.ok))
     have R7 := Lib.hid (T6.out.row2 hk1 hk2 R6.out)
     have GDA := Lib.hid (T6.out.blk hk1 hk2 GD0.out (by decide) (by decide) (.inr N5.out.g5B))
     have L1A := Lib.hid (T6.out.blk hk1 hk2 L10.out (by decide) (by decide) (.inl (by decide)))
     have H42A := Lib.hid (T6.out.blk hk1 hk2 H420.out (by decide) (by decide) (.inl (by decide)))
     refine hK.out _ _ True.intro (fun hHeld => ?_)
     clear hK K HDA hvw1 hk1 ho1 hrw1 hk2 ho2 RVA RBA T6 R6
     refine wpE_tk 6 (oi := ?o59) (v := ?v59) ?h59 (by kernel_rfl) ?q59 ?y59 (by assumption) ?_
     case h59 => (simp only [List.getElem?_toArray]; rfl)
     case q59 => exact fun _ _ _ h => h
     case y59 => exact Or.inl ⟨by rfl, by (intro w hSw; (try dsimp only at hSw); go_simp; try with_reducible rfl)⟩
     try simp only [Act.put, sA, sB, sC]
     refine wpE_tk 7 (oi := ?o60) (v := ?v60) ?h60 (by kernel_rfl) ?q60 ?y60 (by assumption) ?_
     case h60 => (simp only [List.getElem?_toArray]; rfl)
     case q60 => exact fun _ _ _ h => h
     case y60 => exact Or.inl ⟨by rfl, by (intro w hSw; (try dsimp only at hSw); go_simp; try with_reducible rfl)⟩
     try simp only [Act.put, sA, sB, sC]
     refine wpE_tk 8 (oi := ?o61) (v := ?v61) ?h61 (by kernel_rfl) ?q61 ?y61 (by assumption) ?_
     case h61 => (simp only [List.getElem?_toArray]; rfl)
     case q61 => exact fun _ _ _ h => h
     case y61 => exact Or.inl ⟨by rfl, by (intro w hSw; (try dsimp only at hSw); go_simp; try with_reducible rfl)⟩
     try simp only [Act.put, sA, sB, sC]
     refine wpE_tk 9 (oi := ?o62) (v := ?v62) ?h62 (by kernel_rfl) ?q62 ?y62 (by assumption) ?_
     case h62 => (simp only [List.getElem?_toArray]; rfl)
     case q62 => exact fun _ _ _ h => h
     case y62 => exact Or.inl ⟨by rfl, by (intro w hSw; (try dsimp only at hSw); go_simp; try with_reducible rfl)⟩
     try simp only [Act.put, sA, sB, sC]
     refine wpE_tk 10 (oi := ?o63) (v := ?v63) ?h63 (by kernel_rfl) ?q63 ?y63 (by assumption) ?_
     case h63 => (simp only [List.getElem?_toArray]; rfl)
     case q63 => exact fun _ _ _ h => h
     case y63 => exact Or.inl ⟨by rfl, by (intro w hSw; (try dsimp only at hSw); go_simp; try with_reducible rfl)⟩
     try simp only [Act.put, sA, sB, sC]
     refine wpE_tk 12 (oi := ?o64) (v := ?v64) ?h64 (by kernel_rfl) ?q64 ?y64 (by assumption) ?_
     case h64 => (simp only [List.getElem?_toArray]; rfl)
     case q64 => exact fun _ _ _ h => h
     case y64 => exact Or.inl ⟨by rfl, by (intro w hSw; (try dsimp only at hSw); go_simp; try with_reducible rfl)⟩
     try simp only [Act.put, sA, sB, sC]
     refine wpE_tk 13 (oi := ?o65) (v := ?v65) ?h65 (by kernel_rfl) ?q65 ?y65 (by assumption) ?_
     case h65 => (simp only [List.getElem?_toArray]; rfl)
     case q65 => exact fun _ _ _ h => h
     case y65 => exact Or.inl ⟨by rfl, by (intro w hSw; (try dsimp only at hSw); go_simp; try with_reducible rfl)⟩
     try simp only [Act.put, sA, sB, sC]
     refine wpE_tk 14 (oi := ?o66) (v := ?v66) ?h66 (by kernel_rfl) ?q66 ?y66 (by assumption) ?_
     case h66 => (simp only [List.getElem?_toArray]; rfl)
     case q66 => exact fun _ _ _ h => h
     case y66 => exact Or.inl ⟨by rfl, by (intro w hSw; (try dsimp only at hSw); go_simp; try with_reducible rfl)⟩
     try simp only [Act.put, sA, sB, sC]
     have HCB := Lib.hid (vtake_any T7.out.v T7.out.ok T7.out.rel.a (by decide) (by omega) (tailB R7.out HL2.out) (by rw [List.length_drop]; have := HBL.out; omega) (fun z hz => HBO.out z (List.mem_of_mem_drop hz)))
     refine wpE_one (i := 11) (o := ?o108) ?ho108 (by kernel_rfl) (fun K hK => ?_)
     case ho108 => (simp only [List.getElem?_toArray]; rfl)
     go_simp
     refine HCB.out.mono ?_
     rintro e waB ⟨rfl, hvB, hvw1, hk1, ho1⟩
     have RVB := Lib.hid (T7.out.one hk1)
     have RBB := Lib.hid (T7.out.row hk1 R7.out)
     refine hK.out _ _ True.intro (fun hHeld => ?_)
     clear hK K HCB
     have hdB := dtake_any RVB.out (T7.out.ok.of_rel T7.out.rel) (by decide) (by omega) ((tailB RBB.out HL2.out)) (by rw [List.length_drop]; have := HBL.out; omega) (fun z hz => HBO.out z (List.mem_of_mem_drop hz))
     rw [(take_rel T7.out.rel).1] at hdB
     have HDB := Lib.hid hdB
     clear hdB
     refine wpE_one (i := 15) (o := ?o109) ?ho109 (by kernel_rfl) (fun K hK => ?_)
     case ho109 => (simp only [List.getElem?_toArray]; rfl)
     go_simp
     refine HDB.out.mono ?_
     rintro e wbB ⟨rfl, hwB, hrw1, hk2, ho2⟩
     have T8 := Lib.hid (T7.out.two hvw1 hk1 ho1 hrw1 hk2 ho2 (take_rel T7.out.rel).2 (take_ok (fun z hz => HBO.out z (List.mem_of_mem_drop hz)) T7.out.ok))
     have R8 := Lib.hid (T7.out.row2 hk1 hk2 R7.out)
     have GDB := Lib.hid (T7.out.blk hk1 hk2 GDA.out (by decide) (by decide) (.inr N5.out.g5B))
     have L1B := Lib.hid (T7.out.blk hk1 hk2 L1A.out (by decide) (by decide) (.inl (by decide)))
     have H42B := Lib.hid (T7.out.blk hk1 hk2 H42A.out (by decide) (by decide) (.inl (by decide)))
     refine hK.out _ _ True.intro (fun hHeld => ?_)
     clear hK K HDB hvw1 hk1 ho1 hrw1 hk2 ho2 RVB RBB T7 R7
     refine wpE_tk 16 (oi := ?o67) (v := ?v67) ?h67 (by kernel_rfl) ?q67 ?y67 (by assumption) ?_
     case h67 => (simp only [List.getElem?_toArray]; rfl)
     case q67 => exact fun _ _ _ h => h
     case y67 => exact Or.inl ⟨by rfl, by (intro w hSw; (try dsimp only at hSw); go_simp; try with_reducible rfl)⟩
     try simp only [Act.put, sA, sB, sC]
     refine wpE_tk 17 (oi := ?o68) (v := ?v68) ?h68 (by kernel_rfl) ?q68 ?y68 (by assumption) ?_
     case h68 => (simp only [List.getElem?_toArray]; rfl)
     case q68 => exact fun _ _ _ h => h
     case y68 => exact Or.inl ⟨by rfl, by (intro w hSw; (try dsimp only at hSw); go_simp; try with_reducible rfl)⟩
     try simp only [Act.put, sA, sB, sC]
     refine wpE_tk 18 (oi := ?o69) (v := ?v69) ?h69 (by kernel_rfl) ?q69 ?y69 (by assumption) ?_
     case h69 => (simp only [List.getElem?_toArray]; rfl)
     case q69 => exact fun _ _ _ h => h
     case y69 => exact Or.inl ⟨by rfl, by (intro w hSw; (try dsimp only at hSw); go_simp; try with_reducible rfl)⟩
     try simp only [Act.put, sA, sB, sC]
     refine wpE_tk 19 (oi := ?o70) (v := ?v70) ?h70 (by kernel_rfl) ?q70 ?y70 (by assumption) ?_
     case h70 => (simp only [List.getElem?_toArray]; rfl)
     case q70 => exact fun _ _ _ h => h
     case y70 => exact Or.inl ⟨by rfl, by (intro w hSw; (try dsimp only at hSw); go_simp; try with_reducible rfl)⟩
     try simp only [Act.put, sA, sB, sC]
     refine wpE_tk 20 (oi := ?o71) (v := ?v71) ?h71 (by kernel_rfl) ?q71 ?y71 (by assumption) ?_
     case h71 => (simp only [List.getElem?_toArray]; rfl)
     case q71 => exact fun _ _ _ h => h
     case y71 => exact Or.inl ⟨by rfl, by (intro w hSw; (try dsimp only at hSw); go_simp; try with_reducible rfl)⟩
     try simp only [Act.put, sA, sB, sC]
     have HSM := Lib.hid (lsame_any T8.out.v T8.out.r T8.out.rel (by rw [T8.out.ok.len]; decide) (takes_len T8.out.ok) (by omega))
     refine wpE_one (i := 21) (o := ?o110) ?ho110 (by kernel_rfl) (fun K hK => ?_)
     case ho110 => (simp only [List.getElem?_toArray]; rfl)
     go_simp
     refine HSM.out.mono ?_
     rintro e wc ⟨rfl, hbc⟩
     have T9 := Lib.hid (T8.out.below hbc)
     have GD9 := Lib.hid (GDB.out.below hbc)
     have L19 := Lib.hid (L1B.out.below hbc)
     have H429 := Lib.hid (H42B.out.below hbc)
     refine hK.out _ _ True.intro (fun hHeld => ?_)
     clear hK K HSM hbc T8 R8
     refine wpE_tk 22 (oi := ?o72) (v := ?v72) ?h72 (by kernel_rfl) ?q72 ?y72 (by assumption) ?_
     case h72 => (simp only [List.getElem?_toArray]; rfl)
     case q72 => exact fun _ _ _ h => h
     case y72 => exact Or.inl ⟨by rfl, by (intro w hSw; (try dsimp only at hSw); go_simp; try with_reducible rfl)⟩
     try simp only [Act.put, sA, sB, sC]
     refine wpE_last (i := 23) (o := ?o119) ?ho119 (by kernel_rfl) (by kernel_rfl) (by kernel_rfl) (fun K hK => ?_)
     case ho119 => (simp only [List.getElem?_toArray]; rfl)
     go_simp
     refine hK.out _ _ ?_
     clear hK K hHeld
     have NE : Hid (NI wW wc pv pw B g5 gl lst1 (8 * k + 2 * 4)) := Lib.hid ⟨⟨_, _, _, _, T9.out.more (by omega)⟩, GD9.out, N5.out.g5B, L19.out⟩
     clear T9 GD9 L19 N5
     go_wp2_with fail
     go_roundw
     case rel => exact ⟨4, by go_num, .inr (.inr (.inr (.inr rfl))), NE.out, H429.out⟩
     case measure => simp [RowKit.intOf]
    ·clear f0 f1 f2 f3 f4 f5 f6
     go_wp2_with fail
     go_roundw
     case rel => exact ⟨k + 1, by go_num, hlt, N3.out.more (by omega)⟩
     case measure => simp [RowKit.intOf]; omega
  ·have hbl := Below.allocN wz (.cells #[.int .i64 (-1), .int .i64 5, .int .i64 6, .int .i64 4611686018427387903, .int .i64 4611686018427387904] 2)
   have hbk : Blk (wz.alloc (.cells #[.int .i64 (-1), .int .i64 5, .int .i64 6, .int .i64 4611686018427387903, .int .i64 4611686018427387904] 2)) wz.heap.size 2 (lst2.map (Value.int .i64)).toArray := Blk.new _ _ _
   have N2 : Hid (NI wW (wz.alloc (.cells #[.int .i64 (-1), .int .i64 5, .int .i64 6, .int .i64 4611686018427387903, .int .i64 4611686018427387904] 2)) pv pw B g5 wz.heap.size lst2 110) := Lib.hid (by
    have h := (N1.out.more (show 8 * k ≤ 110 by omega)).below hbl
    exact ⟨h.two, h.gd, h.g5B, hbk⟩)
   clear hbl hbk N1
   go_upto_region 28 with (fail)
   obtain ⟨gm, hgm⟩ : ∃ g, wz.heap.size = g := ⟨_, rfl⟩
   rw [hgm] at N2 ⊢
   clear hgm
   generalize wz.alloc _ = w6 at *
   go_loopw [99] (fun i w' => ∃ k : Nat, i = .int .i64 k ∧ k ≤ 5 ∧ NI wW w' pv pw B g5 gm lst2 110) (fun i _ => 5 - (RowKit.intOf i).toNat)
   case atStart => exact ⟨0, rfl, by decide, N2.out⟩
   case round =>
    clear N2
    obtain ⟨k2, rfl, hk2, hN⟩ := hrel
    obtain ⟨wy, rfl⟩ : ∃ wo : World, wo = wr := ⟨_, rfl⟩
    have N3 := Lib.hid hN
    clear hN
    by_cases hlt2 : k2 < 5
    ·have hlt2' : (k2 : Int) < 5 := by omega
     obtain ⟨q, hq⟩ : ∃ q, lst2[k2]? = some q := ⟨_, List.getElem?_eq_getElem (by show k2 < 5; exact hlt2)⟩
     have e0 : wy.cell? ⟨gm, k2, none⟩ = some (.int .i64 q) := by rw [N3.out.l1.cell k2, List.getElem?_toArray, List.getElem?_map, hq]; rfl
     have hbl := Below.allocN wy (.cells #[.int .i64 6, .int .i64 5, .int .i64 0] 3)
     have H42 : Hid (Blk (wy.alloc (.cells #[.int .i64 6, .int .i64 5, .int .i64 0] 3)) wy.heap.size 3 (lst3.map (fun n : Nat => Value.int .i64 n)).toArray) := Lib.hid (Blk.new _ _ _)
     have N4 := Lib.hid (N3.out.below hbl)
     clear hq hbl
     go_upto_region 31 with (fail)
     obtain ⟨g42, hg42⟩ : ∃ g, wy.heap.size = g := ⟨_, rfl⟩
     rw [hg42] at H42 ⊢
     clear hg42 e0 N3
     generalize wy.alloc _ = w7 at *
     go_loopw [105] (fun i w' => ∃ j : Nat, i = .int .i64 j ∧ j ≤ 3 ∧ NI wW w' pv pw B g5 gm lst2 110 ∧ Blk w' g42 3 (lst3.map (fun n : Nat => Value.int .i64 n)).toArray) (fun i _ => 3 - (RowKit.intOf i).toNat)
     case atStart => exact ⟨0, rfl, by decide, N4.out, H42.out⟩
     case round =>
      clear N4 H42
      obtain ⟨j, rfl, hj, hN, h42⟩ := hrel
      obtain ⟨wx, rfl⟩ : ∃ wo : World, wo = wr := ⟨_, rfl⟩
      have N5 := Lib.hid hN
      have H45 := Lib.hid h42
      clear hN h42
      by_cases hlt3 : j < 3
      ·have hlt3' : (j : Int) < 3 := by omega
       obtain ⟨n, hn⟩ : ∃ n, lst3[j]? = some n := ⟨_, List.getElem?_eq_getElem (by show j < 3; exact hlt3)⟩
       have hn6 := lst3_ok n (List.mem_of_getElem? hn)
       have e0 : wx.cell? ⟨g42, j, none⟩ = some (.int .i64 n) := by rw [H45.out.cell j, List.getElem?_toArray, List.getElem?_map, hn]; rfl
       obtain ⟨i0, hi, hz0, hz1, hz2⟩ := info_parts rpr_info
       have hmk := run_makeSlice (P := Try.prog) wx 42 82 i0 _ Try.underlying42 hi hz0 .i64 .i64 n n (by omega) (by omega) (by rw [hz1]; omega) (by rw [hz2]; omega) (by omega)
       rw [hz1, Int.toNat_natCast, made_prs] at hmk
       have hvo := VO.made (Z := RPR) (Y := RLV) wx rfl rfl n (by omega)
       have hba := Below.allocN wx (.cells ((List.replicate n zeroPr).flatMap Pr.cells).toArray 82)
       have hlen : (List.replicate n (zeroSd, zeroSd)).length = n := List.length_replicate
       have hen := rsenc_any (a := some ⟨wx.heap.size, 0, none⟩) (c := n) (V := List.replicate n (zeroSd, zeroSd)) (by rw [hlen]; exact hvo) (by rw [hlen]; omega) (right0 n hn6) q
       rw [hlen] at hen
       have HEN := Lib.hid hen
       have N6 := Lib.hid (N5.out.below hba)
       have H46 := Lib.hid (H45.out.below hba)
       have HN6 := Lib.hid hn6
       clear hn hi hz0 hz1 hz2 hvo hba hen hlen hn6
       go_wp2_with fail
       refine HEN.out.mono ?_
       rintro e w8 ⟨vb, rfl, hrb, hb8⟩
       obtain ⟨b, hbe⟩ : ∃ b, encS (List.replicate n (zeroSd, zeroSd)) q = b := ⟨_, rfl⟩
       have h4 : 4 ≤ b.length := by rw [← hbe]; exact encS_len4 _ _
       have hbl : b.length ≤ 900000 := by
        have h1 : LenV (List.replicate n (zeroSd, zeroSd)) 0 := by
         intro p hp
         have := List.eq_of_mem_replicate hp
         subst this
         exact ⟨Nat.le_refl _, Nat.le_refl _⟩
        have h2 := encB_len q h1
        rw [List.length_replicate] at h2
        have h3 : (encS (List.replicate n (zeroSd, zeroSd)) q).length = (encB (List.replicate n (zeroSd, zeroSd)) q).length + 4 := by unfold encS; rw [List.length_append]; rfl
        rw [hbe] at h3
        have := HN6.out
        omega
       have HBO : Hid (∀ z ∈ b, isByte z) := Lib.hid (by rw [← hbe]; exact encS_byte _ _)
       rw [hbe] at hrb
       obtain ⟨gb, cap, hvb, hcap⟩ := rowB hrb (by omega)
       have HBL := Lib.hid hbl
       have HL2 : Hid (2 ≤ b.length) := Lib.hid (by omega)
       have N7 := Lib.hid (N6.out.below hb8)
       have H47 := Lib.hid (H46.out.below hb8)
       obtain ⟨hv, hw, s, t, hT⟩ := N7.out.two
       have GD := Lib.hid N7.out.gd
       have L1 := Lib.hid N7.out.l1
       have T5 := Lib.hid hT
       subst hvb
       have HRB := Lib.hid hrb
       have z1 : ¬ cap = 1 := by omega
       have z2 : 1 ≤ b.length := by omega
       have z3 : (1 : Int) ≤ (b.length : Int) := by omega
       have z4 : 1 ≤ cap := by omega
       have z5 : b.length ≤ cap := hcap
       clear hrb hb8 HEN hbe hbl h4 hT N5 N6 H45 H46 hmk e0
       go_upto_region 34 with (fail)
       have hd1 : Below w8.heap.size w8 w8.drew := Below.drewN_of w8 1
       have T6 := Lib.hid (T5.out.below hd1)
       have R6 := Lib.hid (HRB.out.below hd1)
       have GD0 := Lib.hid (GD.out.below hd1)
       have L10 := Lib.hid (L1.out.below hd1)
       have H420 := Lib.hid (H47.out.below hd1)
       clear T5 HRB hd1
       refine wp_region_E (S := fun _ => True) (by kernel_rfl) True.intro (fun hHeld => ?_)
       refine wpE_tk 0 (oi := ?o73) (v := ?v73) ?h73 (by kernel_rfl) ?q73 ?y73 (by assumption) ?_
       case h73 => (simp only [List.getElem?_toArray]; rfl)
       case q73 => exact fun _ _ _ h => h
       case y73 => exact Or.inl ⟨by rfl, by (intro w hSw; (try dsimp only at hSw); go_simp; try with_reducible rfl)⟩
       try simp only [Act.put, sA, sB, sC]
       refine wpE_tk 1 (oi := ?o74) (v := ?v74) ?h74 (by kernel_rfl) ?q74 ?y74 (by assumption) ?_
       case h74 => (simp only [List.getElem?_toArray]; rfl)
       case q74 => exact fun _ _ _ h => h
       case y74 => exact Or.inl ⟨by rfl, by (intro w hSw; (try dsimp only at hSw); go_simp; try with_reducible rfl)⟩
       try simp only [Act.put, sA, sB, sC]
       refine wpE_tk 3 (oi := ?o75) (v := ?v75) ?h75 (by kernel_rfl) ?q75 ?y75 (by assumption) ?_
       case h75 => (simp only [List.getElem?_toArray]; rfl)
       case q75 => exact fun _ _ _ h => h
       case y75 => exact Or.inl ⟨by rfl, by (intro w hSw; (try dsimp only at hSw); go_simp; try with_reducible rfl)⟩
       try simp only [Act.put, sA, sB, sC]
       refine wpE_tk 4 (oi := ?o76) (v := ?v76) ?h76 (by kernel_rfl) ?q76 ?y76 (by assumption) ?_
       case h76 => (simp only [List.getElem?_toArray]; rfl)
       case q76 => exact fun _ _ _ h => h
       case y76 => exact Or.inl ⟨by rfl, by (intro w hSw; (try dsimp only at hSw); go_simp; try with_reducible rfl)⟩
       try simp only [Act.put, sA, sB, sC]
       have HCA := Lib.hid (vsnap_any T6.out.v T6.out.ok (by omega) R6.out.sl HBL.out HBO.out)
       refine wpE_one (i := 2) (o := ?o111) ?ho111 (by kernel_rfl) (fun K hK => ?_)
       case ho111 => (simp only [List.getElem?_toArray]; rfl)
       go_simp
       refine HCA.out.mono ?_
       rintro e waA ⟨rfl, hvA, hvw1, hk1, ho1⟩
       have RVA := Lib.hid (T6.out.one hk1)
       have RBA := Lib.hid (T6.out.row hk1 R6.out)
       refine hK.out _ _ True.intro (fun hHeld => ?_)
       clear hK K HCA
       have hdA := dsnap_any RVA.out (T6.out.ok.of_rel T6.out.rel) (by omega) (RBA.out.sl) HBL.out HBO.out
       rw [(snap_rel T6.out.rel).1] at hdA
       have HDA := Lib.hid hdA
       clear hdA
       refine wpE_one (i := 5) (o := ?o112) ?ho112 (by kernel_rfl) (fun K hK => ?_)
       case ho112 => (simp only [List.getElem?_toArray]; rfl)
       go_simp
       refine HDA.out.mono ?_
       rintro e wbA ⟨rfl, hwA, hrw1, hk2, ho2⟩
       have T7 := Lib.hid (T6.out.two hvw1 hk1 ho1 hrw1 hk2 ho2 (snap_rel T6.out.rel).2 (snap_ok T6.out.ok))
       have R7 := Lib.hid (T6.out.row2 hk1 hk2 R6.out)
       have GDA := Lib.hid (T6.out.blk hk1 hk2 GD0.out (by decide) (by decide) (.inr N7.out.g5B))
       have L1A := Lib.hid (T6.out.blk hk1 hk2 L10.out (by decide) (by decide) (.inl (by decide)))
       have H42A := Lib.hid (T6.out.blk hk1 hk2 H420.out (by decide) (by decide) (.inl (by decide)))
       refine hK.out _ _ True.intro (fun hHeld => ?_)
       clear hK K HDA hvw1 hk1 ho1 hrw1 hk2 ho2 RVA RBA T6 R6
       refine wpE_tk 6 (oi := ?o77) (v := ?v77) ?h77 (by kernel_rfl) ?q77 ?y77 (by assumption) ?_
       case h77 => (simp only [List.getElem?_toArray]; rfl)
       case q77 => exact fun _ _ _ h => h
       case y77 => exact Or.inl ⟨by rfl, by (intro w hSw; (try dsimp only at hSw); go_simp; try with_reducible rfl)⟩
       try simp only [Act.put, sA, sB, sC]
       refine wpE_tk 7 (oi := ?o78) (v := ?v78) ?h78 (by kernel_rfl) ?q78 ?y78 (by assumption) ?_
       case h78 => (simp only [List.getElem?_toArray]; rfl)
       case q78 => exact fun _ _ _ h => h
       case y78 => exact Or.inl ⟨by rfl, by (intro w hSw; (try dsimp only at hSw); go_simp; try with_reducible rfl)⟩
       try simp only [Act.put, sA, sB, sC]
       refine wpE_tk 8 (oi := ?o79) (v := ?v79) ?h79 (by kernel_rfl) ?q79 ?y79 (by assumption) ?_
       case h79 => (simp only [List.getElem?_toArray]; rfl)
       case q79 => exact fun _ _ _ h => h
       case y79 => exact Or.inl ⟨by rfl, by (intro w hSw; (try dsimp only at hSw); go_simp; try with_reducible rfl)⟩
       try simp only [Act.put, sA, sB, sC]
       refine wpE_tk 9 (oi := ?o80) (v := ?v80) ?h80 (by kernel_rfl) ?q80 ?y80 (by assumption) ?_
       case h80 => (simp only [List.getElem?_toArray]; rfl)
       case q80 => exact fun _ _ _ h => h
       case y80 => exact Or.inl ⟨by rfl, by (intro w hSw; (try dsimp only at hSw); go_simp; try with_reducible rfl)⟩
       try simp only [Act.put, sA, sB, sC]
       refine wpE_tk 10 (oi := ?o81) (v := ?v81) ?h81 (by kernel_rfl) ?q81 ?y81 (by assumption) ?_
       case h81 => (simp only [List.getElem?_toArray]; rfl)
       case q81 => exact fun _ _ _ h => h
       case y81 => exact Or.inl ⟨by rfl, by (intro w hSw; (try dsimp only at hSw); go_simp; try with_reducible rfl)⟩
       try simp only [Act.put, sA, sB, sC]
       refine wpE_tk 12 (oi := ?o82) (v := ?v82) ?h82 (by kernel_rfl) ?q82 ?y82 (by assumption) ?_
       case h82 => (simp only [List.getElem?_toArray]; rfl)
       case q82 => exact fun _ _ _ h => h
       case y82 => exact Or.inl ⟨by rfl, by (intro w hSw; (try dsimp only at hSw); go_simp; try with_reducible rfl)⟩
       try simp only [Act.put, sA, sB, sC]
       refine wpE_tk 13 (oi := ?o83) (v := ?v83) ?h83 (by kernel_rfl) ?q83 ?y83 (by assumption) ?_
       case h83 => (simp only [List.getElem?_toArray]; rfl)
       case q83 => exact fun _ _ _ h => h
       case y83 => exact Or.inl ⟨by rfl, by (intro w hSw; (try dsimp only at hSw); go_simp; try with_reducible rfl)⟩
       try simp only [Act.put, sA, sB, sC]
       refine wpE_tk 14 (oi := ?o84) (v := ?v84) ?h84 (by kernel_rfl) ?q84 ?y84 (by assumption) ?_
       case h84 => (simp only [List.getElem?_toArray]; rfl)
       case q84 => exact fun _ _ _ h => h
       case y84 => exact Or.inl ⟨by rfl, by (intro w hSw; (try dsimp only at hSw); go_simp; try with_reducible rfl)⟩
       try simp only [Act.put, sA, sB, sC]
       have HCB := Lib.hid (vsnap_any T7.out.v T7.out.ok (by omega) (tailB R7.out HL2.out) (by rw [List.length_drop]; have := HBL.out; omega) (fun z hz => HBO.out z (List.mem_of_mem_drop hz)))
       refine wpE_one (i := 11) (o := ?o113) ?ho113 (by kernel_rfl) (fun K hK => ?_)
       case ho113 => (simp only [List.getElem?_toArray]; rfl)
       go_simp
       refine HCB.out.mono ?_
       rintro e waB ⟨rfl, hvB, hvw1, hk1, ho1⟩
       have RVB := Lib.hid (T7.out.one hk1)
       have RBB := Lib.hid (T7.out.row hk1 R7.out)
       refine hK.out _ _ True.intro (fun hHeld => ?_)
       clear hK K HCB
       have hdB := dsnap_any RVB.out (T7.out.ok.of_rel T7.out.rel) (by omega) ((tailB RBB.out HL2.out)) (by rw [List.length_drop]; have := HBL.out; omega) (fun z hz => HBO.out z (List.mem_of_mem_drop hz))
       rw [(snap_rel T7.out.rel).1] at hdB
       have HDB := Lib.hid hdB
       clear hdB
       refine wpE_one (i := 15) (o := ?o114) ?ho114 (by kernel_rfl) (fun K hK => ?_)
       case ho114 => (simp only [List.getElem?_toArray]; rfl)
       go_simp
       refine HDB.out.mono ?_
       rintro e wbB ⟨rfl, hwB, hrw1, hk2, ho2⟩
       have T8 := Lib.hid (T7.out.two hvw1 hk1 ho1 hrw1 hk2 ho2 (snap_rel T7.out.rel).2 (snap_ok T7.out.ok))
       have R8 := Lib.hid (T7.out.row2 hk1 hk2 R7.out)
       have GDB := Lib.hid (T7.out.blk hk1 hk2 GDA.out (by decide) (by decide) (.inr N7.out.g5B))
       have L1B := Lib.hid (T7.out.blk hk1 hk2 L1A.out (by decide) (by decide) (.inl (by decide)))
       have H42B := Lib.hid (T7.out.blk hk1 hk2 H42A.out (by decide) (by decide) (.inl (by decide)))
       refine hK.out _ _ True.intro (fun hHeld => ?_)
       clear hK K HDB hvw1 hk1 ho1 hrw1 hk2 ho2 RVB RBB T7 R7
       refine wpE_tk 16 (oi := ?o85) (v := ?v85) ?h85 (by kernel_rfl) ?q85 ?y85 (by assumption) ?_
       case h85 => (simp only [List.getElem?_toArray]; rfl)
       case q85 => exact fun _ _ _ h => h
       case y85 => exact Or.inl ⟨by rfl, by (intro w hSw; (try dsimp only at hSw); go_simp; try with_reducible rfl)⟩
       try simp only [Act.put, sA, sB, sC]
       refine wpE_tk 17 (oi := ?o86) (v := ?v86) ?h86 (by kernel_rfl) ?q86 ?y86 (by assumption) ?_
       case h86 => (simp only [List.getElem?_toArray]; rfl)
       case q86 => exact fun _ _ _ h => h
       case y86 => exact Or.inl ⟨by rfl, by (intro w hSw; (try dsimp only at hSw); go_simp; try with_reducible rfl)⟩
       try simp only [Act.put, sA, sB, sC]
       refine wpE_tk 18 (oi := ?o87) (v := ?v87) ?h87 (by kernel_rfl) ?q87 ?y87 (by assumption) ?_
       case h87 => (simp only [List.getElem?_toArray]; rfl)
       case q87 => exact fun _ _ _ h => h
       case y87 => exact Or.inl ⟨by rfl, by (intro w hSw; (try dsimp only at hSw); go_simp; try with_reducible rfl)⟩
       try simp only [Act.put, sA, sB, sC]
       refine wpE_tk 19 (oi := ?o88) (v := ?v88) ?h88 (by kernel_rfl) ?q88 ?y88 (by assumption) ?_
       case h88 => (simp only [List.getElem?_toArray]; rfl)
       case q88 => exact fun _ _ _ h => h
       case y88 => exact Or.inl ⟨by rfl, by (intro w hSw; (try dsimp only at hSw); go_simp; try with_reducible rfl)⟩
       try simp only [Act.put, sA, sB, sC]
       refine wpE_tk 20 (oi := ?o89) (v := ?v89) ?h89 (by kernel_rfl) ?q89 ?y89 (by assumption) ?_
       case h89 => (simp only [List.getElem?_toArray]; rfl)
       case q89 => exact fun _ _ _ h => h
       case y89 => exact Or.inl ⟨by rfl, by (intro w hSw; (try dsimp only at hSw); go_simp; try with_reducible rfl)⟩
       try simp only [Act.put, sA, sB, sC]
       have HSM := Lib.hid (lsame_any T8.out.v T8.out.r T8.out.rel (by rw [T8.out.ok.len]; decide) (takes_len T8.out.ok) (by omega))
       refine wpE_one (i := 21) (o := ?o115) ?ho115 (by kernel_rfl) (fun K hK => ?_)
       case ho115 => (simp only [List.getElem?_toArray]; rfl)
       go_simp
       refine HSM.out.mono ?_
       rintro e wc ⟨rfl, hbc⟩
       have T9 := Lib.hid (T8.out.below hbc)
       have GD9 := Lib.hid (GDB.out.below hbc)
       have L19 := Lib.hid (L1B.out.below hbc)
       have H429 := Lib.hid (H42B.out.below hbc)
       refine hK.out _ _ True.intro (fun hHeld => ?_)
       clear hK K HSM hbc T8 R8
       refine wpE_tk 22 (oi := ?o90) (v := ?v90) ?h90 (by kernel_rfl) ?q90 ?y90 (by assumption) ?_
       case h90 => (simp only [List.getElem?_toArray]; rfl)
       case q90 => exact fun _ _ _ h => h
       case y90 => exact Or.inl ⟨by rfl, by (intro w hSw; (try dsimp only at hSw); go_simp; try with_reducible rfl)⟩
       try simp only [Act.put, sA, sB, sC]
       refine wpE_last (i := 23) (o := ?o120) ?ho120 (by kernel_rfl) (by kernel_rfl) (by kernel_rfl) (fun K hK => ?_)
       case ho120 => (simp only [List.getElem?_toArray]; rfl)
       go_simp
       refine hK.out _ _ ?_
       clear hK K hHeld
       have NE : Hid (NI wW wc pv pw B g5 gm lst2 110) := Lib.hid ⟨⟨_, _, _, _, T9.out⟩, GD9.out, N7.out.g5B, L19.out⟩
       clear T9 GD9 L19 N7
       go_wp2_with fail
       go_roundw
       case rel => exact ⟨j + 1, by go_num, hlt3, NE.out, H429.out⟩
       case measure => simp [RowKit.intOf]; omega
      ·go_wp2_with fail
       go_roundw
       case rel => exact ⟨k2 + 1, by go_num, hlt2, N5.out⟩
       case measure => simp [RowKit.intOf]; omega
    ·have hvb := vnew_bad zeroP wy (zeroP_pv wy) (by rw [zeroP_check]; decide)
     rw [zeroP_check] at hvb
     unfold Prod.agg Prod.cells zeroP at hvb
     have HVB := Lib.hid hvb
     obtain ⟨hv, hw, s, t, hT⟩ := N3.out.two
     have HBE := Lib.hid (HB1.out.trans (hT.v.bel.mono HB1.out.size))
     clear hvb hT N3
     go_wp2_with fail
     refine HVB.out.mono ?_
     rintro e wa ⟨rfl, hb⟩
     have HBF := Lib.hid (HBE.out.trans (hb.mono HBE.out.size))
     clear hb HVB HBE
     go_wp2_with fail
     refine (known_any wa).mono ?_
     rintro e wb ⟨rfl, hb⟩
     have HBG := Lib.hid (HBF.out.trans (hb.mono HBF.out.size))
     clear hb HBF
     go_wp2_with fail
     go_ret
     exact ⟨by trivial, HBG.out⟩
end Go.Proofs.Ytmaijkoopjocdaa
