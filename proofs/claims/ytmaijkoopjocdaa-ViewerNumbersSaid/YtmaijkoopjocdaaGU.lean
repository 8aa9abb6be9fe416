/- Merged: LSame LKnown. -/
import Derived.Test.YtmaijkoopjocdaaLIn
import Derived.Test.YtmaijkoopjocdaaRSame
import Derived.Test.YtmaijkoopjocdaaGL
import Derived.Test.YtmaijkoopjocdaaRView
import Derived.Test.YtmaijkoopjocdaaGQ
import Derived.Test.YtmaijkoopjocdaaGO
/- The walk of cornhilllaw21.same: two listeners that go alike tell the same. -/
namespace Go.Proofs.Ytmaijkoopjocdaa
open Go.RowKit Go.Lib

section
variable {W W' w : World} {pv pw n : Nat} {hv hw : Value} {s t : LSt}
set_option maxRecDepth 20000 in
set_option maxHeartbeats 16000000 in
theorem lsame_any (h : VW W w pv n hv s) (h' : RW W' w pw hw t) (hr : Rel s t) (hl : s.V.length ≤ 255) {K : Nat} (hK : LenV s.V K) (hK2 : K ≤ 800000) :
  Calls Try.prog 10 #[.pointer (some ⟨pv, 0, none⟩), .pointer (some ⟨pw, 0, none⟩)] w fun e w' => e = .returned (.bool true) ∧ Below w.heap.size w w' := by
 obtain ⟨tV, tq, tH⟩ := t
 have hv0 : tV = s.V := hr.v
 have hq0 : tq = s.seq := hr.q
 have hln : tH.length = s.H.length := hr.p.length_eq
 subst hv0
 subst hq0
 obtain ⟨a, c, hbx, hvo⟩ := h'.box
 obtain ⟨ah, ch, hvf⟩ := h'.held.form
 subst hvf
 dsimp only at hbx hvo
 rw [hln] at hbx
 have BX := Lib.hid hbx
 have HVO := Lib.hid hvo
 have HVW := Lib.hid h
 have HK : Hid (LenV s.V 800000) := Lib.hid (LenV.more hK hK2)
 obtain ⟨l, hll⟩ : ∃ l, s.H.length = l := ⟨_, rfl⟩
 obtain ⟨sb, hsb⟩ : ∃ b, decide (s.H.length = 0) = b := ⟨_, rfl⟩
 have hsb2 : ((l : Int) == 0) = sb := by rw [← hsb, ← hll, Bool.eq_iff_iff]; simp
 have HLL := Lib.hid hll
 have HSB := Lib.hid hsb
 rw [hll] at BX
 have HS : Hid (∀ wx, Below w.heap.size w wx → (fun w' => w'.cell? ⟨pw, 0, none⟩ = some (.slice a s.V.length c) ∧ w'.cell? ⟨pw, 1, none⟩ = some (.int .i64 s.seq) ∧ w'.cell? ⟨pw, 2, none⟩ = some (.slice ah l ch)) wx) := Lib.hid fun wx hb => by
  have hx := BX.out.below hb
  exact ⟨hx.cell 0, hx.cell 1, hx.cell 2⟩
 clear hbx hvo h h' hr hln hK hll hsb
 go_enter Try.func10, Try.ntmps10
 go_upto_region 1 with (fail)
 have hb1 : Below w.heap.size w (w.drewN 1) := Below.drewN_of w 1
 have HC1 := Lib.hid (vseq_any (HVW.out.below hb1))
 refine wp_region_E (S := fun w' => w'.cell? ⟨pw, 0, none⟩ = some (.slice a s.V.length c) ∧ w'.cell? ⟨pw, 1, none⟩ = some (.int .i64 s.seq) ∧ w'.cell? ⟨pw, 2, none⟩ = some (.slice ah l ch)) (by kernel_rfl) (HS.out _ (Below.refl _ _).drew) (fun hHeld => ?_)
 refine wpE_tk 0 (oi := ?o1) (v := ?v1) ?h1 (by kernel_rfl) ?q1 ?y1 (by assumption) ?_
 case h1 => (simp only [List.getElem?_toArray]; rfl)
 case q1 => exact fun _ _ _ h => h
 case y1 => exact Or.inl ⟨by rfl, by (intro w hSw; (try dsimp only at hSw); go_simp; try with_reducible rfl)⟩
 try simp only [Act.put, sA, sB, sC]
 refine wpE_tk 2 (oi := ?o2) (v := ?v2) ?h2 (by kernel_rfl) ?q2 ?y2 (by assumption) ?_
 case h2 => (simp only [List.getElem?_toArray]; rfl)
 case q2 => exact fun _ _ _ h => h
 case y2 => exact Or.inl ⟨by rfl, by (intro w hSw; (try dsimp only at hSw); go_simp; try with_reducible rfl)⟩
 try simp only [Act.put, sA, sB, sC]
 refine wpE_tk 3 (oi := ?o3) (v := ?v3) ?h3 (by kernel_rfl) ?q3 ?y3 (by assumption) ?_
 case h3 => (simp only [List.getElem?_toArray]; rfl)
 case q3 => exact fun _ _ _ h => h
 case y3 => exact Or.inl ⟨by rfl, by (intro w hSw; (try dsimp only at hSw); go_simp; try with_reducible rfl)⟩
 try simp only [Act.put, sA, sB, sC]
 refine wpE_tk 4 (oi := ?o4) (v := ?v4) ?h4 (by kernel_rfl) ?q4 ?y4 (by assumption) ?_
 case h4 => (simp only [List.getElem?_toArray]; rfl)
 case q4 => exact fun _ _ _ h => h
 case y4 => exact Or.inl ⟨by rfl, by (intro w hSw; (try dsimp only at hSw); go_simp; try with_reducible rfl)⟩
 try simp only [Act.put, sA, sB, sC]
 refine wpE_tk 5 (oi := ?o5) (v := ?v5) ?h5 (by kernel_rfl) ?q5 ?y5 (by assumption) ?_
 case h5 => (simp only [List.getElem?_toArray]; rfl)
 case q5 => exact fun _ _ _ h => h
 case y5 => exact Or.inl ⟨by rfl, by (intro w hSw; (try dsimp only at hSw); go_simp; try with_reducible rfl)⟩
 try simp only [Act.put, sA, sB, sC]
 refine wpE_one (i := 1) (o := ?o33) ?ho33 (by kernel_rfl) (fun K hK => ?_)
 case ho33 => (simp only [List.getElem?_toArray]; rfl)
 go_simp
 refine HC1.out.mono ?_
 rintro e w2 ⟨rfl, rfl⟩
 refine hK.out _ _ (HS.out _ hb1) (fun hHeld => ?_)
 clear hK K HC1
 refine wpE_tk 6 (oi := ?o6) (v := ?v6) ?h6 (by kernel_rfl) ?q6 ?y6 (by assumption) ?_
 case h6 => (simp only [List.getElem?_toArray]; rfl)
 case q6 => exact fun _ _ _ h => h
 case y6 => exact Or.inl ⟨by rfl, by (intro w hSw; (try dsimp only at hSw); go_simp; try with_reducible rfl)⟩
 try simp only [Act.put, sA, sB, sC]
 refine wpE_tk 7 (oi := ?o7) (v := ?v7) ?h7 (by kernel_rfl) ?q7 ?y7 (by assumption) ?_
 case h7 => (simp only [List.getElem?_toArray]; rfl)
 case q7 => exact fun _ _ _ h => h
 case y7 => exact Or.inl ⟨by rfl, by (intro w hSw; (try dsimp only at hSw); go_simp; try with_reducible rfl)⟩
 try simp only [Act.put, sA, sB, sC]
 refine wpE_tk 8 (oi := ?o8) (v := ?v8) ?h8 (by kernel_rfl) ?q8 ?y8 (by assumption) ?_
 case h8 => (simp only [List.getElem?_toArray]; rfl)
 case q8 => exact fun _ _ _ h => h
 case y8 => exact Or.inl ⟨by rfl, by (intro w hSw; (try dsimp only at hSw); go_simp; try with_reducible rfl)⟩
 try simp only [Act.put, sA, sB, sC]
 refine wpE_tk 10 (oi := ?o9) (v := ?v9) ?h9 (by kernel_rfl) ?q9 ?y9 (by assumption) ?_
 case h9 => (simp only [List.getElem?_toArray]; rfl)
 case q9 => exact fun _ _ _ h => h
 case y9 => exact Or.inl ⟨by rfl, by (intro w hSw; (try dsimp only at hSw); go_simp; try with_reducible rfl)⟩
 try simp only [Act.put, sA, sB, sC]
 refine wpE_tk 11 (oi := ?o10) (v := ?v10) ?h10 (by kernel_rfl) ?q10 ?y10 (by assumption) ?_
 case h10 => (simp only [List.getElem?_toArray]; rfl)
 case q10 => exact fun _ _ _ h => h
 case y10 => exact Or.inl ⟨by rfl, by (intro w hSw; (try dsimp only at hSw); go_simp; try with_reducible rfl)⟩
 try simp only [Act.put, sA, sB, sC]
 refine wpE_tk 12 (oi := ?o11) (v := ?v11) ?h11 (by kernel_rfl) ?q11 ?y11 (by assumption) ?_
 case h11 => (simp only [List.getElem?_toArray]; rfl)
 case q11 => exact fun _ _ _ h => h
 case y11 => exact Or.inl ⟨by rfl, by (intro w hSw; (try dsimp only at hSw); go_simp; try with_reducible rfl)⟩
 try simp only [Act.put, sA, sB, sC]
 refine wpE_tk 13 (oi := ?o12) (v := ?v12) ?h12 (by kernel_rfl) ?q12 ?y12 (by assumption) ?_
 case h12 => (simp only [List.getElem?_toArray]; rfl)
 case q12 => exact fun _ _ _ h => h
 case y12 => exact Or.inl ⟨by rfl, by (intro w hSw; (try dsimp only at hSw); go_simp; try with_reducible rfl)⟩
 try simp only [Act.put, sA, sB, sC]
 refine wpE_tk 14 (oi := ?o13) (v := ?v13) ?h13 (by kernel_rfl) ?q13 ?y13 (by assumption) ?_
 case h13 => (simp only [List.getElem?_toArray]; rfl)
 case q13 => exact fun _ _ _ h => h
 case y13 => exact Or.inl ⟨by rfl, by (intro w hSw; (try dsimp only at hSw); go_simp; try with_reducible rfl)⟩
 try simp only [Act.put, sA, sB, sC]
 have HC2 := Lib.hid (vheld_any (HVW.out.below hb1))
 rw [HLL.out] at HC2
 refine wpE_one (i := 9) (o := ?o34) ?ho34 (by kernel_rfl) (fun K hK => ?_)
 case ho34 => (simp only [List.getElem?_toArray]; rfl)
 go_simp
 refine HC2.out.mono ?_
 rintro e w2 ⟨rfl, rfl⟩
 refine hK.out _ _ (HS.out _ hb1) (fun hHeld => ?_)
 clear hK K HC2
 refine wpE_tk 15 (oi := ?o14) (v := ?v14) ?h14 (by kernel_rfl) ?q14 ?y14 (by assumption) ?_
 case h14 => (simp only [List.getElem?_toArray]; rfl)
 case q14 => exact fun _ _ _ h => h
 case y14 => exact Or.inl ⟨by rfl, by (intro w hSw; (try dsimp only at hSw); go_simp; try with_reducible rfl)⟩
 try simp only [Act.put, sA, sB, sC]
 refine wpE_tk 16 (oi := ?o15) (v := ?v15) ?h15 (by kernel_rfl) ?q15 ?y15 (by assumption) ?_
 case h15 => (simp only [List.getElem?_toArray]; rfl)
 case q15 => exact fun _ _ _ h => h
 case y15 => exact Or.inl ⟨by rfl, by (intro w hSw; (try dsimp only at hSw); go_simp; try with_reducible rfl)⟩
 try simp only [Act.put, sA, sB, sC]
 refine wpE_tk 17 (oi := ?o16) (v := ?v16) ?h16 (by kernel_rfl) ?q16 ?y16 (by assumption) ?_
 case h16 => (simp only [List.getElem?_toArray]; rfl)
 case q16 => exact fun _ _ _ h => h
 case y16 => exact Or.inl ⟨by rfl, by (intro w hSw; (try dsimp only at hSw); go_simp; try with_reducible rfl)⟩
 try simp only [Act.put, sA, sB, sC]
 refine wpE_tk 18 (oi := ?o17) (v := ?v17) ?h17 (by kernel_rfl) ?q17 ?y17 (by assumption) ?_
 case h17 => (simp only [List.getElem?_toArray]; rfl)
 case q17 => exact fun _ _ _ h => h
 case y17 => exact Or.inl ⟨by rfl, by (intro w hSw; (try dsimp only at hSw); go_simp; try with_reducible rfl)⟩
 try simp only [Act.put, sA, sB, sC]
 refine wpE_tk 20 (oi := ?o18) (v := ?v18) ?h18 (by kernel_rfl) ?q18 ?y18 (by assumption) ?_
 case h18 => (simp only [List.getElem?_toArray]; rfl)
 case q18 => exact fun _ _ _ h => h
 case y18 => exact Or.inl ⟨by rfl, by (intro w hSw; (try dsimp only at hSw); go_simp; try with_reducible rfl)⟩
 try simp only [Act.put, sA, sB, sC]
 refine wpE_tk 21 (oi := ?o19) (v := ?v19) ?h19 (by kernel_rfl) ?q19 ?y19 (by assumption) ?_
 case h19 => (simp only [List.getElem?_toArray]; rfl)
 case q19 => exact fun _ _ _ h => h
 case y19 => exact Or.inl ⟨by rfl, by (intro w hSw; (try dsimp only at hSw); go_simp; try with_reducible rfl)⟩
 try simp only [Act.put, sA, sB, sC]
 refine wpE_tk 22 (oi := ?o20) (v := ?v20) ?h20 (by kernel_rfl) ?q20 ?y20 (by assumption) ?_
 case h20 => (simp only [List.getElem?_toArray]; rfl)
 case q20 => exact fun _ _ _ h => h
 case y20 => exact Or.inl ⟨by rfl, by (intro w hSw; (try dsimp only at hSw); go_simp; try with_reducible rfl)⟩
 try simp only [Act.put, sA, sB, sC]
 refine wpE_tk 23 (oi := ?o21) (v := ?v21) ?h21 (by kernel_rfl) ?q21 ?y21 (by assumption) ?_
 case h21 => (simp only [List.getElem?_toArray]; rfl)
 case q21 => exact fun _ _ _ h => h
 case y21 => exact Or.inl ⟨by rfl, by (intro w hSw; (try dsimp only at hSw); go_simp; try with_reducible rfl)⟩
 try simp only [Act.put, sA, sB, sC]
 refine wpE_tk 24 (oi := ?o22) (v := ?v22) ?h22 (by kernel_rfl) ?q22 ?y22 (by assumption) ?_
 case h22 => (simp only [List.getElem?_toArray]; rfl)
 case q22 => exact fun _ _ _ h => h
 case y22 => exact Or.inl ⟨by rfl, by (intro w hSw; (try dsimp only at hSw); go_simp; try with_reducible rfl)⟩
 try simp only [Act.put, sA, sB, sC]
 refine wpE_tk 25 (oi := ?o23) (v := ?v23) ?h23 (by kernel_rfl) ?q23 ?y23 (by assumption) ?_
 case h23 => (simp only [List.getElem?_toArray]; rfl)
 case q23 => exact fun _ _ _ h => h
 case y23 => exact Or.inl ⟨by rfl, by (intro w hSw; (try dsimp only at hSw); go_simp; try with_reducible rfl)⟩
 try simp only [Act.put, sA, sB, sC]
 have HC3 := Lib.hid (vsynced_any (HVW.out.below hb1))
 rw [HSB.out] at HC3
 refine wpE_one (i := 19) (o := ?o35) ?ho35 (by kernel_rfl) (fun K hK => ?_)
 case ho35 => (simp only [List.getElem?_toArray]; rfl)
 go_simp
 refine HC3.out.mono ?_
 rintro e w2 ⟨rfl, rfl⟩
 refine hK.out _ _ (HS.out _ hb1) (fun hHeld => ?_)
 clear hK K HC3
 refine wpE_tk 26 (oi := ?o24) (v := ?v24) ?h24 (by kernel_rfl) ?q24 ?y24 (by assumption) ?_
 case h24 => (simp only [List.getElem?_toArray]; rfl)
 case q24 => exact fun _ _ _ h => h
 case y24 => exact Or.inl ⟨by rfl, by (intro w hSw; (try dsimp only at hSw); go_simp; try with_reducible rfl)⟩
 try simp only [Act.put, sA, sB, sC]
 refine wpE_tk 27 (oi := ?o25) (v := ?v25) ?h25 (by kernel_rfl) ?q25 ?y25 (by assumption) ?_
 case h25 => (simp only [List.getElem?_toArray]; rfl)
 case q25 => exact fun _ _ _ h => h
 case y25 => exact Or.inl ⟨by rfl, by (intro w hSw; (try dsimp only at hSw); go_simp; try with_reducible rfl)⟩
 try simp only [Act.put, sA, sB, sC]
 refine wpE_tk 28 (oi := ?o26) (v := ?v26) ?h26 (by kernel_rfl) ?q26 ?y26 (by assumption) ?_
 case h26 => (simp only [List.getElem?_toArray]; rfl)
 case q26 => exact fun _ _ _ h => h
 case y26 => exact Or.inl ⟨by rfl, by (intro w hSw; (try dsimp only at hSw); go_simp; try with_reducible rfl)⟩
 try simp only [Act.put, sA, sB, sC]
 refine wpE_tk 29 (oi := ?o27) (v := ?v27) ?h27 (by kernel_rfl) ?q27 ?y27 (by assumption) ?_
 case h27 => (simp only [List.getElem?_toArray]; rfl)
 case q27 => exact fun _ _ _ h => h
 case y27 => exact Or.inl ⟨by rfl, by (intro w hSw; (try dsimp only at hSw); go_simp; try with_reducible rfl)⟩
 try simp only [Act.put, sA, sB, sC]
 refine wpE_tk 32 (oi := ?o28) (v := ?v28) ?h28 (by kernel_rfl) ?q28 ?y28 (by assumption) ?_
 case h28 => (simp only [List.getElem?_toArray]; rfl)
 case q28 => exact fun _ _ _ h => h
 case y28 => exact Or.inl ⟨by rfl, by (intro w hSw; (try dsimp only at hSw); go_simp; try with_reducible rfl)⟩
 try simp only [Act.put, sA, sB, sC]
 refine wpE_tk 33 (oi := ?o29) (v := ?v29) ?h29 (by kernel_rfl) ?q29 ?y29 (by assumption) ?_
 case h29 => (simp only [List.getElem?_toArray]; rfl)
 case q29 => exact fun _ _ _ h => h
 case y29 => exact Or.inl ⟨by rfl, by (intro w hSw; (try dsimp only at hSw); go_simp; try with_reducible rfl)⟩
 try simp only [Act.put, sA, sB, sC]
 refine wpE_tk 34 (oi := ?o30) (v := ?v30) ?h30 (by kernel_rfl) ?q30 ?y30 (by assumption) ?_
 case h30 => (simp only [List.getElem?_toArray]; rfl)
 case q30 => exact fun _ _ _ h => h
 case y30 => exact Or.inl ⟨by rfl, by (intro w hSw; (try dsimp only at hSw); go_simp; try with_reducible rfl)⟩
 try simp only [Act.put, sA, sB, sC]
 refine wpE_tk 35 (oi := ?o31) (v := ?v31) ?h31 (by kernel_rfl) ?q31 ?y31 (by assumption) ?_
 case h31 => (simp only [List.getElem?_toArray]; rfl)
 case q31 => exact fun _ _ _ h => h
 case y31 => exact Or.inl ⟨by rfl, by (intro w hSw; (try dsimp only at hSw); go_simp; try with_reducible rfl)⟩
 try simp only [Act.put, sA, sB, sC]
 have HC4 := Lib.hid (vview_any (HVW.out.below hb1) hl HK.out (Nat.le_refl _))
 refine wpE_one (i := 30) (o := ?o36) ?ho36 (by kernel_rfl) (fun K hK => ?_)
 case ho36 => (simp only [List.getElem?_toArray]; rfl)
 go_simp
 refine HC4.out.mono ?_
 rintro e w2 ⟨v2, rfl, hvo2, hb2⟩
 obtain ⟨a2, c2, rfl⟩ := hvo2.form
 have hb3 := hb1.trans (hb2.mono hb1.size)
 have HC5 := Lib.hid (in_any hvo2 hl HK.out)
 have HB3 := Lib.hid hb3
 refine hK.out _ _ (HS.out _ hb3) (fun hHeld => ?_)
 clear hK K HC4 hb1 hb2 hb3 hvo2
 refine wpE_one (i := 31) (o := ?o37) ?ho37 (by kernel_rfl) (fun K hK => ?_)
 case ho37 => (simp only [List.getElem?_toArray]; rfl)
 go_simp
 refine HC5.out.mono ?_
 rintro e w3 ⟨v3, rfl, hvo3, hb3⟩
 obtain ⟨a3, c3, rfl⟩ := hvo3.form
 have hb4 := HB3.out.trans (hb3.mono HB3.out.size)
 have HC6 := Lib.hid (rsame_any hvo3 (HVO.out.below hb4) hl HK.out)
 have HB4 := Lib.hid hb4
 refine hK.out _ _ (HS.out _ hb4) (fun hHeld => ?_)
 clear hK K HC5 hb3 hb4 hvo3 HB3
 refine wpE_one (i := 36) (o := ?o38) ?ho38 (by kernel_rfl) (fun K hK => ?_)
 case ho38 => (simp only [List.getElem?_toArray]; rfl)
 go_simp
 refine HC6.out.mono ?_
 rintro e w4 ⟨rfl, hb5⟩
 have HB5 := Lib.hid (HB4.out.trans (hb5.mono HB4.out.size))
 refine hK.out _ _ (HS.out _ HB5.out) (fun hHeld => ?_)
 clear hK K HC6 hb5 HB4
 refine wpE_tk 37 (oi := ?o32) (v := ?v32) ?h32 (by kernel_rfl) ?q32 ?y32 (by assumption) ?_
 case h32 => (simp only [List.getElem?_toArray]; rfl)
 case q32 => exact fun _ _ _ h => h
 case y32 => exact Or.inl ⟨by rfl, by (intro w hSw; (try dsimp only at hSw); go_simp; try with_reducible rfl)⟩
 try simp only [Act.put, sA, sB, sC]
 refine wpE_last (i := 38) (o := ?o39) ?ho39 (by kernel_rfl) (by kernel_rfl) (by kernel_rfl) (fun K hK => ?_)
 case ho39 => (simp only [List.getElem?_toArray]; rfl)
 go_simp
 refine hK.out _ _ ?_
 clear hK K hHeld
 go_wp2_with fail
 go_ret
 exact ⟨by trivial, HB5.out⟩
end
end Go.Proofs.Ytmaijkoopjocdaa

/- The walk of cornhilllaw21.known: some of chapter 21's runs. -/
namespace Go.Proofs.Ytmaijkoopjocdaa
open Go.RowKit Go.Lib

theorem VW.fv_ne {W w : World} {pv n : Nat} {hv : Value} {s : LSt} (h : VW W w pv n hv s) {g : Nat} {t : TypeId} (hg : Tyd w g t) (h1 : t ≠ 53) (h2 : t ≠ MSG.t) : ¬ FV pv hv g := by
 obtain ⟨a, c, hb, _⟩ := h.box
 rintro (e | e)
 ·exact hg.ne hb.tyd h1 e
 ·exact hg.ne (own_tyd h.held g e) h2 rfl
def kA : Mg := ⟨1, 0, 1, 5, 3, 1, false⟩
def kB : Mg := ⟨2, 0, 1, 10, 3, 1, false⟩
theorem kA_dec : decM (encM kA) = some kA := decM_enc ⟨by unfold i64r kA; decide, by unfold kA; decide, by unfold i64r kA; decide, by unfold i64r kA; decide, by unfold i64r kA; decide⟩ (.inl rfl)
theorem kB_dec : decM (encM kB) = some kB := decM_enc ⟨by unfold i64r kB; decide, by unfold kB; decide, by unfold i64r kB; decide, by unfold i64r kB; decide, by unfold i64r kB; decide⟩ (.inl rfl)
theorem kB_take : takeP 6 (newLs 6) (encM kB) = (32, ⟨(newLs 6).V, 0, [kB]⟩) := by
 unfold takeP
 rw [kB_dec]
 rfl
def kV : Vw := appV kB (appV kA (newLs 6).V)
theorem kA_take : takeP 6 ⟨(newLs 6).V, 0, [kB]⟩ (encM kA) = (0, ⟨kV, 2, []⟩) := by
 unfold takeP
 rw [kA_dec]
 rfl
theorem kV_len : kV.length = 6 := by unfold kV; rw [appV_len, appV_len]; rfl
theorem kV_0 : ∃ d1 d2, kV[0]? = some (d1, d2) ∧ d1.lv.length = 2 := ⟨_, _, rfl, by decide +kernel⟩
set_option maxRecDepth 20000 in
set_option maxHeartbeats 16000000 in
theorem known_any (w : World) : Calls Try.prog 14 #[] w fun e w' => e = .returned (.bool true) ∧ Below w.heap.size w w' := by
 have hfd : ∀ (w : World) (a : Option Addr) (c : Nat), (Instr.field 50 (.agg #[.slice a 6 c]) 0).run Try.prog w = .ok (.slice a 6 c) w := fun _ _ _ => by kernel_rfl
 go_enter Try.func14, Try.ntmps14
 go_wp2_with fail
 refine (three_any 1 w).mono ?_
 rintro e w1 ⟨a, b, rfl, hp, hb⟩
 have hz : checkP (threeP 1 a b) = 0 := three_check 1 (by decide) a b
 have hcn : countN (threeP 1 a b).months.length = 6 := by show countN 3 = 6; decide
 have hba := Below.allocN w1 (.cells (threeP 1 a b).cells 25)
 have HN := Lib.hid (vnew_any (threeP 1 a b) _ (hp.below hba) hz)
 rw [hcn] at HN
 have HB1 := Lib.hid (hb.trans (hba.mono hb.size))
 unfold Prod.agg Prod.cells threeP at *
 dsimp only at *
 clear hp hz hcn hba hb
 go_wp2_with fail
 refine HN.out.mono ?_
 rintro e w2 ⟨pv, rfl, hv2⟩
 have V2 := Lib.hid hv2
 clear HN hv2
 generalize w1.alloc _ = wW at *
 go_wp2_with fail
 have hea := renc_any kA w2 (by decide) (.inl rfl)
 unfold Mg.agg kA at hea
 refine hea.mono ?_
 rintro e w3 ⟨va, rfl, hra, hb3⟩
 have V3 := Lib.hid (V2.out.below hb3)
 have HRA := Lib.hid (show BYL.Row w3 w2.heap.size va (encM kA) from hra)
 clear hea hra hb3 V2
 go_wp2_with fail
 have hea := renc_any kB w3 (by decide) (.inl rfl)
 unfold Mg.agg kB at hea
 refine hea.mono ?_
 rintro e w4 ⟨vb, rfl, hrb, hb4⟩
 have V4 := Lib.hid (V3.out.below hb4)
 have HRA4 := Lib.hid (HRA.out.below hb4)
 have HRB := Lib.hid (show BYL.Row w4 w3.heap.size vb (encM kB) from hrb)
 clear hea hrb hb4 V3 HRA
 have ht := vtake_any V4.out (new_ok 6) List.Pairwise.nil (by decide) (Nat.zero_le _) HRB.out.sl (by rw [encM_len]; decide) (encM_byte kB)
 rw [kB_take] at ht
 have HT := Lib.hid ht
 have hok1 := take_ok (b := encM kB) (encM_byte kB) (new_ok 6)
 rw [kB_take] at hok1
 have HOK1 : Hid (SOk 6 1 ⟨(newLs 6).V, 0, [kB]⟩) := Lib.hid hok1
 clear ht hok1
 go_wp2_with fail
 refine HT.out.mono ?_
 rintro e w5 ⟨rfl, hv5, hvw5, hk5, ho5⟩
 have V5 := Lib.hid hvw5
 have HRA5 := Lib.hid (HRA4.out.keep hk5 (fun g hg => V4.out.fv_ne hg (by decide) (by decide)))
 clear HT hvw5 hk5 ho5 V4 HRA4 HRB
 have HSY := Lib.hid (vsynced_any V5.out)
 go_wp2_with fail
 refine HSY.out.mono ?_
 rintro e w6 ⟨rfl, rfl⟩
 clear HSY
 have ht := vtake_any V5.out HOK1.out (by simp [Asc]) (by decide) (by decide) HRA5.out.sl (by rw [encM_len]; decide) (encM_byte kA)
 rw [kA_take] at ht
 have HT := Lib.hid ht
 clear ht
 go_wp2_with fail
 refine HT.out.mono ?_
 rintro e w7 ⟨rfl, hv7, hvw7, hk7, ho7⟩
 have V7 := Lib.hid hvw7
 have HLK : Hid (LenV kV 800000) := Lib.hid (by
  have h1 : LenV (newLs 6).V 0 := by
   intro p hp
   have := List.eq_of_mem_replicate hp
   subst this
   exact ⟨Nat.le_refl _, Nat.le_refl _⟩
  exact (appV_lenV (appV_lenV h1)).more (by decide))
 clear HT hvw7 hk7 ho7 V5 HRA5 HOK1
 have HSY := Lib.hid (vsynced_any V7.out)
 go_wp2_with fail
 refine HSY.out.mono ?_
 rintro e w8 ⟨rfl, rfl⟩
 clear HSY
 have HSQ := Lib.hid (vseq_any V7.out)
 go_wp2_with fail
 refine HSQ.out.mono ?_
 rintro e w8 ⟨rfl, rfl⟩
 clear HSQ
 have HVI := Lib.hid (vview_any V7.out (by show kV.length ≤ 255; rw [kV_len]; decide) HLK.out (Nat.le_refl _))
 go_wp2_with fail
 refine HVI.out.mono ?_
 rintro e w8 ⟨v8, rfl, hvo8, hb8⟩
 obtain ⟨a8, c8, rfl⟩ := hvo8.form
 have hl8 : (LSt.V ⟨kV, 2, []⟩).length = 6 := kV_len
 rw [hl8]
 have V8 := Lib.hid (V7.out.below hb8)
 clear HVI V7 hvo8 hb8
 have HVI := Lib.hid (vview_any V8.out (by show kV.length ≤ 255; rw [kV_len]; decide) HLK.out (Nat.le_refl _))
 go_wp2_with fail
 refine HVI.out.mono ?_
 rintro e w9 ⟨v9, rfl, hvo9, hb9⟩
 have HBE := Lib.hid (V8.out.below hb9).bel
 obtain ⟨d1, d2, hk0, hd1⟩ := kV_0
 obtain ⟨g, cap, p, hvf, hgl, hcx, hq1, hq2⟩ := hvo9.get (x := (d1, d2)) hk0
 subst hvf
 rw [hl8]
 have hn : p.s.n = 2 := by rw [hq1.n]; exact hd1
 have x0 : w9.cell? ⟨g, 0, none⟩ = some (.slice p.s.a 2 p.s.c) := by
  have := hcx 0 _ rfl
  rw [hn] at this
  exact this
 clear HVI V8 hvo9 hb9 hcx hq1 hq2 hk0 hd1 hn hl8
 go_wp2_with fail
 go_ret
 exact ⟨by trivial, HB1.out.trans (HBE.out.mono HB1.out.size)⟩
end Go.Proofs.Ytmaijkoopjocdaa
