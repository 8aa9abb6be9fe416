/- The walk of viewer.Viewer's Take. -/
import Derived.Test.YtmaijkoopjocdaaGI
namespace Go.Proofs.Ytmaijkoopjocdaa
open Go.RowKit Go.Lib

set_option maxRecDepth 20000 in
set_option maxHeartbeats 16000000 in
theorem take_next {W w : World} {pv n : Nat} {hv : Value} {s : LSt} (h : VW W w pv n hv s) {cc : Nat} (hk : SOk n cc s) (hasc : Asc s.H) (hn : n ≤ 255) (hcc : cc ≤ 500000) {v : Value} {b : List Int} (hsl : BYL.Sl w v b) (hl : b.length ≤ 900000) (hok : ∀ z ∈ b, isByte z) {q ii sd p t c : Int} {im : Bool} (hd : decM b = some ⟨q, ii, sd, p, t, c, im⟩) (hq : ¬ q < 1) (hf : fineC n ⟨q, ii, sd, p, t, c, im⟩ = 0) (ho : ¬ (q ≤ s.seq ∨ hasQ q s.H = true)) (he : q - 1 = s.seq) :
  Calls Try.prog 8 #[.pointer (some ⟨pv, 0, none⟩), v] w fun e w' => e = .returned (.int .i64 (0)) ∧ ∃ hv', VW W w' pv n hv' (followP s.H (appV ⟨q, ii, sd, p, t, c, im⟩ s.V) q) ∧ Keeps (FV pv hv) w w' ∧ ∀ g, hv'.ownBlock = some g → hv.ownBlock = some g ∨ w.heap.size ≤ g := by
 have hdec := dec_any hsl hl hok
 rw [hd] at hdec
 unfold decV at hdec
 simp only [Option.getD_some, Option.isSome_some, if_true] at hdec
 unfold Mg.cells at hdec
 dsimp only at hdec
 have hmo := (decM_ok hok hd).1
 have HMO := Lib.hid hmo
 have HDEC := Lib.hid hdec
 have H0 := Lib.hid h
 have HOK := Lib.hid hk
 have HASC := Lib.hid hasc
 have hlv := hk.len
 have HF := Lib.hid hf
 have HO := Lib.hid ho
 clear ho
 have HE := Lib.hid he
 clear he
 clear hf hdec h hk hsl hl hok hd hmo hasc
 go_enter Try.func8, Try.ntmps8
 go_wp2_with fail
 refine HDEC.out.mono ?_
 rintro e w1 ⟨rfl, hb⟩
 have HB1 := Lib.hid hb
 obtain ⟨gm, hgm⟩ : ∃ gm, w1.heap.size = gm := ⟨_, rfl⟩
 go_upto_region 2 with (fail)
 have hba := Below.allocN w1 (.cells #[.int .i64 q, .int .i64 ii, .int .i64 sd, .int .i64 p, .int .i64 t, .int .i64 c, .bool im] 34)
 have hgb : Blk (w1.alloc (.cells #[.int .i64 q, .int .i64 ii, .int .i64 sd, .int .i64 p, .int .i64 t, .int .i64 c, .bool im] 34)) w1.heap.size 34 #[.int .i64 q, .int .i64 ii, .int .i64 sd, .int .i64 p, .int .i64 t, .int .i64 c, .bool im] := Blk.new w1 _ _
 rw [hgm] at hgb
 have HGB := Lib.hid hgb
 have HGE : Hid (w.heap.size ≤ gm) := Lib.hid (by rw [← hgm]; exact hb.size)
 have HB2 := Lib.hid (hb.trans (hba.mono hb.size))
 clear hb hba hgb hgm HB1 HDEC
 generalize w1.alloc (.cells #[.int .i64 q, .int .i64 ii, .int .i64 sd, .int .i64 p, .int .i64 t, .int .i64 c, .bool im] 34) = w2 at *
 have V2 := Lib.hid (H0.out.below HB2.out)
 obtain ⟨a2, c2, hbx, _⟩ := H0.out.below HB2.out |>.box
 have BX := Lib.hid hbx
 have m0 : w2.cell? ⟨gm, 0, none⟩ = some (.int .i64 q) := HGB.out.cell 0
 have m1 : w2.cell? ⟨gm, 1, none⟩ = some (.int .i64 ii) := HGB.out.cell 1
 have m2 : w2.cell? ⟨gm, 2, none⟩ = some (.int .i64 sd) := HGB.out.cell 2
 have m3 : w2.cell? ⟨gm, 3, none⟩ = some (.int .i64 p) := HGB.out.cell 3
 have m4 : w2.cell? ⟨gm, 4, none⟩ = some (.int .i64 t) := HGB.out.cell 4
 have m5 : w2.cell? ⟨gm, 5, none⟩ = some (.int .i64 c) := HGB.out.cell 5
 have m6 : w2.cell? ⟨gm, 6, none⟩ = some (.bool im) := HGB.out.cell 6
 have k0 : w2.cell? ⟨pv, 0, none⟩ = some (.int .i64 n) := hbx.cell 0
 clear hbx
 have hq2 : decide (q < 1) = false := decide_eq_false (by omega)
 have hfc := fine_any n ⟨q, ii, sd, p, t, c, im⟩ w2.drew
 unfold Mg.agg at hfc
 dsimp only at hfc
 obtain ⟨fv, hfv⟩ : ∃ fv, fineC n ⟨q, ii, sd, p, t, c, im⟩ = fv := ⟨_, rfl⟩
 rw [hfv] at hfc
 have HFC := Lib.hid hfc
 have HFV := Lib.hid hfv
 clear hfc hfv
 go_upto_region 4 with (fail)
 have hS : w2.cell? ⟨gm, 0, none⟩ = some (.int .i64 q) ∧ w2.cell? ⟨gm, 1, none⟩ = some (.int .i64 ii) ∧ w2.cell? ⟨gm, 2, none⟩ = some (.int .i64 sd) ∧ w2.cell? ⟨gm, 3, none⟩ = some (.int .i64 p) ∧ w2.cell? ⟨gm, 4, none⟩ = some (.int .i64 t) ∧ w2.cell? ⟨gm, 5, none⟩ = some (.int .i64 c) ∧ w2.cell? ⟨gm, 6, none⟩ = some (.bool im) ∧ w2.cell? ⟨pv, 0, none⟩ = some (.int .i64 n) := ⟨m0, m1, m2, m3, m4, m5, m6, k0⟩
 refine wp_region_E (S := fun w2 => w2.cell? ⟨gm, 0, none⟩ = some (.int .i64 q) ∧ w2.cell? ⟨gm, 1, none⟩ = some (.int .i64 ii) ∧ w2.cell? ⟨gm, 2, none⟩ = some (.int .i64 sd) ∧ w2.cell? ⟨gm, 3, none⟩ = some (.int .i64 p) ∧ w2.cell? ⟨gm, 4, none⟩ = some (.int .i64 t) ∧ w2.cell? ⟨gm, 5, none⟩ = some (.int .i64 c) ∧ w2.cell? ⟨gm, 6, none⟩ = some (.bool im) ∧ w2.cell? ⟨pv, 0, none⟩ = some (.int .i64 n)) (by kernel_rfl) hS (fun hHeld => ?_)
 refine wpE_tk 0 (oi := ?o1) (v := ?v1) ?h1 (by kernel_rfl) ?q1 ?y1 (by assumption) ?_
 case h1 => (simp only [List.getElem?_toArray]; rfl)
 case q1 => exact fun _ _ _ h => h
 case y1 => exact Or.inl ⟨by rfl, by (intro w hSw; (try dsimp only at hSw); go_simp; try with_reducible rfl)⟩
 try simp only [Act.put, sA, sB, sC]
 refine wpE_tk 1 (oi := ?o2) (v := ?v2) ?h2 (by kernel_rfl) ?q2 ?y2 (by assumption) ?_
 case h2 => (simp only [List.getElem?_toArray]; rfl)
 case q2 => exact fun _ _ _ h => h
 case y2 => exact Or.inl ⟨by rfl, by (intro w hSw; (try dsimp only at hSw); go_simp; try with_reducible rfl)⟩
 try simp only [Act.put, sA, sB, sC]
 refine wpE_tk 2 (oi := ?o3) (v := ?v3) ?h3 (by kernel_rfl) ?q3 ?y3 (by assumption) ?_
 case h3 => (simp only [List.getElem?_toArray]; rfl)
 case q3 => exact fun _ _ _ h => h
 case y3 => exact Or.inl ⟨by rfl, by (intro w hSw; (try dsimp only at hSw); go_simp; try with_reducible rfl)⟩
 try simp only [Act.put, sA, sB, sC]
 refine wpE_tk 3 (oi := ?o4) (v := ?v4) ?h4 (by kernel_rfl) ?q4 ?y4 (by assumption) ?_
 case h4 => (simp only [List.getElem?_toArray]; rfl)
 case q4 => exact fun _ _ _ h => h
 case y4 => exact Or.inl ⟨by rfl, by (intro w hSw; (try dsimp only at hSw); go_simp; try with_reducible rfl)⟩
 try simp only [Act.put, sA, sB, sC]
 refine wpE_tk 4 (oi := ?o5) (v := ?v5) ?h5 (by kernel_rfl) ?q5 ?y5 (by assumption) ?_
 case h5 => (simp only [List.getElem?_toArray]; rfl)
 case q5 => exact fun _ _ _ h => h
 case y5 => exact Or.inl ⟨by rfl, by (intro w hSw; (try dsimp only at hSw); go_simp; try with_reducible rfl)⟩
 try simp only [Act.put, sA, sB, sC]
 refine wpE_tk 5 (oi := ?o6) (v := ?v6) ?h6 (by kernel_rfl) ?q6 ?y6 (by assumption) ?_
 case h6 => (simp only [List.getElem?_toArray]; rfl)
 case q6 => exact fun _ _ _ h => h
 case y6 => exact Or.inl ⟨by rfl, by (intro w hSw; (try dsimp only at hSw); go_simp; try with_reducible rfl)⟩
 try simp only [Act.put, sA, sB, sC]
 refine wpE_tk 6 (oi := ?o7) (v := ?v7) ?h7 (by kernel_rfl) ?q7 ?y7 (by assumption) ?_
 case h7 => (simp only [List.getElem?_toArray]; rfl)
 case q7 => exact fun _ _ _ h => h
 case y7 => exact Or.inl ⟨by rfl, by (intro w hSw; (try dsimp only at hSw); go_simp; try with_reducible rfl)⟩
 try simp only [Act.put, sA, sB, sC]
 refine wpE_tk 7 (oi := ?o8) (v := ?v8) ?h8 (by kernel_rfl) ?q8 ?y8 (by assumption) ?_
 case h8 => (simp only [List.getElem?_toArray]; rfl)
 case q8 => exact fun _ _ _ h => h
 case y8 => exact Or.inl ⟨by rfl, by (intro w hSw; (try dsimp only at hSw); go_simp; try with_reducible rfl)⟩
 try simp only [Act.put, sA, sB, sC]
 refine wpE_tk 8 (oi := ?o9) (v := ?v9) ?h9 (by kernel_rfl) ?q9 ?y9 (by assumption) ?_
 case h9 => (simp only [List.getElem?_toArray]; rfl)
 case q9 => exact fun _ _ _ h => h
 case y9 => exact Or.inl ⟨by rfl, by (intro w hSw; (try dsimp only at hSw); go_simp; try with_reducible rfl)⟩
 try simp only [Act.put, sA, sB, sC]
 refine wpE_one (i := 9) (o := ?o20) ?ho20 (by kernel_rfl) (fun K hK => ?_)
 case ho20 => (simp only [List.getElem?_toArray]; rfl)
 go_simp
 refine HFC.out.mono ?_
 rintro e w3 ⟨rfl, hb⟩
 have hb3 := (Below.drewN_of w2 1).trans hb
 have V3 := Lib.hid (V2.out.below hb3)
 have HB3 := Lib.hid (HB2.out.trans (hb3.mono HB2.out.size))
 have HGB3 := Lib.hid (HGB.out.below hb3)
 have BX3 := Lib.hid (BX.out.below hb3)
 refine hK.out _ _ ⟨HGB3.out.cell 0, HGB3.out.cell 1, HGB3.out.cell 2, HGB3.out.cell 3, HGB3.out.cell 4, HGB3.out.cell 5, HGB3.out.cell 6, BX3.out.cell 0⟩ (fun hHeld => ?_)
 clear hK K hb hb3 hS HFC V2 HB2 HGB BX m0 m1 m2 m3 m4 m5 m6 k0
 refine wpE_tk 10 (oi := ?o10) (v := ?v10) ?h10 (by kernel_rfl) ?q10 ?y10 (by assumption) ?_
 case h10 => (simp only [List.getElem?_toArray]; rfl)
 case q10 => exact fun _ _ _ h => h
 case y10 => exact Or.inl ⟨by rfl, by (intro w hSw; (try dsimp only at hSw); go_simp; try with_reducible rfl)⟩
 try simp only [Act.put, sA, sB, sC]
 refine wpE_last (i := 11) (o := ?o23) ?ho23 (by kernel_rfl) (by kernel_rfl) (by kernel_rfl) (fun K hK => ?_)
 case ho23 => (simp only [List.getElem?_toArray]; rfl)
 go_simp
 refine hK.out _ _ ?_
 clear hK K hHeld hq2
 have hf0 : fv = 0 := by rw [← HFV.out]; exact HF.out
 subst hf0
 obtain ⟨ah, ch, hvf⟩ := V3.out.held.form
 subst hvf
 have hsr := search_any (V3.out.below (Below.drewN_of w3 1)).held.sl HASC.out (by have := HOK.out.hl; omega) q
 have HSR := Lib.hid hsr
 have hS : w3.cell? ⟨pv, 3, none⟩ = some (.slice ah s.H.length ch) ∧ w3.cell? ⟨gm, 0, none⟩ = some (.int .i64 q) := ⟨BX3.out.cell 3, HGB3.out.cell 0⟩
 clear hsr
 go_upto_region 6 with (fail)
 go_cut [7, 8] (fun u v wx => u = .int .i64 (posQ q s.H) ∧ v = .bool (hasQ q s.H) ∧ Below w3.heap.size w3 wx)
 case first =>
  refine wp_region_E (S := fun w3 => w3.cell? ⟨pv, 3, none⟩ = some (.slice ah s.H.length ch) ∧ w3.cell? ⟨gm, 0, none⟩ = some (.int .i64 q)) (by kernel_rfl) hS (fun hHeld => ?_)
  refine wpE_tk 0 (oi := ?o11) (v := ?v11) ?h11 (by kernel_rfl) ?q11 ?y11 (by assumption) ?_
  case h11 => (simp only [List.getElem?_toArray]; rfl)
  case q11 => exact fun _ _ _ h => h
  case y11 => exact Or.inl ⟨by rfl, by (intro w hSw; (try dsimp only at hSw); go_simp; try with_reducible rfl)⟩
  try simp only [Act.put, sA, sB, sC]
  refine wpE_tk 1 (oi := ?o12) (v := ?v12) ?h12 (by kernel_rfl) ?q12 ?y12 (by assumption) ?_
  case h12 => (simp only [List.getElem?_toArray]; rfl)
  case q12 => exact fun _ _ _ h => h
  case y12 => exact Or.inl ⟨by rfl, by (intro w hSw; (try dsimp only at hSw); go_simp; try with_reducible rfl)⟩
  try simp only [Act.put, sA, sB, sC]
  refine wpE_tk 2 (oi := ?o13) (v := ?v13) ?h13 (by kernel_rfl) ?q13 ?y13 (by assumption) ?_
  case h13 => (simp only [List.getElem?_toArray]; rfl)
  case q13 => exact fun _ _ _ h => h
  case y13 => exact Or.inl ⟨by rfl, by (intro w hSw; (try dsimp only at hSw); go_simp; try with_reducible rfl)⟩
  try simp only [Act.put, sA, sB, sC]
  refine wpE_tk 3 (oi := ?o14) (v := ?v14) ?h14 (by kernel_rfl) ?q14 ?y14 (by assumption) ?_
  case h14 => (simp only [List.getElem?_toArray]; rfl)
  case q14 => exact fun _ _ _ h => h
  case y14 => exact Or.inl ⟨by rfl, by (intro w hSw; (try dsimp only at hSw); go_simp; try with_reducible rfl)⟩
  try simp only [Act.put, sA, sB, sC]
  refine wpE_tk 4 (oi := ?o15) (v := ?v15) ?h15 (by kernel_rfl) ?q15 ?y15 (by assumption) ?_
  case h15 => (simp only [List.getElem?_toArray]; rfl)
  case q15 => exact fun _ _ _ h => h
  case y15 => exact Or.inl ⟨by rfl, by (intro w hSw; (try dsimp only at hSw); go_simp; try with_reducible rfl)⟩
  try simp only [Act.put, sA, sB, sC]
  refine wpE_tk 5 (oi := ?o16) (v := ?v16) ?h16 (by kernel_rfl) ?q16 ?y16 (by assumption) ?_
  case h16 => (simp only [List.getElem?_toArray]; rfl)
  case q16 => exact fun _ _ _ h => h
  case y16 => exact Or.inl ⟨by rfl, by (intro w hSw; (try dsimp only at hSw); go_simp; try with_reducible rfl)⟩
  try simp only [Act.put, sA, sB, sC]
  refine wpE_one (i := 6) (o := ?o21) ?ho21 (by kernel_rfl) (fun K hK => ?_)
  case ho21 => (simp only [List.getElem?_toArray]; rfl)
  go_simp
  refine HSR.out.mono ?_
  rintro e w4 ⟨rfl, hb⟩
  have hb4 := (Below.drewN_of w3 1).trans hb
  have HB4 := Lib.hid hb4
  have hS4 : w4.cell? ⟨pv, 3, none⟩ = some (.slice ah s.H.length ch) ∧ w4.cell? ⟨gm, 0, none⟩ = some (.int .i64 q) := ⟨(BX3.out.below hb4).cell 3, (HGB3.out.below hb4).cell 0⟩
  refine hK.out _ _ hS4 (fun hHeld => ?_)
  clear hK K hb hb4
  refine wpE_tk 7 (oi := ?o17) (v := ?v17) ?h17 (by kernel_rfl) ?q17 ?y17 (by assumption) ?_
  case h17 => (simp only [List.getElem?_toArray]; rfl)
  case q17 => exact fun _ _ _ h => h
  case y17 => exact Or.inl ⟨by rfl, by (intro w hSw; (try dsimp only at hSw); go_simp; try with_reducible rfl)⟩
  try simp only [Act.put, sA, sB, sC]
  refine wpE_tk 8 (oi := ?o18) (v := ?v18) ?h18 (by kernel_rfl) ?q18 ?y18 (by assumption) ?_
  case h18 => (simp only [List.getElem?_toArray]; rfl)
  case q18 => exact fun _ _ _ h => h
  case y18 => exact Or.inl ⟨by rfl, by (intro w hSw; (try dsimp only at hSw); go_simp; try with_reducible rfl)⟩
  try simp only [Act.put, sA, sB, sC]
  refine wpE_tk 9 (oi := ?o19) (v := ?v19) ?h19 (by kernel_rfl) ?q19 ?y19 (by assumption) ?_
  case h19 => (simp only [List.getElem?_toArray]; rfl)
  case q19 => exact fun _ _ _ h => h
  case y19 => exact Or.inl ⟨by rfl, by (intro w hSw; (try dsimp only at hSw); go_simp; try with_reducible rfl)⟩
  try simp only [Act.put, sA, sB, sC]
  refine wpE_one (i := 10) (o := ?o22) ?ho22 (by kernel_rfl) (fun K hK => ?_)
  case ho22 => (simp only [List.getElem?_toArray]; rfl)
  go_simp
  refine hK.out _ _ hS4 (fun hHeld => ?_)
  clear hK K
  refine wpE_last (i := 11) (o := ?o24) ?ho24 (by kernel_rfl) (by kernel_rfl) (by kernel_rfl) (fun K hK => ?_)
  case ho24 => (simp only [List.getElem?_toArray]; rfl)
  go_simp
  refine hK.out _ _ ?_
  clear hK K
  go_wp2_with fail
  go_meet
  exact ⟨rfl, rfl, HB4.out⟩
 case rest =>
 obtain ⟨rfl, rfl, hb4⟩ := hcut
 obtain ⟨w4, rfl⟩ : ∃ wo : World, wo = wc := ⟨_, rfl⟩
 have V4 := Lib.hid (V3.out.below hb4)
 have HB5 := Lib.hid (HB3.out.trans (hb4.mono HB3.out.size))
 have HGB4 := Lib.hid (HGB3.out.below hb4)
 have BX4 := Lib.hid (BX3.out.below hb4)
 have m0 : w4.cell? ⟨gm, 0, none⟩ = some (.int .i64 q) := HGB4.out.cell 0
 have k2 : w4.cell? ⟨pv, 2, none⟩ = some (.int .i64 s.seq) := BX4.out.cell 2
 obtain ⟨hh, hhe⟩ : ∃ hh, hasQ q s.H = hh := ⟨_, rfl⟩
 obtain ⟨pn, hpn⟩ : ∃ pn, posQ q s.H = pn := ⟨_, rfl⟩
 rw [hhe, hpn]
 have HHE := Lib.hid hhe
 have HPN := Lib.hid hpn
 clear hS HSR V3 HB3 HGB3 BX3 hb4 hhe hpn
 have hle : ¬ q ≤ s.seq := fun h => HO.out (.inl h)
 obtain rfl : hh = false := by rw [← HHE.out]; cases hx : hasQ q s.H with | false => rfl | true => exact absurd (.inr hx) HO.out
 have hle2 : decide (q ≤ s.seq) = false := decide_eq_false hle
 have y1 : IntKind.i64.wrap (q - 1) = q - 1 := IntWalk.i64_in _ (by have := HMO.out.seq; unfold i64r at this; dsimp only at this; omega)
 have heb : (q - 1 == s.seq) = true := by simpa using HE.out
 clear hle
 go_wp2_with fail
 go_quiet (fail)
 have hbq := Below.drewN_of w4 nq
 have V5 := Lib.hid (V4.out.below hbq)
 have HB6 := Lib.hid (HB5.out.trans (hbq.mono HB5.out.size))
 have HGB5 := Lib.hid (HGB4.out.below hbq)
 have BX5 := Lib.hid (BX4.out.below hbq)
 clear hbq V4 HB5 HGB4 BX4 m0 k2 hle2
 generalize w4.drewN nq = w5 at *
 have m0 : w5.cell? ⟨gm, 0, none⟩ = some (.int .i64 q) := HGB5.out.cell 0
 have k2 : w5.cell? ⟨pv, 2, none⟩ = some (.int .i64 s.seq) := BX5.out.cell 2
 go_wp2_with fail
 go_quiet (fail)
 have hbq := Below.drewN_of w5 nq
 have V6 := Lib.hid (V5.out.below hbq)
 have HB7 := Lib.hid (HB6.out.trans (hbq.mono HB6.out.size))
 have HGB6 := Lib.hid (HGB5.out.below hbq)
 have BX6 := Lib.hid (BX5.out.below hbq)
 clear hbq V5 HB6 HGB5 BX5 m0 k2
 generalize w5.drewN nq = w6 at *
 have m0 : w6.cell? ⟨gm, 0, none⟩ = some (.int .i64 q) := HGB6.out.cell 0
 have m1 : w6.cell? ⟨gm, 1, none⟩ = some (.int .i64 ii) := HGB6.out.cell 1
 have m2 : w6.cell? ⟨gm, 2, none⟩ = some (.int .i64 sd) := HGB6.out.cell 2
 have m3 : w6.cell? ⟨gm, 3, none⟩ = some (.int .i64 p) := HGB6.out.cell 3
 have m4 : w6.cell? ⟨gm, 4, none⟩ = some (.int .i64 t) := HGB6.out.cell 4
 have m5 : w6.cell? ⟨gm, 5, none⟩ = some (.int .i64 c) := HGB6.out.cell 5
 have m6 : w6.cell? ⟨gm, 6, none⟩ = some (.bool im) := HGB6.out.cell 6
 have hfn : Fine s.V.length ⟨q, ii, sd, p, t, c, im⟩ := by rw [hlv]; exact fine_iff.1 (fineC_iff.1 HF.out)
 obtain ⟨j, hj1, hj2⟩ := HOK.out.sz
 have hva := vapply_any V6.out (by omega) hj1 (by omega) HOK.out.srt hfn
 unfold Mg.agg at hva
 dsimp only at hva
 have HVA := Lib.hid hva
 have HSZ : Hid (∃ j, LenV (appV ⟨q, ii, sd, p, t, c, im⟩ s.V) j ∧ j + s.H.length ≤ 700000) := Lib.hid ⟨j + 1, appV_lenV hj1, by omega⟩
 have HFN := Lib.hid hfn
 clear hva hfn hj1 hj2 y1
 go_wp2_with fail
 refine HVA.out.mono ?_
 rintro e w7 ⟨rfl, hv7, hk7⟩
 have V7 := Lib.hid hv7
 have K7 := Lib.hid hk7
 clear hv7 hk7 HVA m0 m1 m2 m3 m4 m5 m6
 have hsq := HMO.out.seq
 unfold i64r at hsq
 dsimp only at hsq
 have hfl := follow_any V7.out (by rw [appV_len]; omega) HSZ.out (appV_srt HFN.out.sd HOK.out.srt) (fun x hx => by rw [appV_len, hlv]; exact HOK.out.hh x hx) (by dsimp only; omega) hsq.2
 have HFL := Lib.hid hfl
 clear hsq hfl
 go_wp2_with fail
 refine HFL.out.mono ?_
 rintro e w8 ⟨rfl, hv8, h81, h82, h83⟩
 have H81 := Lib.hid h81
 have H82 := Lib.hid h82
 have H83 := Lib.hid h83
 clear h81 h82 h83 HFL
 go_wp2_with fail
 go_ret
 refine ⟨by trivial, hv8, H81.out, (Below.keeps HB7.out).trans ((K7.out.trans H82.out).more fun g hg => .inl hg), fun g hg => ?_⟩
 rcases H83.out g hg with h | h
 ·exact .inl h
 ·exact .inr (Nat.le_trans (Nat.le_trans HB7.out.size K7.out.size) h)
end Go.Proofs.Ytmaijkoopjocdaa
