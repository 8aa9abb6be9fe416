/- The walk of viewer.Viewer's Take. -/
import Derived.Test.YtmaijkoopjocdaaGI
namespace Go.Proofs.Ytmaijkoopjocdaa
open Go.RowKit Go.Lib

set_option maxRecDepth 20000 in
set_option maxHeartbeats 16000000 in
theorem take_full {W w : World} {pv n : Nat} {hv : Value} {s : LSt} (h : VW W w pv n hv s) {cc : Nat} (hk : SOk n cc s) (hasc : Asc s.H) (hcc : cc ≤ 500000) {v : Value} {b : List Int} (hsl : BYL.Sl w v b) (hl : b.length ≤ 900000) (hok : ∀ z ∈ b, isByte z) {q ii sd p t c : Int} {im : Bool} (hd : decM b = some ⟨q, ii, sd, p, t, c, im⟩) (hq : ¬ q < 1) (hf : fineC n ⟨q, ii, sd, p, t, c, im⟩ = 0) (ho : ¬ (q ≤ s.seq ∨ hasQ q s.H = true)) (he : q - 1 ≠ s.seq) (hfu : 4096 ≤ s.H.length) :
  Calls Try.prog 8 #[.pointer (some ⟨pv, 0, none⟩), v] w fun e w' => e = .returned (.int .i64 (13)) ∧ ∃ hv', VW W w' pv n hv' s ∧ Keeps (FV pv hv) w w' ∧ ∀ g, hv'.ownBlock = some g → hv.ownBlock = some g ∨ w.heap.size ≤ g := by
 have hdec := dec_any hsl hl hok
 rw [hd] at hdec
 unfold decV at hdec
 simp only [Option.getD_some, Option.isSome_some, if_true] at hdec
 unfold Mg.cells at hdec
 dsimp only at hdec
 have hmo := (decM_ok hok hd).1
 have HMO := Lib.hid hmo
 have HDEC := Lib.hid hdec
 have H0 := Lib.hid h
 have HOK := Lib.hid hk
 have HASC := Lib.hid hasc
 have hlv := hk.len
 have HF := Lib.hid hf
 have HO := Lib.hid ho
 clear ho
 have HE := Lib.hid he
 clear he
 clear hf hdec h hk hsl hl hok hd hmo hasc
 go_enter Try.func8, Try.ntmps8
 go_wp2_with fail
 refine HDEC.out.mono ?_
 rintro e w1 ⟨rfl, hb⟩
 have HB1 := Lib.hid hb
 obtain ⟨gm, hgm⟩ : ∃ gm, w1.heap.size = gm := ⟨_, rfl⟩
 go_upto_region 2 with (fail)
 have hba := Below.allocN w1 (.cells #[.int .i64 q, .int .i64 ii, .int .i64 sd, .int .i64 p, .int .i64 t, .int .i64 c, .bool im] 34)
 have hgb : Blk (w1.alloc (.cells #[.int .i64 q, .int .i64 ii, .int .i64 sd, .int .i64 p, .int .i64 t, .int .i64 c, .bool im] 34)) w1.heap.size 34 #[.int .i64 q, .int .i64 ii, .int .i64 sd, .int .i64 p, .int .i64 t, .int .i64 c, .bool im] := Blk.new w1 _ _
 rw [hgm] at hgb
 have HGB := Lib.hid hgb
 have HGE : Hid (w.heap.size ≤ gm) := Lib.hid (by rw [← hgm]; exact hb.size)
 have HB2 := Lib.hid (hb.trans (hba.mono hb.size))
 clear hb hba hgb hgm HB1 HDEC
 generalize w1.alloc (.cells #[.int .i64 q, .int .i64 ii, .int .i64 sd, .int .i64 p, .int .i64 t, .int .i64 c, .bool im] 34) = w2 at *
 have V2 := Lib.hid (H0.out.below HB2.out)
 obtain ⟨a2, c2, hbx, _⟩ := H0.out.below HB2.out |>.box
 have BX := Lib.hid hbx
 have m0 : w2.cell? ⟨gm, 0, none⟩ = some (.int .i64 q) := HGB.out.cell 0
 have m1 : w2.cell? ⟨gm, 1, none⟩ = some (.int .i64 ii) := HGB.out.cell 1
 have m2 : w2.cell? ⟨gm, 2, none⟩ = some (.int .i64 sd) := HGB.out.cell 2
 have m3 : w2.cell? ⟨gm, 3, none⟩ = some (.int .i64 p) := HGB.out.cell 3
 have m4 : w2.cell? ⟨gm, 4, none⟩ = some (.int .i64 t) := HGB.out.cell 4
 have m5 : w2.cell? ⟨gm, 5, none⟩ = some (.int .i64 c) := HGB.out.cell 5
 have m6 : w2.cell? ⟨gm, 6, none⟩ = some (.bool im) := HGB.out.cell 6
 have k0 : w2.cell? ⟨pv, 0, none⟩ = some (.int .i64 n) := hbx.cell 0
 clear hbx
 have hq2 : decide (q < 1) = false := decide_eq_false (by omega)
 have hfc := fine_any n ⟨q, ii, sd, p, t, c, im⟩ w2.drew
 unfold Mg.agg at hfc
 dsimp only at hfc
 obtain ⟨fv, hfv⟩ : ∃ fv, fineC n ⟨q, ii, sd, p, t, c, im⟩ = fv := ⟨_, rfl⟩
 rw [hfv] at hfc
 have HFC := Lib.hid hfc
 have HFV := Lib.hid hfv
 clear hfc hfv
 go_upto_region 4 with (fail)
 have hS : w2.cell? ⟨gm, 0, none⟩ = some (.int .i64 q) ∧ w2.cell? ⟨gm, 1, none⟩ = some (.int .i64 ii) ∧ w2.cell? ⟨gm, 2, none⟩ = some (.int .i64 sd) ∧ w2.cell? ⟨gm, 3, none⟩ = some (.int .i64 p) ∧ w2.cell? ⟨gm, 4, none⟩ = some (.int .i64 t) ∧ w2.cell? ⟨gm, 5, none⟩ = some (.int .i64 c) ∧ w2.cell? ⟨gm, 6, none⟩ = some (.bool im) ∧ w2.cell? ⟨pv, 0, none⟩ = some (.int .i64 n) := ⟨m0, m1, m2, m3, m4, m5, m6, k0⟩
 refine wp_region_E (S := fun w2 => w2.cell? ⟨gm, 0, none⟩ = some (.int .i64 q) ∧ w2.cell? ⟨gm, 1, none⟩ = some (.int .i64 ii) ∧ w2.cell? ⟨gm, 2, none⟩ = some (.int .i64 sd) ∧ w2.cell? ⟨gm, 3, none⟩ = some (.int .i64 p) ∧ w2.cell? ⟨gm, 4, none⟩ = some (.int .i64 t) ∧ w2.cell? ⟨gm, 5, none⟩ = some (.int .i64 c) ∧ w2.cell? ⟨gm, 6, none⟩ = some (.bool im) ∧ w2.cell? ⟨pv, 0, none⟩ = some (.int .i64 n)) (by kernel_rfl) hS (fun hHeld => ?_)
 refine wpE_tk 0 (oi := ?o1) (v := ?v1) ?h1 (by kernel_rfl) ?q1 ?y1 (by assumption) ?_
 case h1 => (simp only [List.getElem?_toArray]; rfl)
 case q1 => exact fun _ _ _ h => h
 case y1 => exact Or.inl ⟨by rfl, by (intro w hSw; (try dsimp only at hSw); go_simp; try with_reducible rfl)⟩
 try simp only [Act.put, sA, sB, sC]
 refine wpE_tk 1 (oi := ?o2) (v := ?v2) ?h2 (by kernel_rfl) ?q2 ?y2 (by assumption) ?_
 case h2 => (simp only [List.getElem?_toArray]; rfl)
 case q2 => exact fun _ _ _ h => h
 case y2 => exact Or.inl ⟨by rfl, by (intro w hSw; (try dsimp only at hSw); go_simp; try with_reducible rfl)⟩
 try simp only [Act.put, sA, sB, sC]
 refine wpE_tk 2 (oi := ?o3) (v := ?v3) ?h3 (by kernel_rfl) ?q3 ?y3 (by assumption) ?_
 case h3 => (simp only [List.getElem?_toArray]; rfl)
 case q3 => exact fun _ _ _ h => h
 case y3 => exact Or.inl ⟨by rfl, by (intro w hSw; (try dsimp only at hSw); go_simp; try with_reducible rfl)⟩
 try simp only [Act.put, sA, sB, sC]
 refine wpE_tk 3 (oi := ?o4) (v := ?v4) ?h4 (by kernel_rfl) ?q4 ?y4 (by assumption) ?_
 case h4 => (simp only [List.getElem?_toArray]; rfl)
 case q4 => exact fun _ _ _ h => h
 case y4 => exact Or.inl ⟨by rfl, by (intro w hSw; (try dsimp only at hSw); go_simp; try with_reducible rfl)⟩
 try simp only [Act.put, sA, sB, sC]
 refine wpE_tk 4 (oi := ?o5) (v := ?v5) ?h5 (by kernel_rfl) ?q5 ?y5 (by assumption) ?_
 case h5 => (simp only [List.getElem?_toArray]; rfl)
 case q5 => exact fun _ _ _ h => h
 case y5 => exact Or.inl ⟨by rfl, by (intro w hSw; (try dsimp only at hSw); go_simp; try with_reducible rfl)⟩
 try simp only [Act.put, sA, sB, sC]
 refine wpE_tk 5 (oi := ?o6) (v := ?v6) ?h6 (by kernel_rfl) ?q6 ?y6 (by assumption) ?_
 case h6 => (simp only [List.getElem?_toArray]; rfl)
 case q6 => exact fun _ _ _ h => h
 case y6 => exact Or.inl ⟨by rfl, by (intro w hSw; (try dsimp only at hSw); go_simp; try with_reducible rfl)⟩
 try simp only [Act.put, sA, sB, sC]
 refine wpE_tk 6 (oi := ?o7) (v := ?v7) ?h7 (by kernel_rfl) ?q7 ?y7 (by assumption) ?_
 case h7 => (simp only [List.getElem?_toArray]; rfl)
 case q7 => exact fun _ _ _ h => h
 case y7 => exact Or.inl ⟨by rfl, by (intro w hSw; (try dsimp only at hSw); go_simp; try with_reducible rfl)⟩
 try simp only [Act.put, sA, sB, sC]
 refine wpE_tk 7 (oi := ?o8) (v := ?v8) ?h8 (by kernel_rfl) ?q8 ?y8 (by assumption) ?_
 case h8 => (simp only [List.getElem?_toArray]; rfl)
 case q8 => exact fun _ _ _ h => h
 case y8 => exact Or.inl ⟨by rfl, by (intro w hSw; (try dsimp only at hSw); go_simp; try with_reducible rfl)⟩
 try simp only [Act.put, sA, sB, sC]
 refine wpE_tk 8 (oi := ?o9) (v := ?v9) ?h9 (by kernel_rfl) ?q9 ?y9 (by assumption) ?_
 case h9 => (simp only [List.getElem?_toArray]; rfl)
 case q9 => exact fun _ _ _ h => h
 case y9 => exact Or.inl ⟨by rfl, by (intro w hSw; (try dsimp only at hSw); go_simp; try with_reducible rfl)⟩
 try simp only [Act.put, sA, sB, sC]
 refine wpE_one (i := 9) (o := ?o48) ?ho48 (by kernel_rfl) (fun K hK => ?_)
 case ho48 => (simp only [List.getElem?_toArray]; rfl)
 go_simp
 refine HFC.out.mono ?_
 rintro e w3 ⟨rfl, hb⟩
 have hb3 := (Below.drewN_of w2 1).trans hb
 have V3 := Lib.hid (V2.out.below hb3)
 have HB3 := Lib.hid (HB2.out.trans (hb3.mono HB2.out.size))
 have HGB3 := Lib.hid (HGB.out.below hb3)
 have BX3 := Lib.hid (BX.out.below hb3)
 refine hK.out _ _ ⟨HGB3.out.cell 0, HGB3.out.cell 1, HGB3.out.cell 2, HGB3.out.cell 3, HGB3.out.cell 4, HGB3.out.cell 5, HGB3.out.cell 6, BX3.out.cell 0⟩ (fun hHeld => ?_)
 clear hK K hb hb3 hS HFC V2 HB2 HGB BX m0 m1 m2 m3 m4 m5 m6 k0
 refine wpE_tk 10 (oi := ?o10) (v := ?v10) ?h10 (by kernel_rfl) ?q10 ?y10 (by assumption) ?_
 case h10 => (simp only [List.getElem?_toArray]; rfl)
 case q10 => exact fun _ _ _ h => h
 case y10 => exact Or.inl ⟨by rfl, by (intro w hSw; (try dsimp only at hSw); go_simp; try with_reducible rfl)⟩
 try simp only [Act.put, sA, sB, sC]
 refine wpE_last (i := 11) (o := ?o56) ?ho56 (by kernel_rfl) (by kernel_rfl) (by kernel_rfl) (fun K hK => ?_)
 case ho56 => (simp only [List.getElem?_toArray]; rfl)
 go_simp
 refine hK.out _ _ ?_
 clear hK K hHeld hq2
 have hf0 : fv = 0 := by rw [← HFV.out]; exact HF.out
 subst hf0
 obtain ⟨ah, ch, hvf⟩ := V3.out.held.form
 subst hvf
 have hsr := search_any (V3.out.below (Below.drewN_of w3 1)).held.sl HASC.out (by have := HOK.out.hl; omega) q
 have HSR := Lib.hid hsr
 have hS : w3.cell? ⟨pv, 3, none⟩ = some (.slice ah s.H.length ch) ∧ w3.cell? ⟨gm, 0, none⟩ = some (.int .i64 q) := ⟨BX3.out.cell 3, HGB3.out.cell 0⟩
 clear hsr
 go_upto_region 6 with (fail)
 go_cut [7, 8] (fun u v wx => u = .int .i64 (posQ q s.H) ∧ v = .bool (hasQ q s.H) ∧ Below w3.heap.size w3 wx)
 case first =>
  refine wp_region_E (S := fun w3 => w3.cell? ⟨pv, 3, none⟩ = some (.slice ah s.H.length ch) ∧ w3.cell? ⟨gm, 0, none⟩ = some (.int .i64 q)) (by kernel_rfl) hS (fun hHeld => ?_)
  refine wpE_tk 0 (oi := ?o11) (v := ?v11) ?h11 (by kernel_rfl) ?q11 ?y11 (by assumption) ?_
  case h11 => (simp only [List.getElem?_toArray]; rfl)
  case q11 => exact fun _ _ _ h => h
  case y11 => exact Or.inl ⟨by rfl, by (intro w hSw; (try dsimp only at hSw); go_simp; try with_reducible rfl)⟩
  try simp only [Act.put, sA, sB, sC]
  refine wpE_tk 1 (oi := ?o12) (v := ?v12) ?h12 (by kernel_rfl) ?q12 ?y12 (by assumption) ?_
  case h12 => (simp only [List.getElem?_toArray]; rfl)
  case q12 => exact fun _ _ _ h => h
  case y12 => exact Or.inl ⟨by rfl, by (intro w hSw; (try dsimp only at hSw); go_simp; try with_reducible rfl)⟩
  try simp only [Act.put, sA, sB, sC]
  refine wpE_tk 2 (oi := ?o13) (v := ?v13) ?h13 (by kernel_rfl) ?q13 ?y13 (by assumption) ?_
  case h13 => (simp only [List.getElem?_toArray]; rfl)
  case q13 => exact fun _ _ _ h => h
  case y13 => exact Or.inl ⟨by rfl, by (intro w hSw; (try dsimp only at hSw); go_simp; try with_reducible rfl)⟩
  try simp only [Act.put, sA, sB, sC]
  refine wpE_tk 3 (oi := ?o14) (v := ?v14) ?h14 (by kernel_rfl) ?q14 ?y14 (by assumption) ?_
  case h14 => (simp only [List.getElem?_toArray]; rfl)
  case q14 => exact fun _ _ _ h => h
  case y14 => exact Or.inl ⟨by rfl, by (intro w hSw; (try dsimp only at hSw); go_simp; try with_reducible rfl)⟩
  try simp only [Act.put, sA, sB, sC]
  refine wpE_tk 4 (oi := ?o15) (v := ?v15) ?h15 (by kernel_rfl) ?q15 ?y15 (by assumption) ?_
  case h15 => (simp only [List.getElem?_toArray]; rfl)
  case q15 => exact fun _ _ _ h => h
  case y15 => exact Or.inl ⟨by rfl, by (intro w hSw; (try dsimp only at hSw); go_simp; try with_reducible rfl)⟩
  try simp only [Act.put, sA, sB, sC]
  refine wpE_tk 5 (oi := ?o16) (v := ?v16) ?h16 (by kernel_rfl) ?q16 ?y16 (by assumption) ?_
  case h16 => (simp only [List.getElem?_toArray]; rfl)
  case q16 => exact fun _ _ _ h => h
  case y16 => exact Or.inl ⟨by rfl, by (intro w hSw; (try dsimp only at hSw); go_simp; try with_reducible rfl)⟩
  try simp only [Act.put, sA, sB, sC]
  refine wpE_one (i := 6) (o := ?o49) ?ho49 (by kernel_rfl) (fun K hK => ?_)
  case ho49 => (simp only [List.getElem?_toArray]; rfl)
  go_simp
  refine HSR.out.mono ?_
  rintro e w4 ⟨rfl, hb⟩
  have hb4 := (Below.drewN_of w3 1).trans hb
  have HB4 := Lib.hid hb4
  have hS4 : w4.cell? ⟨pv, 3, none⟩ = some (.slice ah s.H.length ch) ∧ w4.cell? ⟨gm, 0, none⟩ = some (.int .i64 q) := ⟨(BX3.out.below hb4).cell 3, (HGB3.out.below hb4).cell 0⟩
  refine hK.out _ _ hS4 (fun hHeld => ?_)
  clear hK K hb hb4
  refine wpE_tk 7 (oi := ?o17) (v := ?v17) ?h17 (by kernel_rfl) ?q17 ?y17 (by assumption) ?_
  case h17 => (simp only [List.getElem?_toArray]; rfl)
  case q17 => exact fun _ _ _ h => h
  case y17 => exact Or.inl ⟨by rfl, by (intro w hSw; (try dsimp only at hSw); go_simp; try with_reducible rfl)⟩
  try simp only [Act.put, sA, sB, sC]
  refine wpE_tk 8 (oi := ?o18) (v := ?v18) ?h18 (by kernel_rfl) ?q18 ?y18 (by assumption) ?_
  case h18 => (simp only [List.getElem?_toArray]; rfl)
  case q18 => exact fun _ _ _ h => h
  case y18 => exact Or.inl ⟨by rfl, by (intro w hSw; (try dsimp only at hSw); go_simp; try with_reducible rfl)⟩
  try simp only [Act.put, sA, sB, sC]
  refine wpE_tk 9 (oi := ?o19) (v := ?v19) ?h19 (by kernel_rfl) ?q19 ?y19 (by assumption) ?_
  case h19 => (simp only [List.getElem?_toArray]; rfl)
  case q19 => exact fun _ _ _ h => h
  case y19 => exact Or.inl ⟨by rfl, by (intro w hSw; (try dsimp only at hSw); go_simp; try with_reducible rfl)⟩
  try simp only [Act.put, sA, sB, sC]
  refine wpE_one (i := 10) (o := ?o50) ?ho50 (by kernel_rfl) (fun K hK => ?_)
  case ho50 => (simp only [List.getElem?_toArray]; rfl)
  go_simp
  refine hK.out _ _ hS4 (fun hHeld => ?_)
  clear hK K
  refine wpE_last (i := 11) (o := ?o57) ?ho57 (by kernel_rfl) (by kernel_rfl) (by kernel_rfl) (fun K hK => ?_)
  case ho57 => (simp only [List.getElem?_toArray]; rfl)
  go_simp
  refine hK.out _ _ ?_
  clear hK K
  go_wp2_with fail
  go_meet
  exact ⟨rfl, rfl, HB4.out⟩
 case rest =>
 obtain ⟨rfl, rfl, hb4⟩ := hcut
 obtain ⟨w4, rfl⟩ : ∃ wo : World, wo = wc := ⟨_, rfl⟩
 have V4 := Lib.hid (V3.out.below hb4)
 have HB5 := Lib.hid (HB3.out.trans (hb4.mono HB3.out.size))
 have HGB4 := Lib.hid (HGB3.out.below hb4)
 have BX4 := Lib.hid (BX3.out.below hb4)
 have m0 : w4.cell? ⟨gm, 0, none⟩ = some (.int .i64 q) := HGB4.out.cell 0
 have k2 : w4.cell? ⟨pv, 2, none⟩ = some (.int .i64 s.seq) := BX4.out.cell 2
 obtain ⟨hh, hhe⟩ : ∃ hh, hasQ q s.H = hh := ⟨_, rfl⟩
 obtain ⟨pn, hpn⟩ : ∃ pn, posQ q s.H = pn := ⟨_, rfl⟩
 rw [hhe, hpn]
 have HHE := Lib.hid hhe
 have HPN := Lib.hid hpn
 clear hS HSR V3 HB3 HGB3 BX3 hb4 hhe hpn
 have hle : ¬ q ≤ s.seq := fun h => HO.out (.inl h)
 obtain rfl : hh = false := by rw [← HHE.out]; cases hx : hasQ q s.H with | false => rfl | true => exact absurd (.inr hx) HO.out
 have hle2 : decide (q ≤ s.seq) = false := decide_eq_false hle
 have y1 : IntKind.i64.wrap (q - 1) = q - 1 := IntWalk.i64_in _ (by have := HMO.out.seq; unfold i64r at this; dsimp only at this; omega)
 have heb : (q - 1 == s.seq) = false := by rw [beq_eq_false_iff_ne]; exact HE.out
 clear hle
 go_wp2_with fail
 go_quiet (fail)
 have hbq := Below.drewN_of w4 nq
 have V5 := Lib.hid (V4.out.below hbq)
 have HB6 := Lib.hid (HB5.out.trans (hbq.mono HB5.out.size))
 have HGB5 := Lib.hid (HGB4.out.below hbq)
 have BX5 := Lib.hid (BX4.out.below hbq)
 clear hbq V4 HB5 HGB4 BX4 m0 k2 hle2
 generalize w4.drewN nq = w5 at *
 have m0 : w5.cell? ⟨gm, 0, none⟩ = some (.int .i64 q) := HGB5.out.cell 0
 have k2 : w5.cell? ⟨pv, 2, none⟩ = some (.int .i64 s.seq) := BX5.out.cell 2
 go_wp2_with fail
 go_quiet (fail)
 have hbq := Below.drewN_of w5 nq
 have V6 := Lib.hid (V5.out.below hbq)
 have HB7 := Lib.hid (HB6.out.trans (hbq.mono HB6.out.size))
 have HGB6 := Lib.hid (HGB5.out.below hbq)
 have BX6 := Lib.hid (BX5.out.below hbq)
 clear hbq V5 HB6 HGB5 BX5 m0 k2
 generalize w5.drewN nq = w6 at *
 have k3 : w6.cell? ⟨pv, 3, none⟩ = some (.slice ah s.H.length ch) := BX6.out.cell 3
 have hge : (4096 : Int) ≤ (s.H.length : Int) := by omega
 go_wp2_with fail
 go_ret
 exact ⟨by trivial, _, V6.out, Below.keeps HB7.out, fun g hg => .inl hg⟩
set_option maxRecDepth 20000 in
set_option maxHeartbeats 16000000 in
theorem take_gap {W w : World} {pv n : Nat} {hv : Value} {s : LSt} (h : VW W w pv n hv s) {cc : Nat} (hk : SOk n cc s) (hasc : Asc s.H) {v : Value} {b : List Int} (hsl : BYL.Sl w v b) (hl : b.length ≤ 900000) (hok : ∀ z ∈ b, isByte z) {q ii sd p t c : Int} {im : Bool} (hd : decM b = some ⟨q, ii, sd, p, t, c, im⟩) (hq : ¬ q < 1) (hf : fineC n ⟨q, ii, sd, p, t, c, im⟩ = 0) (ho : ¬ (q ≤ s.seq ∨ hasQ q s.H = true)) (he : q - 1 ≠ s.seq) (hfu : ¬ 4096 ≤ s.H.length) :
  Calls Try.prog 8 #[.pointer (some ⟨pv, 0, none⟩), v] w fun e w' => e = .returned (.int .i64 (32)) ∧ ∃ hv', VW W w' pv n hv' ⟨s.V, s.seq, insM ⟨q, ii, sd, p, t, c, im⟩ s.H⟩ ∧ Keeps (FV pv hv) w w' ∧ ∀ g, hv'.ownBlock = some g → hv.ownBlock = some g ∨ w.heap.size ≤ g := by
 have hdec := dec_any hsl hl hok
 rw [hd] at hdec
 unfold decV at hdec
 simp only [Option.getD_some, Option.isSome_some, if_true] at hdec
 unfold Mg.cells at hdec
 dsimp only at hdec
 have hmo := (decM_ok hok hd).1
 have HMO := Lib.hid hmo
 have HDEC := Lib.hid hdec
 have H0 := Lib.hid h
 have HOK := Lib.hid hk
 have HASC := Lib.hid hasc
 have hlv := hk.len
 have HF := Lib.hid hf
 have HO := Lib.hid ho
 clear ho
 have HE := Lib.hid he
 clear he
 clear hf hdec h hk hsl hl hok hd hmo hasc
 go_enter Try.func8, Try.ntmps8
 go_wp2_with fail
 refine HDEC.out.mono ?_
 rintro e w1 ⟨rfl, hb⟩
 have HB1 := Lib.hid hb
 obtain ⟨gm, hgm⟩ : ∃ gm, w1.heap.size = gm := ⟨_, rfl⟩
 go_upto_region 2 with (fail)
 have hba := Below.allocN w1 (.cells #[.int .i64 q, .int .i64 ii, .int .i64 sd, .int .i64 p, .int .i64 t, .int .i64 c, .bool im] 34)
 have hgb : Blk (w1.alloc (.cells #[.int .i64 q, .int .i64 ii, .int .i64 sd, .int .i64 p, .int .i64 t, .int .i64 c, .bool im] 34)) w1.heap.size 34 #[.int .i64 q, .int .i64 ii, .int .i64 sd, .int .i64 p, .int .i64 t, .int .i64 c, .bool im] := Blk.new w1 _ _
 rw [hgm] at hgb
 have HGB := Lib.hid hgb
 have HGE : Hid (w.heap.size ≤ gm) := Lib.hid (by rw [← hgm]; exact hb.size)
 have HB2 := Lib.hid (hb.trans (hba.mono hb.size))
 clear hb hba hgb hgm HB1 HDEC
 generalize w1.alloc (.cells #[.int .i64 q, .int .i64 ii, .int .i64 sd, .int .i64 p, .int .i64 t, .int .i64 c, .bool im] 34) = w2 at *
 have V2 := Lib.hid (H0.out.below HB2.out)
 obtain ⟨a2, c2, hbx, _⟩ := H0.out.below HB2.out |>.box
 have BX := Lib.hid hbx
 have m0 : w2.cell? ⟨gm, 0, none⟩ = some (.int .i64 q) := HGB.out.cell 0
 have m1 : w2.cell? ⟨gm, 1, none⟩ = some (.int .i64 ii) := HGB.out.cell 1
 have m2 : w2.cell? ⟨gm, 2, none⟩ = some (.int .i64 sd) := HGB.out.cell 2
 have m3 : w2.cell? ⟨gm, 3, none⟩ = some (.int .i64 p) := HGB.out.cell 3
 have m4 : w2.cell? ⟨gm, 4, none⟩ = some (.int .i64 t) := HGB.out.cell 4
 have m5 : w2.cell? ⟨gm, 5, none⟩ = some (.int .i64 c) := HGB.out.cell 5
 have m6 : w2.cell? ⟨gm, 6, none⟩ = some (.bool im) := HGB.out.cell 6
 have k0 : w2.cell? ⟨pv, 0, none⟩ = some (.int .i64 n) := hbx.cell 0
 clear hbx
 have hq2 : decide (q < 1) = false := decide_eq_false (by omega)
 have hfc := fine_any n ⟨q, ii, sd, p, t, c, im⟩ w2.drew
 unfold Mg.agg at hfc
 dsimp only at hfc
 obtain ⟨fv, hfv⟩ : ∃ fv, fineC n ⟨q, ii, sd, p, t, c, im⟩ = fv := ⟨_, rfl⟩
 rw [hfv] at hfc
 have HFC := Lib.hid hfc
 have HFV := Lib.hid hfv
 clear hfc hfv
 go_upto_region 4 with (fail)
 have hS : w2.cell? ⟨gm, 0, none⟩ = some (.int .i64 q) ∧ w2.cell? ⟨gm, 1, none⟩ = some (.int .i64 ii) ∧ w2.cell? ⟨gm, 2, none⟩ = some (.int .i64 sd) ∧ w2.cell? ⟨gm, 3, none⟩ = some (.int .i64 p) ∧ w2.cell? ⟨gm, 4, none⟩ = some (.int .i64 t) ∧ w2.cell? ⟨gm, 5, none⟩ = some (.int .i64 c) ∧ w2.cell? ⟨gm, 6, none⟩ = some (.bool im) ∧ w2.cell? ⟨pv, 0, none⟩ = some (.int .i64 n) := ⟨m0, m1, m2, m3, m4, m5, m6, k0⟩
 refine wp_region_E (S := fun w2 => w2.cell? ⟨gm, 0, none⟩ = some (.int .i64 q) ∧ w2.cell? ⟨gm, 1, none⟩ = some (.int .i64 ii) ∧ w2.cell? ⟨gm, 2, none⟩ = some (.int .i64 sd) ∧ w2.cell? ⟨gm, 3, none⟩ = some (.int .i64 p) ∧ w2.cell? ⟨gm, 4, none⟩ = some (.int .i64 t) ∧ w2.cell? ⟨gm, 5, none⟩ = some (.int .i64 c) ∧ w2.cell? ⟨gm, 6, none⟩ = some (.bool im) ∧ w2.cell? ⟨pv, 0, none⟩ = some (.int .i64 n)) (by kernel_rfl) hS (fun hHeld => ?_)
 refine wpE_tk 0 (oi := ?o20) (v := ?v20) ?h20 (by kernel_rfl) ?q20 ?y20 (by assumption) ?_
 case h20 => (simp only [List.getElem?_toArray]; rfl)
 case q20 => exact fun _ _ _ h => h
 case y20 => exact Or.inl ⟨by rfl, by (intro w hSw; (try dsimp only at hSw); go_simp; try with_reducible rfl)⟩
 try simp only [Act.put, sA, sB, sC]
 refine wpE_tk 1 (oi := ?o21) (v := ?v21) ?h21 (by kernel_rfl) ?q21 ?y21 (by assumption) ?_
 case h21 => (simp only [List.getElem?_toArray]; rfl)
 case q21 => exact fun _ _ _ h => h
 case y21 => exact Or.inl ⟨by rfl, by (intro w hSw; (try dsimp only at hSw); go_simp; try with_reducible rfl)⟩
 try simp only [Act.put, sA, sB, sC]
 refine wpE_tk 2 (oi := ?o22) (v := ?v22) ?h22 (by kernel_rfl) ?q22 ?y22 (by assumption) ?_
 case h22 => (simp only [List.getElem?_toArray]; rfl)
 case q22 => exact fun _ _ _ h => h
 case y22 => exact Or.inl ⟨by rfl, by (intro w hSw; (try dsimp only at hSw); go_simp; try with_reducible rfl)⟩
 try simp only [Act.put, sA, sB, sC]
 refine wpE_tk 3 (oi := ?o23) (v := ?v23) ?h23 (by kernel_rfl) ?q23 ?y23 (by assumption) ?_
 case h23 => (simp only [List.getElem?_toArray]; rfl)
 case q23 => exact fun _ _ _ h => h
 case y23 => exact Or.inl ⟨by rfl, by (intro w hSw; (try dsimp only at hSw); go_simp; try with_reducible rfl)⟩
 try simp only [Act.put, sA, sB, sC]
 refine wpE_tk 4 (oi := ?o24) (v := ?v24) ?h24 (by kernel_rfl) ?q24 ?y24 (by assumption) ?_
 case h24 => (simp only [List.getElem?_toArray]; rfl)
 case q24 => exact fun _ _ _ h => h
 case y24 => exact Or.inl ⟨by rfl, by (intro w hSw; (try dsimp only at hSw); go_simp; try with_reducible rfl)⟩
 try simp only [Act.put, sA, sB, sC]
 refine wpE_tk 5 (oi := ?o25) (v := ?v25) ?h25 (by kernel_rfl) ?q25 ?y25 (by assumption) ?_
 case h25 => (simp only [List.getElem?_toArray]; rfl)
 case q25 => exact fun _ _ _ h => h
 case y25 => exact Or.inl ⟨by rfl, by (intro w hSw; (try dsimp only at hSw); go_simp; try with_reducible rfl)⟩
 try simp only [Act.put, sA, sB, sC]
 refine wpE_tk 6 (oi := ?o26) (v := ?v26) ?h26 (by kernel_rfl) ?q26 ?y26 (by assumption) ?_
 case h26 => (simp only [List.getElem?_toArray]; rfl)
 case q26 => exact fun _ _ _ h => h
 case y26 => exact Or.inl ⟨by rfl, by (intro w hSw; (try dsimp only at hSw); go_simp; try with_reducible rfl)⟩
 try simp only [Act.put, sA, sB, sC]
 refine wpE_tk 7 (oi := ?o27) (v := ?v27) ?h27 (by kernel_rfl) ?q27 ?y27 (by assumption) ?_
 case h27 => (simp only [List.getElem?_toArray]; rfl)
 case q27 => exact fun _ _ _ h => h
 case y27 => exact Or.inl ⟨by rfl, by (intro w hSw; (try dsimp only at hSw); go_simp; try with_reducible rfl)⟩
 try simp only [Act.put, sA, sB, sC]
 refine wpE_tk 8 (oi := ?o28) (v := ?v28) ?h28 (by kernel_rfl) ?q28 ?y28 (by assumption) ?_
 case h28 => (simp only [List.getElem?_toArray]; rfl)
 case q28 => exact fun _ _ _ h => h
 case y28 => exact Or.inl ⟨by rfl, by (intro w hSw; (try dsimp only at hSw); go_simp; try with_reducible rfl)⟩
 try simp only [Act.put, sA, sB, sC]
 refine wpE_one (i := 9) (o := ?o51) ?ho51 (by kernel_rfl) (fun K hK => ?_)
 case ho51 => (simp only [List.getElem?_toArray]; rfl)
 go_simp
 refine HFC.out.mono ?_
 rintro e w3 ⟨rfl, hb⟩
 have hb3 := (Below.drewN_of w2 1).trans hb
 have V3 := Lib.hid (V2.out.below hb3)
 have HB3 := Lib.hid (HB2.out.trans (hb3.mono HB2.out.size))
 have HGB3 := Lib.hid (HGB.out.below hb3)
 have BX3 := Lib.hid (BX.out.below hb3)
 refine hK.out _ _ ⟨HGB3.out.cell 0, HGB3.out.cell 1, HGB3.out.cell 2, HGB3.out.cell 3, HGB3.out.cell 4, HGB3.out.cell 5, HGB3.out.cell 6, BX3.out.cell 0⟩ (fun hHeld => ?_)
 clear hK K hb hb3 hS HFC V2 HB2 HGB BX m0 m1 m2 m3 m4 m5 m6 k0
 refine wpE_tk 10 (oi := ?o29) (v := ?v29) ?h29 (by kernel_rfl) ?q29 ?y29 (by assumption) ?_
 case h29 => (simp only [List.getElem?_toArray]; rfl)
 case q29 => exact fun _ _ _ h => h
 case y29 => exact Or.inl ⟨by rfl, by (intro w hSw; (try dsimp only at hSw); go_simp; try with_reducible rfl)⟩
 try simp only [Act.put, sA, sB, sC]
 refine wpE_last (i := 11) (o := ?o58) ?ho58 (by kernel_rfl) (by kernel_rfl) (by kernel_rfl) (fun K hK => ?_)
 case ho58 => (simp only [List.getElem?_toArray]; rfl)
 go_simp
 refine hK.out _ _ ?_
 clear hK K hHeld hq2
 have hf0 : fv = 0 := by rw [← HFV.out]; exact HF.out
 subst hf0
 obtain ⟨ah, ch, hvf⟩ := V3.out.held.form
 subst hvf
 have hsr := search_any (V3.out.below (Below.drewN_of w3 1)).held.sl HASC.out (by have := HOK.out.hl; omega) q
 have HSR := Lib.hid hsr
 have hS : w3.cell? ⟨pv, 3, none⟩ = some (.slice ah s.H.length ch) ∧ w3.cell? ⟨gm, 0, none⟩ = some (.int .i64 q) := ⟨BX3.out.cell 3, HGB3.out.cell 0⟩
 clear hsr
 go_upto_region 6 with (fail)
 go_cut [7, 8] (fun u v wx => u = .int .i64 (posQ q s.H) ∧ v = .bool (hasQ q s.H) ∧ Below w3.heap.size w3 wx)
 case first =>
  refine wp_region_E (S := fun w3 => w3.cell? ⟨pv, 3, none⟩ = some (.slice ah s.H.length ch) ∧ w3.cell? ⟨gm, 0, none⟩ = some (.int .i64 q)) (by kernel_rfl) hS (fun hHeld => ?_)
  refine wpE_tk 0 (oi := ?o30) (v := ?v30) ?h30 (by kernel_rfl) ?q30 ?y30 (by assumption) ?_
  case h30 => (simp only [List.getElem?_toArray]; rfl)
  case q30 => exact fun _ _ _ h => h
  case y30 => exact Or.inl ⟨by rfl, by (intro w hSw; (try dsimp only at hSw); go_simp; try with_reducible rfl)⟩
  try simp only [Act.put, sA, sB, sC]
  refine wpE_tk 1 (oi := ?o31) (v := ?v31) ?h31 (by kernel_rfl) ?q31 ?y31 (by assumption) ?_
  case h31 => (simp only [List.getElem?_toArray]; rfl)
  case q31 => exact fun _ _ _ h => h
  case y31 => exact Or.inl ⟨by rfl, by (intro w hSw; (try dsimp only at hSw); go_simp; try with_reducible rfl)⟩
  try simp only [Act.put, sA, sB, sC]
  refine wpE_tk 2 (oi := ?o32) (v := ?v32) ?h32 (by kernel_rfl) ?q32 ?y32 (by assumption) ?_
  case h32 => (simp only [List.getElem?_toArray]; rfl)
  case q32 => exact fun _ _ _ h => h
  case y32 => exact Or.inl ⟨by rfl, by (intro w hSw; (try dsimp only at hSw); go_simp; try with_reducible rfl)⟩
  try simp only [Act.put, sA, sB, sC]
  refine wpE_tk 3 (oi := ?o33) (v := ?v33) ?h33 (by kernel_rfl) ?q33 ?y33 (by assumption) ?_
  case h33 => (simp only [List.getElem?_toArray]; rfl)
  case q33 => exact fun _ _ _ h => h
  case y33 => exact Or.inl ⟨by rfl, by (intro w hSw; (try dsimp only at hSw); go_simp; try with_reducible rfl)⟩
  try simp only [Act.put, sA, sB, sC]
  refine wpE_tk 4 (oi := ?o34) (v := ?v34) ?h34 (by kernel_rfl) ?q34 ?y34 (by assumption) ?_
  case h34 => (simp only [List.getElem?_toArray]; rfl)
  case q34 => exact fun _ _ _ h => h
  case y34 => exact Or.inl ⟨by rfl, by (intro w hSw; (try dsimp only at hSw); go_simp; try with_reducible rfl)⟩
  try simp only [Act.put, sA, sB, sC]
  refine wpE_tk 5 (oi := ?o35) (v := ?v35) ?h35 (by kernel_rfl) ?q35 ?y35 (by assumption) ?_
  case h35 => (simp only [List.getElem?_toArray]; rfl)
  case q35 => exact fun _ _ _ h => h
  case y35 => exact Or.inl ⟨by rfl, by (intro w hSw; (try dsimp only at hSw); go_simp; try with_reducible rfl)⟩
  try simp only [Act.put, sA, sB, sC]
  refine wpE_one (i := 6) (o := ?o52) ?ho52 (by kernel_rfl) (fun K hK => ?_)
  case ho52 => (simp only [List.getElem?_toArray]; rfl)
  go_simp
  refine HSR.out.mono ?_
  rintro e w4 ⟨rfl, hb⟩
  have hb4 := (Below.drewN_of w3 1).trans hb
  have HB4 := Lib.hid hb4
  have hS4 : w4.cell? ⟨pv, 3, none⟩ = some (.slice ah s.H.length ch) ∧ w4.cell? ⟨gm, 0, none⟩ = some (.int .i64 q) := ⟨(BX3.out.below hb4).cell 3, (HGB3.out.below hb4).cell 0⟩
  refine hK.out _ _ hS4 (fun hHeld => ?_)
  clear hK K hb hb4
  refine wpE_tk 7 (oi := ?o36) (v := ?v36) ?h36 (by kernel_rfl) ?q36 ?y36 (by assumption) ?_
  case h36 => (simp only [List.getElem?_toArray]; rfl)
  case q36 => exact fun _ _ _ h => h
  case y36 => exact Or.inl ⟨by rfl, by (intro w hSw; (try dsimp only at hSw); go_simp; try with_reducible rfl)⟩
  try simp only [Act.put, sA, sB, sC]
  refine wpE_tk 8 (oi := ?o37) (v := ?v37) ?h37 (by kernel_rfl) ?q37 ?y37 (by assumption) ?_
  case h37 => (simp only [List.getElem?_toArray]; rfl)
  case q37 => exact fun _ _ _ h => h
  case y37 => exact Or.inl ⟨by rfl, by (intro w hSw; (try dsimp only at hSw); go_simp; try with_reducible rfl)⟩
  try simp only [Act.put, sA, sB, sC]
  refine wpE_tk 9 (oi := ?o38) (v := ?v38) ?h38 (by kernel_rfl) ?q38 ?y38 (by assumption) ?_
  case h38 => (simp only [List.getElem?_toArray]; rfl)
  case q38 => exact fun _ _ _ h => h
  case y38 => exact Or.inl ⟨by rfl, by (intro w hSw; (try dsimp only at hSw); go_simp; try with_reducible rfl)⟩
  try simp only [Act.put, sA, sB, sC]
  refine wpE_one (i := 10) (o := ?o53) ?ho53 (by kernel_rfl) (fun K hK => ?_)
  case ho53 => (simp only [List.getElem?_toArray]; rfl)
  go_simp
  refine hK.out _ _ hS4 (fun hHeld => ?_)
  clear hK K
  refine wpE_last (i := 11) (o := ?o59) ?ho59 (by kernel_rfl) (by kernel_rfl) (by kernel_rfl) (fun K hK => ?_)
  case ho59 => (simp only [List.getElem?_toArray]; rfl)
  go_simp
  refine hK.out _ _ ?_
  clear hK K
  go_wp2_with fail
  go_meet
  exact ⟨rfl, rfl, HB4.out⟩
 case rest =>
 obtain ⟨rfl, rfl, hb4⟩ := hcut
 obtain ⟨w4, rfl⟩ : ∃ wo : World, wo = wc := ⟨_, rfl⟩
 have V4 := Lib.hid (V3.out.below hb4)
 have HB5 := Lib.hid (HB3.out.trans (hb4.mono HB3.out.size))
 have HGB4 := Lib.hid (HGB3.out.below hb4)
 have BX4 := Lib.hid (BX3.out.below hb4)
 have m0 : w4.cell? ⟨gm, 0, none⟩ = some (.int .i64 q) := HGB4.out.cell 0
 have k2 : w4.cell? ⟨pv, 2, none⟩ = some (.int .i64 s.seq) := BX4.out.cell 2
 obtain ⟨hh, hhe⟩ : ∃ hh, hasQ q s.H = hh := ⟨_, rfl⟩
 obtain ⟨pn, hpn⟩ : ∃ pn, posQ q s.H = pn := ⟨_, rfl⟩
 rw [hhe, hpn]
 have HHE := Lib.hid hhe
 have HPN := Lib.hid hpn
 clear hS HSR V3 HB3 HGB3 BX3 hb4 hhe hpn
 have hle : ¬ q ≤ s.seq := fun h => HO.out (.inl h)
 obtain rfl : hh = false := by rw [← HHE.out]; cases hx : hasQ q s.H with | false => rfl | true => exact absurd (.inr hx) HO.out
 have hle2 : decide (q ≤ s.seq) = false := decide_eq_false hle
 have y1 : IntKind.i64.wrap (q - 1) = q - 1 := IntWalk.i64_in _ (by have := HMO.out.seq; unfold i64r at this; dsimp only at this; omega)
 have heb : (q - 1 == s.seq) = false := by rw [beq_eq_false_iff_ne]; exact HE.out
 clear hle
 go_wp2_with fail
 go_quiet (fail)
 have hbq := Below.drewN_of w4 nq
 have V5 := Lib.hid (V4.out.below hbq)
 have HB6 := Lib.hid (HB5.out.trans (hbq.mono HB5.out.size))
 have HGB5 := Lib.hid (HGB4.out.below hbq)
 have BX5 := Lib.hid (BX4.out.below hbq)
 clear hbq V4 HB5 HGB4 BX4 m0 k2 hle2
 generalize w4.drewN nq = w5 at *
 have m0 : w5.cell? ⟨gm, 0, none⟩ = some (.int .i64 q) := HGB5.out.cell 0
 have k2 : w5.cell? ⟨pv, 2, none⟩ = some (.int .i64 s.seq) := BX5.out.cell 2
 go_wp2_with fail
 go_quiet (fail)
 have hbq := Below.drewN_of w5 nq
 have V6 := Lib.hid (V5.out.below hbq)
 have HB7 := Lib.hid (HB6.out.trans (hbq.mono HB6.out.size))
 have HGB6 := Lib.hid (HGB5.out.below hbq)
 have BX6 := Lib.hid (BX5.out.below hbq)
 clear hbq V5 HB6 HGB5 BX5 m0 k2
 generalize w5.drewN nq = w6 at *
 have k3 : w6.cell? ⟨pv, 3, none⟩ = some (.slice ah s.H.length ch) := BX6.out.cell 3
 have hge : ¬ (4096 : Int) ≤ (s.H.length : Int) := by omega
 have hpl : pn ≤ s.H.length := by rw [← HPN.out]; exact posQ_le q s.H
 go_upto_region 15 with (fail)
 have hb7 : Below w6.heap.size w6 (w6.alloc (.cells #[.int .i64 q, .int .i64 ii, .int .i64 sd, .int .i64 p, .int .i64 t, .int .i64 c, .bool im] 34)).drew := (Below.allocN w6 _).trans ((Below.drewN_of _ 1).mono (by simp))
 have V7 := Lib.hid (V6.out.below hb7)
 have BX7 := Lib.hid (BX6.out.below hb7)
 have HGB7 := Lib.hid (HGB6.out.below hb7)
 have HB8 := Lib.hid (HB7.out.trans (hb7.mono HB7.out.size))
 have hnb : Blk (w6.alloc (.cells #[.int .i64 q, .int .i64 ii, .int .i64 sd, .int .i64 p, .int .i64 t, .int .i64 c, .bool im] 34)).drew w6.heap.size 34 (⟨q, ii, sd, p, t, c, im⟩ : Mg).cells.toArray := (Blk.new w6 _ _).drew
 have hne7 : (Value.slice ah s.H.length ch).ownBlock ≠ some w6.heap.size := fun h => by have := own_lt V6.out.held _ h; omega
 have HIN := Lib.hid (insert_anyM (i := pn) (x := ⟨q, ii, sd, p, t, c, im⟩) V7.out.held hpl hnb hne7 V7.out.bel.size (by omega))
 have hS : w6.cell? ⟨gm, 0, none⟩ = some (.int .i64 q) ∧ w6.cell? ⟨gm, 1, none⟩ = some (.int .i64 ii) ∧ w6.cell? ⟨gm, 2, none⟩ = some (.int .i64 sd) ∧ w6.cell? ⟨gm, 3, none⟩ = some (.int .i64 p) ∧ w6.cell? ⟨gm, 4, none⟩ = some (.int .i64 t) ∧ w6.cell? ⟨gm, 5, none⟩ = some (.int .i64 c) ∧ w6.cell? ⟨gm, 6, none⟩ = some (.bool im) ∧ w6.cell? ⟨pv, 3, none⟩ = some (.slice ah s.H.length ch) := ⟨HGB6.out.cell 0, HGB6.out.cell 1, HGB6.out.cell 2, HGB6.out.cell 3, HGB6.out.cell 4, HGB6.out.cell 5, HGB6.out.cell 6, k3⟩
 have HNG : Hid (∀ g, (Value.slice ah s.H.length ch).ownBlock = some g → g ≠ gm) := Lib.hid (fun g hg => by have := own_lt H0.out.held g hg; have := HGE.out; omega)
 have HLT : Hid (∀ g, (Value.slice ah s.H.length ch).ownBlock = some g → W.heap.size ≤ g) := Lib.hid (own_base V6.out.held)
 refine wp_region_E (S := fun w6 => w6.cell? ⟨gm, 0, none⟩ = some (.int .i64 q) ∧ w6.cell? ⟨gm, 1, none⟩ = some (.int .i64 ii) ∧ w6.cell? ⟨gm, 2, none⟩ = some (.int .i64 sd) ∧ w6.cell? ⟨gm, 3, none⟩ = some (.int .i64 p) ∧ w6.cell? ⟨gm, 4, none⟩ = some (.int .i64 t) ∧ w6.cell? ⟨gm, 5, none⟩ = some (.int .i64 c) ∧ w6.cell? ⟨gm, 6, none⟩ = some (.bool im) ∧ w6.cell? ⟨pv, 3, none⟩ = some (.slice ah s.H.length ch)) (by kernel_rfl) hS (fun hHeld => ?_)
 refine wpE_tk 0 (oi := ?o39) (v := ?v39) ?h39 (by kernel_rfl) ?q39 ?y39 (by assumption) ?_
 case h39 => (simp only [List.getElem?_toArray]; rfl)
 case q39 => exact fun _ _ _ h => h
 case y39 => exact Or.inl ⟨by rfl, by (intro w hSw; (try dsimp only at hSw); go_simp; try with_reducible rfl)⟩
 try simp only [Act.put, sA, sB, sC]
 refine wpE_tk 1 (oi := ?o40) (v := ?v40) ?h40 (by kernel_rfl) ?q40 ?y40 (by assumption) ?_
 case h40 => (simp only [List.getElem?_toArray]; rfl)
 case q40 => exact fun _ _ _ h => h
 case y40 => exact Or.inl ⟨by rfl, by (intro w hSw; (try dsimp only at hSw); go_simp; try with_reducible rfl)⟩
 try simp only [Act.put, sA, sB, sC]
 refine wpE_tk 2 (oi := ?o41) (v := ?v41) ?h41 (by kernel_rfl) ?q41 ?y41 (by assumption) ?_
 case h41 => (simp only [List.getElem?_toArray]; rfl)
 case q41 => exact fun _ _ _ h => h
 case y41 => exact Or.inl ⟨by rfl, by (intro w hSw; (try dsimp only at hSw); go_simp; try with_reducible rfl)⟩
 try simp only [Act.put, sA, sB, sC]
 refine wpE_tk 3 (oi := ?o42) (v := ?v42) ?h42 (by kernel_rfl) ?q42 ?y42 (by assumption) ?_
 case h42 => (simp only [List.getElem?_toArray]; rfl)
 case q42 => exact fun _ _ _ h => h
 case y42 => exact Or.inl ⟨by rfl, by (intro w hSw; (try dsimp only at hSw); go_simp; try with_reducible rfl)⟩
 try simp only [Act.put, sA, sB, sC]
 refine wpE_tk 4 (oi := ?o43) (v := ?v43) ?h43 (by kernel_rfl) ?q43 ?y43 (by assumption) ?_
 case h43 => (simp only [List.getElem?_toArray]; rfl)
 case q43 => exact fun _ _ _ h => h
 case y43 => exact Or.inl ⟨by rfl, by (intro w hSw; (try dsimp only at hSw); go_simp; try with_reducible rfl)⟩
 try simp only [Act.put, sA, sB, sC]
 refine wpE_tk 5 (oi := ?o44) (v := ?v44) ?h44 (by kernel_rfl) ?q44 ?y44 (by assumption) ?_
 case h44 => (simp only [List.getElem?_toArray]; rfl)
 case q44 => exact fun _ _ _ h => h
 case y44 => exact Or.inl ⟨by rfl, by (intro w hSw; (try dsimp only at hSw); go_simp; try with_reducible rfl)⟩
 try simp only [Act.put, sA, sB, sC]
 refine wpE_tk 6 (oi := ?o45) (v := ?v45) ?h45 (by kernel_rfl) ?q45 ?y45 (by assumption) ?_
 case h45 => (simp only [List.getElem?_toArray]; rfl)
 case q45 => exact fun _ _ _ h => h
 case y45 => exact Or.inl ⟨by rfl, by (intro w hSw; (try dsimp only at hSw); go_simp; try with_reducible rfl)⟩
 try simp only [Act.put, sA, sB, sC]
 refine wpE_one (i := 7) (o := ?o54) ?ho54 (by kernel_rfl) (fun K hK => ?_)
 case ho54 => (simp only [List.getElem?_toArray]; rfl)
 go_simp
 refine hK.out _ _ ⟨HGB7.out.cell 0, HGB7.out.cell 1, HGB7.out.cell 2, HGB7.out.cell 3, HGB7.out.cell 4, HGB7.out.cell 5, HGB7.out.cell 6, BX7.out.cell 3⟩ (fun hHeld => ?_)
 clear hK K hS hb7 hnb hne7 k3
 have HSZ7 : Hid (w6.heap.size ≤ (w6.alloc (.cells #[.int .i64 q, .int .i64 ii, .int .i64 sd, .int .i64 p, .int .i64 t, .int .i64 c, .bool im] 34)).drew.heap.size) := Lib.hid (by simp [World.drew])
 generalize (w6.alloc (.cells #[.int .i64 q, .int .i64 ii, .int .i64 sd, .int .i64 p, .int .i64 t, .int .i64 c, .bool im] 34)).drew = wB at *
 refine wpE_one (i := 8) (o := ?o55) ?ho55 (by kernel_rfl) (fun K hK => ?_)
 case ho55 => (simp only [List.getElem?_toArray]; rfl)
 go_simp
 refine HIN.out.mono ?_
 rintro e wC ⟨v2, rfl, hr9, hk9, ho9⟩
 rw [← HPN.out, ← insM_pos ⟨q, ii, sd, p, t, c, im⟩] at hr9
 obtain ⟨a9, c9, rfl⟩ := hr9.form
 have hpv : ¬ (Value.slice ah s.H.length ch).ownBlock = some pv := fun h => (own_tyd V7.out.held pv h).ne BX7.out.tyd (by decide) rfl
 have hbx9 := BX7.out.keeps hk9 hpv
 have hgm9 := HGB7.out.keeps hk9 (fun h => HNG.out gm h rfl)
 have V9 := Lib.hid (V7.out.ins_ hk9 hr9)
 have K9 := Lib.hid (((Below.keeps (F := FV pv (.slice ah s.H.length ch)) HB8.out).trans (hk9.more fun g hg => .inr hg)).trans ((keep1 wC pv 3 (.slice a9 (insM ⟨q, ii, sd, p, t, c, im⟩ s.H).length c9)).more fun g hg => .inl hg))
 have O9 : Hid (∀ g, (Value.slice a9 (insM ⟨q, ii, sd, p, t, c, im⟩ s.H).length c9).ownBlock = some g → (Value.slice ah s.H.length ch).ownBlock = some g ∨ w.heap.size ≤ g) := Lib.hid (by
  intro g hg
  rcases ho9 with h | h
  ·exact .inl (by rw [← h]; exact hg)
  ·rw [h] at hg; injection hg with hg; exact .inr (by rw [← hg]; exact HB8.out.size))
 have k9 : wC.cell? ⟨pv, 3, none⟩ = some (.slice ah s.H.length ch) := hbx9.cell 3
 have z9 : wC.frozen? ⟨pv, 3, none⟩ = false := hbx9.frozen 3
 obtain ⟨nl, hnl⟩ : ∃ nl, (insM ⟨q, ii, sd, p, t, c, im⟩ s.H).length = nl := ⟨_, rfl⟩
 rw [hnl] at V9 K9 O9 ⊢
 refine hK.out _ _ ⟨hgm9.cell 0, hgm9.cell 1, hgm9.cell 2, hgm9.cell 3, hgm9.cell 4, hgm9.cell 5, hgm9.cell 6, k9⟩ (fun hHeld => ?_)
 clear hK K hr9 hk9 ho9 hpv hbx9 hgm9 HIN hnl
 refine wpE_tk 9 (oi := ?o46) (v := ?v46) ?h46 (by kernel_rfl) ?q46 ?y46 (by assumption) ?_
 case h46 => (simp only [List.getElem?_toArray]; rfl)
 case q46 => exact fun _ _ _ h => h
 case y46 => exact Or.inl ⟨by rfl, by (intro w hSw; (try dsimp only at hSw); go_simp; try with_reducible rfl)⟩
 try simp only [Act.put, sA, sB, sC]
 refine wpE_tk 10 (oi := ?o47) (v := ?v47) ?h47 (by kernel_rfl) ?q47 ?y47 (by assumption) ?_
 case h47 => (simp only [List.getElem?_toArray]; rfl)
 case q47 => exact fun _ _ _ h => h
 case y47 => exact Or.inl ⟨by rfl, by (intro w hSw; (try dsimp only at hSw); go_simp; try with_reducible rfl)⟩
 try simp only [Act.put, sA, sB, sC]
 refine wpE_last (i := 11) (o := ?o60) ?ho60 (by kernel_rfl) (by kernel_rfl) (by kernel_rfl) (fun K hK => ?_)
 case ho60 => (simp only [List.getElem?_toArray]; rfl)
 go_simp
 refine hK.out _ _ ?_
 clear hK K hHeld k9 z9
 go_wp2_with fail
 go_ret
 exact ⟨by trivial, _, V9.out, K9.out, O9.out⟩
end Go.Proofs.Ytmaijkoopjocdaa
