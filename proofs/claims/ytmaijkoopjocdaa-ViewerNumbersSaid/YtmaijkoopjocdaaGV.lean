/- Merged: RSnap TwoL. -/
import Derived.Test.YtmaijkoopjocdaaGT
import Derived.Test.YtmaijkoopjocdaaRSDec
import Derived.Test.YtmaijkoopjocdaaGU
import Derived.Test.YtmaijkoopjocdaaGN
/- The walk of cornhillref21.Viewer's Snap. -/
namespace Go.Proofs.Ytmaijkoopjocdaa
open Go.RowKit Go.Lib

section
variable {W w : World} {pw n : Nat} {hw : Value} {s : LSt} {cc : Nat}
set_option maxRecDepth 20000 in
set_option maxHeartbeats 16000000 in
theorem dsnap_any (h : RW W w pw hw s) (hk : SOk n cc s) (hcc : cc ≤ 400000) {v : Value} {b : List Int} (hsl : BYL.Sl w v b) (hl : b.length ≤ 900000) (hok : ∀ z ∈ b, isByte z) :
  Calls Try.prog 13 #[.pointer (some ⟨pw, 0, none⟩), v] w fun e w' => e = .returned (.int .i64 (snapR n s b).1) ∧ ∃ hw', RW W w' pw hw' (snapR n s b).2 ∧ Keeps (FV pw hw) w w' ∧ ∀ g, hw'.ownBlock = some g → hw.ownBlock = some g ∨ w.heap.size ≤ g := by
 have hdec := rsdec_any hsl hl hok
 obtain ⟨r, hr⟩ : ∃ r, snapR n s b = r := ⟨_, rfl⟩
 rw [hr]
 obtain ⟨dW, dV, dQ, hD⟩ : ∃ x y z, decS b = (x, y, z) := ⟨_, _, _, rfl⟩
 have HR : Hid (r = (if dW ≠ 0 then (dW, s) else if dV.length ≠ n ∨ dQ < 0 then (12, s) else if dQ < s.seq then (33, s) else (0, onR (s.H.filter (fun m => decide (dQ < m.seq))).length ⟨dV, dQ, s.H.filter (fun m => decide (dQ < m.seq))⟩))) := Lib.hid (by rw [← hr]; unfold snapR; rw [hD])
 have HDS : Hid (dW = 0 → SrtV dV ∧ LenV dV 255 ∧ dV.length ≤ 255 ∧ i64r dQ) := Lib.hid (fun h0 => by subst h0; exact decS_ok hD)
 rw [hD] at hdec
 have HDEC := Lib.hid hdec
 have H0 := Lib.hid h
 have HOK := Lib.hid hk
 have HLV := Lib.hid hk.len
 have HCC := Lib.hid hcc
 have HH2 : Hid (s.H.length ≤ 400000) := Lib.hid (Nat.le_trans hk.hl hcc)
 clear hdec h hk hsl hl hok hr hD hcc
 go_enter Try.func13, Try.ntmps13
 go_wp2_with fail
 refine HDEC.out.mono ?_
 rintro e w1 ⟨u, rfl, hvo, hb⟩
 obtain ⟨au, cu, rfl⟩ := hvo.form
 go_upto_region 2 with (fail)
 obtain ⟨g5, hg5⟩ : ∃ g, w1.heap.size = g := ⟨_, rfl⟩
 have hba := Below.allocN w1 (.cells #[.slice au dV.length cu] 44)
 have hgb : Blk (w1.alloc (.cells #[.slice au dV.length cu] 44)) w1.heap.size 44 #[.slice au dV.length cu] := Blk.new _ _ _
 rw [hg5] at hgb ⊢
 have HGB := Lib.hid hgb
 have HB2 := Lib.hid (hb.trans (hba.mono hb.size))
 have HVO2 := Lib.hid (hvo.below hba)
 clear hb hba hgb hg5 HDEC hvo
 generalize w1.alloc (.cells #[.slice au dV.length cu] 44) = w2 at *
 have V2 := Lib.hid (H0.out.below HB2.out)
 obtain ⟨a2, c2, hbx, _⟩ := V2.out.box
 obtain ⟨ah, ch, hvf⟩ := V2.out.held.form
 subst hvf
 have BX := Lib.hid hbx
 clear hbx
 have HSAME : Hid (∀ wx, Below w2.heap.size w2 wx → (∃ hw', RW W wx pw hw' s ∧ Keeps (FV pw (.slice ah s.H.length ch)) w wx ∧ ∀ g, hw'.ownBlock = some g → (Value.slice ah s.H.length ch).ownBlock = some g ∨ w.heap.size ≤ g)) := Lib.hid fun wx hb =>
  ⟨_, V2.out.below hb, Below.keeps (HB2.out.trans (hb.mono HB2.out.size)), fun g hg => .inl hg⟩
 by_cases h0 : dW = 0
 ·have HD2 := Lib.hid (HDS.out h0)
  subst h0
  have HR2 : Hid (r = (if dV.length ≠ n ∨ dQ < 0 then (12, s) else if dQ < s.seq then (33, s) else (0, onR (s.H.filter (fun m => decide (dQ < m.seq))).length ⟨dV, dQ, s.H.filter (fun m => decide (dQ < m.seq))⟩))) := Lib.hid (by rw [HR.out, if_neg (fun h => h rfl)])
  clear HR HDS
  have k0 : w2.cell? ⟨pw, 0, none⟩ = some (.slice a2 s.V.length c2) := BX.out.cell 0
  have g0 : w2.cell? ⟨g5, 0, none⟩ = some (.slice au dV.length cu) := HGB.out.cell 0
  go_wp2_with fail
  obtain ⟨bb, hbb⟩ : ∃ bb, (decide (dV.length ≠ n) || decide (dQ < 0)) = bb := ⟨_, rfl⟩
  have HBB := Lib.hid hbb
  clear hbb
  go_cut [32] (fun u wx => u = .bool bb ∧ ∃ nq, wx = w2.drewN nq)
  case first =>
   by_cases hln : dV.length = n
   ·have hlb : ((dV.length : Int) != (s.V.length : Int)) = false := by rw [HLV.out, hln]; simp
    have hb : decide (dQ < 0) = bb := by rw [← HBB.out, show decide (dV.length ≠ n) = false from decide_eq_false (not_not_intro hln), Bool.false_or]
    clear hln
    go_quiet (fail)
    go_wp2_with fail
    go_meet
    exact ⟨by first | rfl | rw [hb], _, rfl⟩
   ·have hlb : ((dV.length : Int) != (s.V.length : Int)) = true := by rw [bne_iff_ne, HLV.out]; omega
    have hb : bb = true := by rw [← HBB.out, decide_eq_true hln, Bool.true_or]
    subst hb
    go_quiet (fail)
    go_wp2_with fail
    go_meet
    exact ⟨by rfl, _, rfl⟩
  case rest =>
  obtain ⟨rfl, nq, rfl⟩ := hcut
  have hd6 : Below w2.heap.size w2 (w2.drewN nq) := Below.drewN_of w2 nq
  have HGB6 := Lib.hid (HGB.out.below hd6)
  have V6 := Lib.hid (V2.out.below hd6)
  have BX6 := Lib.hid (BX.out.below hd6)
  have HVO6 := Lib.hid (HVO2.out.below hd6)
  have HB6 := Lib.hid (HB2.out.trans (hd6.mono HB2.out.size))
  have HD6 := Lib.hid hd6
  have HSAME6 : Hid (∀ wx, Below (w2.drewN nq).heap.size (w2.drewN nq) wx → (∃ hw', RW W wx pw hw' s ∧ Keeps (FV pw (.slice ah s.H.length ch)) w wx ∧ ∀ g, hw'.ownBlock = some g → (Value.slice ah s.H.length ch).ownBlock = some g ∨ w.heap.size ≤ g)) := Lib.hid fun wx hb => HSAME.out wx (HD6.out.trans (hb.mono HD6.out.size))
  clear hd6 HGB V2 BX HVO2 HB2 HSAME HD6 k0 g0
  generalize w2.drewN nq = w6 at *
  cases bb with
  | true =>
   have HE : Hid (r = (12, s)) := Lib.hid (by rw [HR2.out, if_pos (by have := HBB.out; rw [Bool.or_eq_true] at this; rcases this with h | h; exact .inl (of_decide_eq_true h); exact .inr (of_decide_eq_true h))])
   go_wp2_with fail
   go_ret
   rw [HE.out]
   exact ⟨by trivial, HSAME6.out _ (Below.refl _ _)⟩
  | false =>
   have hb2 := HBB.out
   rw [Bool.or_eq_false_iff] at hb2
   have hln : dV.length = n := Decidable.not_not.1 (of_decide_eq_false hb2.1)
   have hq0 : ¬ dQ < 0 := of_decide_eq_false hb2.2
   have HLN := Lib.hid hln
   have HR3 : Hid (r = (if dQ < s.seq then (33, s) else (0, onR (s.H.filter (fun m => decide (dQ < m.seq))).length ⟨dV, dQ, s.H.filter (fun m => decide (dQ < m.seq))⟩))) := Lib.hid (by rw [HR2.out, if_neg (by rintro (h | h); exact h hln; exact hq0 h)])
   clear hb2 hln HR2 HBB
   have k1 : w6.cell? ⟨pw, 1, none⟩ = some (.int .i64 s.seq) := BX6.out.cell 1
   by_cases hlt : dQ < s.seq
   ·have HE : Hid (r = (33, s)) := Lib.hid (by rw [HR3.out, if_pos hlt])
    go_wp2_with fail
    go_ret
    rw [HE.out]
    exact ⟨by trivial, HSAME6.out _ (Below.refl _ _)⟩
   ·have HE : Hid (r = (0, onR (s.H.filter (fun m => decide (dQ < m.seq))).length ⟨dV, dQ, s.H.filter (fun m => decide (dQ < m.seq))⟩)) := Lib.hid (by rw [HR3.out, if_neg hlt])
    have k0 : w6.cell? ⟨pw, 0, none⟩ = some (.slice a2 s.V.length c2) := BX6.out.cell 0
    have g0 : w6.cell? ⟨g5, 0, none⟩ = some (.slice au dV.length cu) := HGB6.out.cell 0
    have zf : ∀ o, w6.frozen? ⟨pw, o, none⟩ = false := fun o => BX6.out.frozen o
    have R8 := Lib.hid ((V6.out.view_ (HVO6.out.base (B' := W.heap.size) H0.out.bel.size)).seq_ dQ)
    have K8 : Hid (Keeps (FV pw (.slice ah s.H.length ch)) w ((w6.setCell ⟨pw, 0, none⟩ (.slice au dV.length cu)).setCell ⟨pw, 1, none⟩ (.int .i64 dQ))) := Lib.hid ((((Below.keeps (F := FV pw (.slice ah s.H.length ch)) HB6.out).setCell (p := ⟨pw, 0, none⟩) (fun _ => .inl rfl) _)).setCell (p := ⟨pw, 1, none⟩) (fun _ => .inl rfl) _)
    clear HR3
    go_upto_region 10 with (fail)
    clear k0 k1 g0 zf V6 BX6 HVO6 HGB6 HB6 HSAME6
    generalize (w6.setCell ⟨pw, 0, none⟩ (.slice au dV.length cu)).setCell ⟨pw, 1, none⟩ (.int .i64 dQ) = w8 at *
    have hhl := HH2.out
    go_wp2_with fail
    go_loopw [9, 8] (fun i hv w' => ∃ (k : Nat) (av : Option Addr) (l cv : Nat), i = .int .i64 k ∧ hv = .slice av l cv ∧ k ≤ s.H.length ∧ ((s.H.take k).filter (fun m => decide (dQ < m.seq))).length = l ∧ MSG.Row w' w8.heap.size (.slice av l cv) ((s.H.take k).filter (fun m => decide (dQ < m.seq))) ∧ Below w8.heap.size w8 w') (fun i _ _ => s.H.length - (RowKit.intOf i).toNat)
    case atStart => exact ⟨0, none, 0, 0, rfl, rfl, Nat.zero_le _, rfl, Lay.Row.nil _ _, Below.refl _ _⟩
    case round =>
     obtain ⟨k, av, l, cv, rfl, rfl, hk, hll, hrow, hbz⟩ := hrel
     obtain ⟨wz, rfl⟩ : ∃ wo : World, wo = wr := ⟨_, rfl⟩
     have HLL := Lib.hid hll
     have HROW := Lib.hid hrow
     have HBZ := Lib.hid hbz
     have RZ := Lib.hid (R8.out.below hbz)
     obtain ⟨a9, c9, hbx, _⟩ := RZ.out.box
     have BZ := Lib.hid hbx
     have k2 : wz.cell? ⟨pw, 2, none⟩ = some (.slice ah s.H.length ch) := hbx.cell 2
     clear hll hrow hbz hbx
     by_cases hlt2 : k < s.H.length
     ·have hlt2' : (k : Int) < (s.H.length : Int) := by omega
      obtain ⟨x, hx⟩ : ∃ x, s.H[k]? = some x := ⟨_, List.getElem?_eq_getElem hlt2⟩
      have HTK : Hid (s.H.take (k + 1) = s.H.take k ++ [x]) := Lib.hid (take_snoc hx)
      obtain ⟨gb, cap, he, _, hcx⟩ := RZ.out.held.at_ k x hx
      injection he with he1 _ he3
      subst he1
      subst he3
      have x0 : wz.cell? ⟨gb, k * 7, none⟩ = some (.int .i64 x.seq) := hcx 0 _ rfl
      have x1 : wz.cell? ⟨gb, k * 7 + 1, none⟩ = some (.int .i64 x.inst) := hcx 1 _ rfl
      have x2 : wz.cell? ⟨gb, k * 7 + 2, none⟩ = some (.int .i64 x.side) := hcx 2 _ rfl
      have x3 : wz.cell? ⟨gb, k * 7 + 3, none⟩ = some (.int .i64 x.price) := hcx 3 _ rfl
      have x4 : wz.cell? ⟨gb, k * 7 + 4, none⟩ = some (.int .i64 x.qty) := hcx 4 _ rfl
      have x5 : wz.cell? ⟨gb, k * 7 + 5, none⟩ = some (.int .i64 x.count) := hcx 5 _ rfl
      have x6 : wz.cell? ⟨gb, k * 7 + 6, none⟩ = some (.bool x.imp) := hcx 6 _ rfl
      clear hcx hx
      by_cases hgt : dQ < x.seq
      ·have HF : Hid ((s.H.take (k + 1)).filter (fun m => decide (dQ < m.seq)) = (s.H.take k).filter (fun m => decide (dQ < m.seq)) ++ [x]) := Lib.hid (by rw [HTK.out, List.filter_append]; congr 1; exact List.filter_cons_of_pos (by exact decide_eq_true hgt))
       have hba := Below.allocN wz (.cells #[.int .i64 x.seq, .int .i64 x.inst, .int .i64 x.side, .int .i64 x.price, .int .i64 x.qty, .int .i64 x.count, .bool x.imp] 34)
       have HNB : Hid (Blk (wz.alloc (.cells #[.int .i64 x.seq, .int .i64 x.inst, .int .i64 x.side, .int .i64 x.price, .int .i64 x.qty, .int .i64 x.count, .bool x.imp] 34)) wz.heap.size 34 (Mg.cells x).toArray) := Lib.hid (Blk.new _ _ _)
       have HRB := Lib.hid (HROW.out.below hba)
       have HBB2 := Lib.hid (HBZ.out.trans (hba.mono HBZ.out.size))
       have HLE : Hid (((s.H.take k).filter (fun m => decide (dQ < m.seq))).length + 1 ≤ 1000000) := Lib.hid (by have := List.length_filter_le (fun m : Mg => decide (dQ < m.seq)) (s.H.take k); rw [List.length_take] at this; omega)
       clear hba
       go_wp2_with (first
        | (at_builtin; go_loud (refine MSG.push rfl (.tmp 66) (.tmp 74) rfl w8.heap.size (.slice av l cv) ((s.H.take k).filter (fun m => decide (dQ < m.seq))) rfl HRB.out wz.heap.size x rfl HNB.out.lt HNB.out.cellsAt HLE.out HBB2.out.size ?_)))
       intro v' w9 hr9 hg9 _
       have hb9 := grown_below hg9 HBB2.out (own_base HRB.out)
       obtain ⟨a5, c5, hv5⟩ := hr9.form
       rw [List.length_append, List.length_singleton, HLL.out] at hv5
       subst hv5
       rw [← HF.out] at hr9
       have HR9 := Lib.hid hr9
       have HB9 := Lib.hid hb9
       clear hr9 hg9 hb9 HNB HRB HBB2 HLE k2 x0 x1 x2 x3 x4 x5 x6
       go_wp2_with fail
       go_roundw
       case rel => exact ⟨k + 1, a5, l + 1, c5, by go_num, rfl, hlt2, by rw [HF.out, List.length_append, List.length_singleton, HLL.out], HR9.out, HB9.out⟩
       case measure => simp [RowKit.intOf]; omega
      ·have HF : Hid ((s.H.take (k + 1)).filter (fun m => decide (dQ < m.seq)) = (s.H.take k).filter (fun m => decide (dQ < m.seq))) := Lib.hid (by rw [HTK.out, List.filter_append, List.filter_cons_of_neg (by rw [decide_eq_false hgt]; decide), List.filter_nil, List.append_nil])
       go_wp2_with fail
       go_roundw
       case rel => exact ⟨k + 1, av, l, cv, by go_num, rfl, hlt2, by rw [HF.out, HLL.out], by rw [HF.out]; exact HROW.out, HBZ.out⟩
       case measure => simp [RowKit.intOf]; omega
     ·have hkl : k = s.H.length := by omega
      have HTF : Hid (s.H.take k = s.H) := Lib.hid (by rw [hkl, List.take_length])
      rw [HTF.out] at HLL HROW
      have zf : wz.frozen? ⟨pw, 2, none⟩ = false := BZ.out.frozen 2
      have R9 := Lib.hid (RZ.out.held_ (HROW.out.base (B' := W.heap.size) R8.out.bel.size))
      have K9 : Hid (Keeps (FV pw (.slice ah s.H.length ch)) w (wz.setCell ⟨pw, 2, none⟩ (.slice av l cv))) := Lib.hid ((K8.out.trans (Below.keeps HBZ.out)).setCell (p := ⟨pw, 2, none⟩) (fun _ => .inl rfl) _)
      have O9 : Hid (∀ g, (Value.slice av l cv).ownBlock = some g → w.heap.size ≤ g) := Lib.hid fun g hg => Nat.le_trans K8.out.size (own_base HROW.out g hg)
      clear hkl HTF
      go_upto_region 17 with (fail)
      clear k2 zf BZ RZ
      generalize wz.setCell ⟨pw, 2, none⟩ (.slice av l cv) = w9 at *
      have hlv : dV.length = s.V.length := by rw [HLN.out, HLV.out]
      have hmk : ∀ m ∈ s.H.filter (fun m => decide (dQ < m.seq)), MOk dV.length m := fun m hm => by rw [HLN.out]; exact HOK.out.hh m (List.mem_filter.1 hm).1
      have hfl := List.length_filter_le (fun m : Mg => decide (dQ < m.seq)) s.H
      have HON := Lib.hid (ron_any R9.out (by exact HD2.out.2.2.1) ⟨255, HD2.out.2.1, by dsimp only; omega⟩ HD2.out.1 hmk (by show 0 ≤ dQ; omega) (by exact HD2.out.2.2.2.2))
      clear hlv hmk hfl
      go_wp2_with fail
      refine HON.out.mono ?_
      rintro e w10 ⟨rfl, hw', hv9, hk9, ho9⟩
      have V9 := Lib.hid hv9
      have K10 : Hid (Keeps (FV pw (.slice ah s.H.length ch)) w w10) := Lib.hid (K9.out.step hk9 (fun i _ he => .inl he))
      have O10 : Hid (∀ g, hw'.ownBlock = some g → (Value.slice ah s.H.length ch).ownBlock = some g ∨ w.heap.size ≤ g) := Lib.hid fun g hg => by
       rcases ho9 g hg with h | h
       ·exact .inr (O9.out g h)
       ·exact .inr (Nat.le_trans K9.out.size h)
      clear hv9 hk9 ho9 HON
      go_wp2_with fail
      go_ret
      rw [HE.out]
      exact ⟨by trivial, hw', V9.out, K10.out, O10.out⟩
 ·have hwb : (dW != 0) = true := by rw [bne_iff_ne]; exact h0
  have HE : Hid (r = (dW, s)) := Lib.hid (by rw [HR.out, if_pos h0])
  clear h0
  go_wp2_with fail
  go_ret
  rw [HE.out]
  exact ⟨by trivial, HSAME.out _ (Below.refl _ _)⟩
end
end Go.Proofs.Ytmaijkoopjocdaa

/- Two listeners, the program's and the document's, in one memory. -/
namespace Go.Proofs.Ytmaijkoopjocdaa
open Go.RowKit Go.Lib

section
variable {W W0 w w1 w2 : World} {pv pw n c : Nat} {hv hw hv' hw' : Value} {s t s' t' : LSt}
theorem RW.tyd (h : RW W w pw hw t) : Tyd w pw 55 := by
 obtain ⟨a, c, hb, _⟩ := h.box
 exact hb.tyd
theorem VW.tyd (h : VW W w pv n hv s) : Tyd w pv 53 := by
 obtain ⟨a, c, hb, _⟩ := h.box
 exact hb.tyd
theorem RW.fv_ne (h : RW W w pw hw t) {g : Nat} {y : TypeId} (hg : Tyd w g y) (h1 : y ≠ 55) (h2 : y ≠ MSG.t) : ¬ FV pw hw g := by
 rintro (e | e)
 ·exact hg.ne h.tyd h1 e
 ·exact hg.ne (own_tyd h.held g e) h2 rfl
theorem RW.rebase (h : RW W w pw hw t) (hb : Below W0.heap.size W0 W) : RW W0 w pw hw t := by
 obtain ⟨⟨a, c, h1, h2⟩, h3, h4, h5⟩ := h
 exact ⟨⟨a, c, h1, h2.base hb.size⟩, h3.base hb.size, Nat.le_trans hb.size h4, hb.trans (h5.mono hb.size)⟩
theorem VW.rebase (h : VW W w pv n hv s) (hb : Below W0.heap.size W0 W) : VW W0 w pv n hv s := by
 obtain ⟨⟨a, c, h1, h2⟩, h3, h4, h5⟩ := h
 exact ⟨⟨a, c, h1, h2.base hb.size⟩, h3.base hb.size, Nat.le_trans hb.size h4, hb.trans (h5.mono hb.size)⟩
theorem RW.overV (hr : RW W w pw hw t) (h : VW W w pv n hv s) (ap : ∀ g, hv.ownBlock = some g → hw.ownBlock ≠ some g) (hk : Keeps (FV pv hv) w w1) : RW W w1 pw hw t :=
 hr.keep hk (h.fv_ne hr.tyd (by decide) (by decide)) (fun g hg => by
  rintro (e | e)
  ·exact (own_tyd hr.held g hg).ne h.tyd (by decide) e
  ·exact ap g e hg) (fun g hg => h.fv_ne hg (by decide) (by decide)) (fun g hg => h.fv_ne hg (by decide) (by decide)) (fun g hg => by
  rcases hg with e | e
  ·rw [e]; exact h.base
  ·exact own_base h.held g e)
theorem VW.overR (h : VW W w pv n hv s) (hr : RW W w pw hw t) (ap : ∀ g, hv.ownBlock = some g → hw.ownBlock ≠ some g) (hk : Keeps (FV pw hw) w w1) : VW W w1 pv n hv s :=
 h.keep hk (hr.fv_ne h.tyd (by decide) (by decide)) (fun g hg => by
  rintro (e | e)
  ·exact (own_tyd h.held g hg).ne hr.tyd (by decide) e
  ·exact ap g hg e) (fun g hg => hr.fv_ne hg (by decide) (by decide)) (fun g hg => hr.fv_ne hg (by decide) (by decide)) (fun g hg => by
  rcases hg with e | e
  ·rw [e]; exact hr.base
  ·exact own_base hr.held g e)
theorem SOk.of_rel (h : SOk n c s) (r : Rel s t) : SOk n c t := by
 obtain ⟨h1, h2, h3, h4, h5, h6, h7⟩ := h
 obtain ⟨r1, r2, r3, _, _⟩ := r
 exact ⟨by rw [r1]; exact h1, by rw [r1]; exact h2, by rw [r2]; exact h3, by rw [r2]; exact h4, fun m hm => h5 m (r3.mem_iff.1 hm), by rw [r3.length_eq]; exact h6, by rw [r1, r3.length_eq]; exact h7⟩
/-- both listeners; B: where what they hold begins -/
structure TwoL (W w : World) (pv pw n : Nat) (hv hw : Value) (s t : LSt) (c B : Nat) : Prop where
 v : VW W w pv n hv s
 r : RW W w pw hw t
 ap : ∀ g, hv.ownBlock = some g → hw.ownBlock ≠ some g
 rel : Rel s t
 ok : SOk n c s
 bv : ∀ g, hv.ownBlock = some g → B ≤ g
 bw : ∀ g, hw.ownBlock = some g → B ≤ g
 bB : B ≤ w.heap.size
theorem TwoL.below {B : Nat} (h : TwoL W w pv pw n hv hw s t c B) (hb : Below w.heap.size w w1) : TwoL W w1 pv pw n hv hw s t c B :=
 ⟨h.v.below hb, h.r.below hb, h.ap, h.rel, h.ok, h.bv, h.bw, Nat.le_trans h.bB hb.size⟩
theorem TwoL.more {B d : Nat} (h : TwoL W w pv pw n hv hw s t c B) (hd : c ≤ d) : TwoL W w pv pw n hv hw s t d B :=
 ⟨h.v, h.r, h.ap, h.rel, h.ok.more hd, h.bv, h.bw, h.bB⟩
theorem ap1_of {B : Nat} (h : TwoL W w pv pw n hv hw s t c B) (ho : ∀ g, hv'.ownBlock = some g → hv.ownBlock = some g ∨ w.heap.size ≤ g) : ∀ g, hv'.ownBlock = some g → hw.ownBlock ≠ some g := fun g hg e => by
 rcases ho g hg with h1 | h1
 ·exact h.ap g h1 e
 ·have := own_lt h.r.held g e; omega
/-- behind the program's call -/
theorem TwoL.one {B : Nat} (h : TwoL W w pv pw n hv hw s t c B) (hk : Keeps (FV pv hv) w w1) : RW W w1 pw hw t := h.r.overV h.v h.ap hk
/-- behind both -/
theorem TwoL.two {B d : Nat} (h : TwoL W w pv pw n hv hw s t c B) (hv1 : VW W w1 pv n hv' s') (hk1 : Keeps (FV pv hv) w w1) (ho1 : ∀ g, hv'.ownBlock = some g → hv.ownBlock = some g ∨ w.heap.size ≤ g)
  (hr2 : RW W w2 pw hw' t') (hk2 : Keeps (FV pw hw) w1 w2) (ho2 : ∀ g, hw'.ownBlock = some g → hw.ownBlock = some g ∨ w1.heap.size ≤ g) (hrel : Rel s' t') (hok : SOk n d s') : TwoL W w2 pv pw n hv' hw' s' t' d B := by
 have a1 := ap1_of h ho1
 have s1 := hk1.size
 have s2 := hk2.size
 refine ⟨hv1.overR (h.one hk1) a1 hk2, hr2, fun g hg e => ?_, hrel, hok, fun g hg => ?_, fun g hg => ?_, Nat.le_trans h.bB (Nat.le_trans s1 s2)⟩
 ·rcases ho2 g e with h1 | h1
  ·exact a1 g hg h1
  ·have := own_lt hv1.held g hg; omega
 ·rcases ho1 g hg with h1 | h1
  ·exact h.bv g h1
  ·exact Nat.le_trans h.bB h1
 ·rcases ho2 g hg with h1 | h1
  ·exact h.bw g h1
  ·exact Nat.le_trans h.bB (Nat.le_trans s1 h1)
/-- what stays behind both calls -/
theorem TwoL.blk {B g : Nat} {y : TypeId} {cs : Array Value} (h : TwoL W w pv pw n hv hw s t c B) (hk1 : Keeps (FV pv hv) w w1) (hk2 : Keeps (FV pw hw) w1 w2) (hg : Blk w g y cs) (h1 : y ≠ 53) (h2 : y ≠ 55) (h3 : y ≠ MSG.t ∨ g < B) : Blk w2 g y cs := by
 have e1 : ¬ FV pv hv g := by
  rintro (e | e)
  ·exact hg.tyd.ne h.v.tyd h1 e
  ·rcases h3 with h3 | h3
   ·exact hg.tyd.ne (own_tyd h.v.held g e) h3 rfl
   ·have := h.bv g e; omega
 have hg1 := hg.keeps hk1 e1
 refine hg1.keeps hk2 ?_
 rintro (e | e)
 ·exact hg1.tyd.ne (h.one hk1).tyd h2 e
 ·rcases h3 with h3 | h3
  ·exact hg1.tyd.ne (own_tyd (h.one hk1).held g e) h3 rfl
  ·have := h.bw g e; omega
theorem TwoL.row {B B' : Nat} {v : Value} {b : List Int} (h : TwoL W w pv pw n hv hw s t c B) (hk1 : Keeps (FV pv hv) w w1) (hr : BYL.Row w B' v b) : BYL.Row w1 B' v b := hr.keep hk1 (fun g hg => h.v.fv_ne hg (by decide) (by decide))
theorem TwoL.row2 {B B' : Nat} {v : Value} {b : List Int} (h : TwoL W w pv pw n hv hw s t c B) (hk1 : Keeps (FV pv hv) w w1) (hk2 : Keeps (FV pw hw) w1 w2) (hr : BYL.Row w B' v b) : BYL.Row w2 B' v b := (h.row hk1 hr).keep hk2 (fun g hg => (h.one hk1).fv_ne hg (by decide) (by decide))
/-- a row of bytes but its first -/
theorem tailB {B' g cap : Nat} {b : List Int} (hr : BYL.Row w B' (.slice (some ⟨g, 0, none⟩) b.length cap) b) (hl : 2 ≤ b.length) : BYL.Sl w (.slice (some ⟨g, 1, none⟩) (b.length - 1) (cap - 1)) (b.drop 1) := by
 obtain ⟨a', c', e, ho, hrd⟩ := hr.sl
 injection e with e1 _ e3
 subst e1; subst e3
 have hd := rd_drop (k := 1) hrd ho.2.2
 rw [if_neg (by have := ho.2.2; omega)] at hd
 refine ⟨_, _, by rw [List.length_drop], ⟨fun h => (by cases h), fun ad h => ⟨g, 0 + 1, by injection h with h; exact h.symm⟩, by rw [List.length_drop]; have := ho.2.2; omega⟩, hd⟩
theorem rowB {B' : Nat} {v : Value} {b : List Int} (hr : BYL.Row w B' v b) (hl : 1 ≤ b.length) : ∃ g cap, v = .slice (some ⟨g, 0, none⟩) b.length cap ∧ b.length ≤ cap := by
 obtain ⟨x, hx⟩ : ∃ x, b[0]? = some x := ⟨_, List.getElem?_eq_getElem hl⟩
 obtain ⟨g, cap, e, _, _⟩ := hr.at_ 0 x hx
 obtain ⟨a', c', e', ho, _⟩ := hr.sl
 rw [e] at e'
 injection e' with _ _ e3
 exact ⟨g, cap, e, by rw [e3]; exact ho.2.2⟩
end
end Go.Proofs.Ytmaijkoopjocdaa
