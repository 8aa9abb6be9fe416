/- The walk of cornhillref20.Encode on a view that is right. -/
import Derived.Test.YtmaijkoopjocdaaGQ
import Derived.Test.YtmaijkoopjocdaaRRight
import Derived.Deep.DeepCutAuto
namespace Go.Proofs.Ytmaijkoopjocdaa
open Go.RowKit Go.Lib

def encP (V : Vw) (q : Int) (k : Nat) : List Int := enc8 q ++ (((V.length : Int) % 256) :: (V.take k).flatMap encPr)
theorem encP_len {V : Vw} {q : Int} {k : Nat} (hk : LenV V 255) (hl : V.length ≤ 40) : (encP V q k).length ≤ 500000 := by
 unfold encP
 rw [List.length_append, List.length_cons, enc8_len]
 have h1 := fl_len (f := encPr) (k := 12292) (l := V.take k) (fun x hx => by
  have hx' := List.mem_of_mem_take hx
  have h1 := encSd_len (hk x hx').1
  have h2 := encSd_len (hk x hx').2
  unfold encPr
  rw [List.length_append]; omega)
 have h2 : (V.take k).length ≤ 40 := by rw [List.length_take]; omega
 have h3 : (V.take k).length * 12292 ≤ 40 * 12292 := Nat.mul_le_mul_right _ h2
 omega
theorem encP_step {V : Vw} {q : Int} {k : Nat} {d1 d2 : Sd} (h : V[k]? = some (d1, d2)) : encP V q (k + 1) = encP V q k ++ encSd d1 ++ encSd d2 := by
 unfold encP
 rw [take_snoc h, List.flatMap_append]
 simp only [List.append_assoc, List.cons_append, List.flatMap_cons, List.flatMap_nil, List.append_nil]
 rfl
def encI (L : List Lv) (k : Nat) : List Int := ((L.length : Int) % 256) :: (L.take k).flatMap encLv
theorem encI_step {L : List Lv} {k : Nat} {z : Lv} (h : L[k]? = some z) : encI L (k + 1) = encI L k ++ encLv z := by
 unfold encI
 rw [take_snoc h, List.flatMap_append]
 simp
theorem encI_len {L : List Lv} {k : Nat} (h : L.length ≤ 255) : (encI L k).length ≤ 6200 := by
 unfold encI
 rw [List.length_cons]
 have h1 := fl_len (f := encLv) (k := 24) (l := L.take k) (fun x _ => Nat.le_of_eq (encLv_len x))
 have h2 : (L.take k).length ≤ 255 := by rw [List.length_take]; omega
 have h3 : (L.take k).length * 24 ≤ 255 * 24 := Nat.mul_le_mul_right _ h2
 omega
theorem encSd_t {L : List Lv} {im : Lv} : encSd ⟨L, im, true⟩ = encI L L.length ++ [1] ++ encLv im := by
 unfold encSd encI
 rw [List.take_length]
 simp
theorem encSd_f {L : List Lv} {im : Lv} : encSd ⟨L, im, false⟩ = encI L L.length ++ [0] := by
 unfold encSd encI
 rw [List.take_length]
 simp
theorem u8_sh (c : Int) (k : Nat) : IntKind.u8.wrap (c / 2 ^ k) = c / 2 ^ k % 256 := IntKind.wrap_u8 _
section
variable {w : World}
set_option maxRecDepth 20000 in
set_option maxHeartbeats 32000000 in
theorem rsenc_any {B : Nat} {a : Option Addr} {c : Nat} {V : Vw} (h : VO RPR RLV w B (.slice a V.length c) V) (hl : V.length ≤ 40) (hr : rightV V = true) (q : Int) :
  Calls Try.prog 11 #[.agg #[.slice a V.length c], .int .i64 q] w fun e w' => ∃ v, e = .returned (.tuple #[v, .int .i64 0]) ∧ BYL.Row w' w.heap.size v (encS V q) ∧ Below w.heap.size w w' := by
 have hsr := rightV_srt hr
 have HLV := Lib.hid hsr.2.1
 have hba := Below.allocN w (.cells #[.slice a V.length c] 44)
 have HG : Hid (Blk (w.alloc (.cells #[.slice a V.length c] 44)) w.heap.size 44 #[.slice a V.length c]) := Lib.hid (Blk.new _ _ _)
 have HB := Lib.hid hba
 have HV := Lib.hid (h.below hba)
 have hrr := rright_any (h.below hba) (by omega) (fun p hp => ⟨Nat.le_trans (hsr.2.1 p hp).1 (by decide), Nat.le_trans (hsr.2.1 p hp).2 (by decide)⟩)
 rw [hr] at hrr
 have HRR := Lib.hid hrr
 clear hba h hrr hsr hr
 go_enter Try.func11, Try.ntmps11
 go_upto_region 1 with (fail)
 obtain ⟨g, hg⟩ : ∃ g, w.heap.size = g := ⟨_, rfl⟩
 rw [hg] at HG ⊢
 clear hg
 generalize w.alloc (.cells #[.slice a V.length c] 44) = w1 at *
 have c0 : w1.cell? ⟨g, 0, none⟩ = some (.slice a V.length c) := HG.out.cell 0
 go_wp2_with fail
 refine HRR.out.mono ?_
 rintro e w2 ⟨rfl, hb⟩
 have HG2 := Lib.hid (HG.out.below hb)
 have HB2 := Lib.hid (HB.out.trans (hb.mono HB.out.size))
 have HV2 := Lib.hid (HV.out.below hb)
 clear hb c0 HRR HG HB HV
 go_upto_region 3 with (fail)
 have HW := Lib.hid (wlong_any (v := .slice none 0 0) (L := []) (w := w2.drewN 1) Lay.Sl.nil (by decide) q)
 refine wp_region_E (S := fun w' => w'.cell? ⟨g, 0, none⟩ = some (.slice a V.length c)) (by kernel_rfl) (HG2.out.cell 0) (fun hHeld => ?_)
 refine wpE_tk 0 (oi := ?o1) (v := ?v1) ?h1 (by kernel_rfl) ?q1 ?y1 (by assumption) ?_
 case h1 => (simp only [List.getElem?_toArray]; rfl)
 case q1 => exact fun _ _ _ h => h
 case y1 => exact Or.inl ⟨by rfl, by (intro w hSw; (try dsimp only at hSw); go_simp; try with_reducible rfl)⟩
 try simp only [Act.put, sA, sB, sC]
 refine wpE_tk 2 (oi := ?o2) (v := ?v2) ?h2 (by kernel_rfl) ?q2 ?y2 (by assumption) ?_
 case h2 => (simp only [List.getElem?_toArray]; rfl)
 case q2 => exact fun _ _ _ h => h
 case y2 => exact Or.inl ⟨by rfl, by (intro w hSw; (try dsimp only at hSw); go_simp; try with_reducible rfl)⟩
 try simp only [Act.put, sA, sB, sC]
 refine wpE_tk 3 (oi := ?o3) (v := ?v3) ?h3 (by kernel_rfl) ?q3 ?y3 (by assumption) ?_
 case h3 => (simp only [List.getElem?_toArray]; rfl)
 case q3 => exact fun _ _ _ h => h
 case y3 => exact Or.inl ⟨by rfl, by (intro w hSw; (try dsimp only at hSw); go_simp; try with_reducible rfl)⟩
 try simp only [Act.put, sA, sB, sC]
 refine wpE_tk 4 (oi := ?o4) (v := ?v4) ?h4 (by kernel_rfl) ?q4 ?y4 (by assumption) ?_
 case h4 => (simp only [List.getElem?_toArray]; rfl)
 case q4 => exact fun _ _ _ h => h
 case y4 => exact Or.inl ⟨by rfl, by (intro w hSw; (try dsimp only at hSw); go_simp; try with_reducible rfl)⟩
 try simp only [Act.put, sA, sB, sC]
 refine wpE_one (i := 1) (o := ?o11) ?ho11 (by kernel_rfl) (fun K hK => ?_)
 case ho11 => (simp only [List.getElem?_toArray]; rfl)
 go_simp
 refine HW.out.mono ?_
 rintro e w3 ⟨v1, rfl, hr, hb⟩
 have hb2 := (Below.drewN_of w2 1).trans hb
 have HG3 := Lib.hid (HG2.out.below hb2)
 have HB3 := Lib.hid (HB2.out.trans (hb2.mono HB2.out.size))
 have HV3 := Lib.hid (HV2.out.below hb2)
 have HW2 := Lib.hid (wbyte_any hr.sl (by rw [List.nil_append, leN_len]; omega) (V.length : Int))
 refine hK.out _ _ (HG3.out.cell 0) (fun hHeld => ?_)
 clear hK K hr hb hb2 HW HG2 HB2 HV2
 refine wpE_one (i := 5) (o := ?o12) ?ho12 (by kernel_rfl) (fun K hK => ?_)
 case ho12 => (simp only [List.getElem?_toArray]; rfl)
 go_simp
 refine HW2.out.mono ?_
 rintro e w4 ⟨v2, rfl, hr, hb⟩
 have HG4 := Lib.hid (HG3.out.below hb)
 have HB4 := Lib.hid (HB3.out.trans (hb.mono HB3.out.size))
 have HV4 := Lib.hid (HV3.out.below hb)
 have HR4 : Hid (BYL.Row w4 w.heap.size v2 (encP V q 0)) := Lib.hid (by
  have := hr.base (B' := w.heap.size) HB3.out.size
  rw [List.nil_append] at this
  exact this)
 refine hK.out _ _ (HG4.out.cell 0) (fun hHeld => ?_)
 clear hK K hr hb HW2 HG3 HB3 HV3
 refine wpE_last (i := 6) (o := ?o17) ?ho17 (by kernel_rfl) (by kernel_rfl) (by kernel_rfl) (fun K hK => ?_)
 case ho17 => (simp only [List.getElem?_toArray]; rfl)
 go_simp
 refine hK.out _ _ ?_
 clear hK K hHeld
 go_wp2_with fail
 go_loopw [7, 6] (fun i bv w' => ∃ (k : Nat) (v : Value), i = .int .i64 k ∧ bv = v ∧ k ≤ V.length ∧ BYL.Row w' w.heap.size v (encP V q k) ∧ Below w4.heap.size w4 w') (fun i _ _ => V.length - (RowKit.intOf i).toNat)
 case atStart => exact ⟨0, v2, rfl, rfl, Nat.zero_le _, HR4.out, Below.refl _ _⟩
 case round =>
  clear HR4
  obtain ⟨k, v, rfl, rfl, hk, hrow, hbz⟩ := hrel
  obtain ⟨wz, rfl⟩ : ∃ wo : World, wo = wr := ⟨_, rfl⟩
  have HROW := Lib.hid hrow
  have HBZ := Lib.hid hbz
  have c0 : wz.cell? ⟨g, 0, none⟩ = some (.slice a V.length c) := (HG4.out.below hbz).cell 0
  clear hrow hbz
  by_cases hlt : k < V.length
  ·have hlt' : (k : Int) < (V.length : Int) := by omega
   obtain ⟨xx, hx⟩ : ∃ x, V[k]? = some x := ⟨_, List.getElem?_eq_getElem hlt⟩
   obtain ⟨d1, d2⟩ := xx
   have HX := Lib.hid hx
   have HST := Lib.hid (encP_step (q := q) hx)
   have HL1 := Lib.hid (HLV.out (d1, d2) (List.mem_of_getElem? hx))
   have HPL : Hid ((encP V q k).length ≤ 500000) := Lib.hid (encP_len HLV.out hl)
   have HSL1 : Hid ((encSd d1).length ≤ 6146) := Lib.hid (by have := encSd_len HL1.out.1; omega)
   clear hx
   go_wp2_with fail
   go_loopw [8, 6] (fun i bv w' => ∃ (j : Nat) (v : Value), i = .int .i64 j ∧ bv = v ∧ Below w4.heap.size w4 w' ∧ ((j = 0 ∧ BYL.Row w' w.heap.size v (encP V q k)) ∨ (j = 1 ∧ BYL.Row w' w.heap.size v (encP V q k ++ encSd d1)) ∨ (j = 2 ∧ BYL.Row w' w.heap.size v (encP V q (k + 1))))) (fun i _ _ => 2 - (RowKit.intOf i).toNat)
   case atStart => exact ⟨0, _, rfl, rfl, HBZ.out, .inl ⟨rfl, HROW.out⟩⟩
   case round =>
    clear c0 HROW HBZ
    obtain ⟨j, v, rfl, rfl, hby, hj⟩ := hrel
    obtain ⟨wy, rfl⟩ : ∃ wo : World, wo = wr := ⟨_, rfl⟩
    have HBY := Lib.hid hby
    have c0 : wy.cell? ⟨g, 0, none⟩ = some (.slice a V.length c) := (HG4.out.below hby).cell 0
    clear hby
    rcases hj with ⟨rfl, hrow⟩ | ⟨rfl, hrow⟩ | ⟨rfl, hrow⟩
    ·have HROW := Lib.hid hrow
     clear hrow
     have HPB : Hid ((encP V q k).length ≤ 506146) := Lib.hid (by have := HPL.out; omega)
     obtain ⟨gb, cap1, pp1, he, hgb, hcx, hq1, hq2⟩ := (HV4.out.below HBY.out).get HX.out
     injection he with he1 _ he3
     subst he1
     subst he3
     obtain ⟨⟨a1, n1, e1, ⟨p1, q1, r1⟩, f1⟩, _⟩ := pp1
     have x0 : wy.cell? ⟨gb, k * 10, none⟩ = some (.slice a1 n1 e1) := hcx 0 _ rfl
     have x1 : wy.cell? ⟨gb, k * 10 + 1, none⟩ = some (.int .i64 p1) := hcx 1 _ rfl
     have x2 : wy.cell? ⟨gb, k * 10 + 2, none⟩ = some (.int .i64 q1) := hcx 2 _ rfl
     have x3 : wy.cell? ⟨gb, k * 10 + 3, none⟩ = some (.int .i64 r1) := hcx 3 _ rfl
     have x4 : wy.cell? ⟨gb, k * 10 + 4, none⟩ = some (.bool f1) := hcx 4 _ rfl
     have HSH := hq1
     have HBA := Lib.hid (Below.allocN wy (.cells #[.slice a1 n1 e1, .int .i64 p1, .int .i64 q1, .int .i64 r1, .bool f1] 81))
     have HGX0 : Hid (Blk (wy.alloc (.cells #[.slice a1 n1 e1, .int .i64 p1, .int .i64 q1, .int .i64 r1, .bool f1] 81)) wy.heap.size 81 #[.slice a1 n1 e1, .int .i64 p1, .int .i64 q1, .int .i64 r1, .bool f1]) := Lib.hid (Blk.new _ _ _)
     obtain ⟨y1, hrw1, y3, y4⟩ := HSH.below HBA.out
     clear hcx hq1 hq2 HSH
     go_upto_region 11 with (fail)
     obtain ⟨gx, hgx⟩ : ∃ gx, wy.heap.size = gx := ⟨_, rfl⟩
     rw [hgx] at HGX0 ⊢
     have HB5 := Lib.hid (HBY.out.trans (HBA.out.mono HBY.out.size))
     have HROW5 := Lib.hid (HROW.out.below HBA.out)
     clear hgx HBA HROW x0 x1 x2 x3 x4 c0
     generalize wy.alloc (.cells #[.slice a1 n1 e1, .int .i64 p1, .int .i64 q1, .int .i64 r1, .bool f1] 81) = w5 at *
     obtain ⟨L, ⟨ip, iq, ic⟩, hh⟩ := d1
     dsimp only at y1 hrw1 y3 y4
     injection y3 with t1' t2' t3'
     subst y1; subst y4; subst t1'; subst t2'; subst t3'
     have HLL : Hid (L.length ≤ 255) := Lib.hid HL1.out.1
     have HRW1 := Lib.hid hrw1
     have x0 : w5.cell? ⟨gx, 0, none⟩ = some (.slice a1 L.length e1) := HGX0.out.cell 0
     have HW := Lib.hid (wbyte_any HROW5.out.sl (by have := HPB.out; omega) (L.length : Int))
     clear hrw1
     go_wp2_with fail
     refine HW.out.mono ?_
     rintro e w6 ⟨v6, rfl, hr, hb⟩
     have HB6 := Lib.hid (HB5.out.trans (hb.mono HB5.out.size))
     have HGX := Lib.hid (HGX0.out.below hb)
     have HRL := Lib.hid (HRW1.out.below hb)
     have HR6 : Hid (BYL.Row w6 w.heap.size v6 (encP V q k ++ encI L 0)) := Lib.hid (hr.base (Nat.le_trans HB4.out.size HB5.out.size))
     clear hr hb HW x0 HB5 HROW5 HGX0 HRW1
     go_wp2_with fail
     go_loopw [10, 6] (fun i bv w' => ∃ (m : Nat) (v : Value), i = .int .i64 m ∧ bv = v ∧ m ≤ L.length ∧ BYL.Row w' w.heap.size v (encP V q k ++ encI L m) ∧ Below w6.heap.size w6 w') (fun i _ _ => L.length - (RowKit.intOf i).toNat)
     case atStart => exact ⟨0, v6, rfl, rfl, Nat.zero_le _, HR6.out, Below.refl _ _⟩
     case round =>
      clear HR6
      obtain ⟨m, v, rfl, rfl, hm, hrow, hbq⟩ := hrel
      obtain ⟨wq, rfl⟩ : ∃ wo : World, wo = wr := ⟨_, rfl⟩
      have HROW := Lib.hid hrow
      have HBQ := Lib.hid hbq
      have x0 : wq.cell? ⟨gx, 0, none⟩ = some (.slice a1 L.length e1) := (HGX.out.below hbq).cell 0
      have hlo := HLL.out
      have HIL : Hid ((encI L m).length ≤ 6200) := Lib.hid (encI_len HLL.out)
      clear hrow hbq
      by_cases hlt2 : m < L.length
      ·have hlt2' : (m : Int) < (L.length : Int) := by omega
       obtain ⟨z, hz⟩ : ∃ z, L[m]? = some z := ⟨_, List.getElem?_eq_getElem hlt2⟩
       have HIS := Lib.hid (encI_step hz)
       have h1r := HRL.out.below HBQ.out
       obtain ⟨gl, cap3, he, _, _⟩ := h1r.at_ m z hz
       injection he with he1 _ he3
       subst he1
       subst he3
       obtain ⟨l0, l1, l2, _⟩ := rlv_at h1r hz
       have HW := Lib.hid (rlevel_any HROW.out.sl (by rw [List.length_append]; have := HPB.out; have := HIL.out; omega) z)
       unfold Lv.agg at HW
       clear hz h1r
       go_wp2_with fail
       refine HW.out.mono ?_
       rintro e w7 ⟨v7, rfl, hr, hb⟩
       have HB7 := Lib.hid (HBQ.out.trans (hb.mono HBQ.out.size))
       have HR7 : Hid (BYL.Row w7 w.heap.size v7 (encP V q k ++ encI L (m + 1))) := Lib.hid (by
        have := hr.base (B' := w.heap.size) (Nat.le_trans HB4.out.size (Nat.le_trans HB6.out.size HBQ.out.size))
        rw [HIS.out, ← List.append_assoc]; exact this)
       clear hr hb HW l0 l1 l2 x0
       go_wp2_with fail
       go_roundw
       case rel => exact ⟨m + 1, v7, by go_num, rfl, hlt2, HR7.out, HB7.out⟩
       case measure => simp [RowKit.intOf]; omega
      ·have hql : m = L.length := by omega
       subst hql
       have x4 : wq.cell? ⟨gx, 4, none⟩ = some (.bool f1) := (HGX.out.below HBQ.out).cell 4
       have HBW := Lib.hid (HB6.out.trans (HBQ.out.mono HB6.out.size))
       cases f1 with
       | true =>
        have HGQ := Lib.hid (HGX.out.below HBQ.out)
        have HW := Lib.hid (wbyte_any (HROW.out.sl.below (Below.drewN_of wq 1)) (by rw [List.length_append]; have := HPB.out; have := HIL.out; omega) 1)
        go_upto_region 17 with (fail)
        refine wp_region_E (S := fun w' => w'.cell? ⟨gx, 1, none⟩ = some (.int .i64 p1) ∧ w'.cell? ⟨gx, 2, none⟩ = some (.int .i64 q1) ∧ w'.cell? ⟨gx, 3, none⟩ = some (.int .i64 r1)) (by kernel_rfl) ⟨HGQ.out.cell 1, HGQ.out.cell 2, HGQ.out.cell 3⟩ (fun hHeld => ?_)
        refine wpE_tk 0 (oi := ?o5) (v := ?v5) ?h5 (by kernel_rfl) ?q5 ?y5 (by assumption) ?_
        case h5 => (simp only [List.getElem?_toArray]; rfl)
        case q5 => exact fun _ _ _ h => h
        case y5 => exact Or.inl ⟨by rfl, by (intro w hSw; (try dsimp only at hSw); go_simp; try with_reducible rfl)⟩
        try simp only [Act.put, sA, sB, sC]
        refine wpE_tk 2 (oi := ?o6) (v := ?v6) ?h6 (by kernel_rfl) ?q6 ?y6 (by assumption) ?_
        case h6 => (simp only [List.getElem?_toArray]; rfl)
        case q6 => exact fun _ _ _ h => h
        case y6 => exact Or.inl ⟨by rfl, by (intro w hSw; (try dsimp only at hSw); go_simp; try with_reducible rfl)⟩
        try simp only [Act.put, sA, sB, sC]
        refine wpE_tk 3 (oi := ?o7) (v := ?v7) ?h7 (by kernel_rfl) ?q7 ?y7 (by assumption) ?_
        case h7 => (simp only [List.getElem?_toArray]; rfl)
        case q7 => exact fun _ _ _ h => h
        case y7 => exact Or.inl ⟨by rfl, by (intro w hSw; (try dsimp only at hSw); go_simp; try with_reducible rfl)⟩
        try simp only [Act.put, sA, sB, sC]
        refine wpE_one (i := 1) (o := ?o13) ?ho13 (by kernel_rfl) (fun K hK => ?_)
        case ho13 => (simp only [List.getElem?_toArray]; rfl)
        go_simp
        refine HW.out.mono ?_
        rintro e w7 ⟨v7, rfl, hr, hb⟩
        have hb2 := (Below.drewN_of wq 1).trans hb
        have HG7 := Lib.hid (HGQ.out.below hb2)
        have HB7 := Lib.hid (HBW.out.trans (hb2.mono HBW.out.size))
        have HW2 := Lib.hid (rlevel_any hr.sl (by rw [List.length_append, List.length_append, List.length_singleton]; have := HPB.out; have := HIL.out; omega) ⟨p1, q1, r1⟩)
        unfold Lv.agg at HW2
        refine hK.out _ _ ⟨HG7.out.cell 1, HG7.out.cell 2, HG7.out.cell 3⟩ (fun hHeld => ?_)
        clear hK K hr hb hb2 HW HGQ
        refine wpE_one (i := 4) (o := ?o14) ?ho14 (by kernel_rfl) (fun K hK => ?_)
        case ho14 => (simp only [List.getElem?_toArray]; rfl)
        go_simp
        refine HW2.out.mono ?_
        rintro e w8 ⟨v8, rfl, hr, hb⟩
        have HG8 := Lib.hid (HG7.out.below hb)
        have HBF := Lib.hid (HB7.out.trans (hb.mono HB7.out.size))
        have HRF : Hid (BYL.Row w8 w.heap.size v8 (encP V q k ++ encSd ⟨L, ⟨p1, q1, r1⟩, true⟩)) := Lib.hid (by
         have := hr.base (B' := w.heap.size) (Nat.le_trans HB4.out.size HB7.out.size)
         rw [show (1 : Int) % 256 = 1 by decide] at this
         rw [encSd_t]; simpa only [List.append_assoc] using this)
        refine hK.out _ _ ⟨HG8.out.cell 1, HG8.out.cell 2, HG8.out.cell 3⟩ (fun hHeld => ?_)
        clear hK K hr hb HW2 HG7 HB7
        refine wpE_last (i := 5) (o := ?o18) ?ho18 (by kernel_rfl) (by kernel_rfl) (by kernel_rfl) (fun K hK => ?_)
        case ho18 => (simp only [List.getElem?_toArray]; rfl)
        go_simp
        refine hK.out _ _ ?_
        clear hK K hHeld x0 x4
        go_wp2_with fail
        go_roundw
        case rel => exact ⟨1, v8, by go_num, rfl, HBF.out, .inr (.inl ⟨rfl, HRF.out⟩)⟩
        case measure => simp [RowKit.intOf]
       | false =>
        have HW := Lib.hid (wbyte_any HROW.out.sl (by rw [List.length_append]; have := HPB.out; have := HIL.out; omega) 0)
        go_wp2_with fail
        refine HW.out.mono ?_
        rintro e w8 ⟨v8, rfl, hr, hb⟩
        have HBF := Lib.hid (HBW.out.trans (hb.mono HBW.out.size))
        have HRF : Hid (BYL.Row w8 w.heap.size v8 (encP V q k ++ encSd ⟨L, ⟨p1, q1, r1⟩, false⟩)) := Lib.hid (by
         have := hr.base (B' := w.heap.size) (Nat.le_trans HB4.out.size HBW.out.size)
         rw [show (0 : Int) % 256 = 0 by decide] at this
         rw [encSd_f]; simpa only [List.append_assoc] using this)
        clear hr hb HW x0 x4
        go_wp2_with fail
        go_roundw
        case rel => exact ⟨1, v8, by go_num, rfl, HBF.out, .inr (.inl ⟨rfl, HRF.out⟩)⟩
        case measure => simp [RowKit.intOf]
    ·have HROW := Lib.hid hrow
     clear hrow
     have HPB : Hid ((encP V q k ++ encSd d1).length ≤ 506146) := Lib.hid (by rw [List.length_append]; have := HPL.out; have := HSL1.out; omega)
     obtain ⟨gb, cap1, pp1, he, hgb, hcx, hq1, hq2⟩ := (HV4.out.below HBY.out).get HX.out
     injection he with he1 _ he3
     subst he1
     subst he3
     obtain ⟨_, ⟨a1, n1, e1, ⟨p1, q1, r1⟩, f1⟩⟩ := pp1
     have x0 : wy.cell? ⟨gb, k * 10 + 5, none⟩ = some (.slice a1 n1 e1) := hcx 5 _ rfl
     have x1 : wy.cell? ⟨gb, k * 10 + 6, none⟩ = some (.int .i64 p1) := hcx 6 _ rfl
     have x2 : wy.cell? ⟨gb, k * 10 + 7, none⟩ = some (.int .i64 q1) := hcx 7 _ rfl
     have x3 : wy.cell? ⟨gb, k * 10 + 8, none⟩ = some (.int .i64 r1) := hcx 8 _ rfl
     have x4 : wy.cell? ⟨gb, k * 10 + 9, none⟩ = some (.bool f1) := hcx 9 _ rfl
     have HSH := hq2
     have HBA := Lib.hid (Below.allocN wy (.cells #[.slice a1 n1 e1, .int .i64 p1, .int .i64 q1, .int .i64 r1, .bool f1] 81))
     have HGX0 : Hid (Blk (wy.alloc (.cells #[.slice a1 n1 e1, .int .i64 p1, .int .i64 q1, .int .i64 r1, .bool f1] 81)) wy.heap.size 81 #[.slice a1 n1 e1, .int .i64 p1, .int .i64 q1, .int .i64 r1, .bool f1]) := Lib.hid (Blk.new _ _ _)
     obtain ⟨y1, hrw1, y3, y4⟩ := HSH.below HBA.out
     clear hcx hq1 hq2 HSH
     go_upto_region 11 with (fail)
     obtain ⟨gx, hgx⟩ : ∃ gx, wy.heap.size = gx := ⟨_, rfl⟩
     rw [hgx] at HGX0 ⊢
     have HB5 := Lib.hid (HBY.out.trans (HBA.out.mono HBY.out.size))
     have HROW5 := Lib.hid (HROW.out.below HBA.out)
     clear hgx HBA HROW x0 x1 x2 x3 x4 c0
     generalize wy.alloc (.cells #[.slice a1 n1 e1, .int .i64 p1, .int .i64 q1, .int .i64 r1, .bool f1] 81) = w5 at *
     obtain ⟨L, ⟨ip, iq, ic⟩, hh⟩ := d2
     dsimp only at y1 hrw1 y3 y4
     injection y3 with t1' t2' t3'
     subst y1; subst y4; subst t1'; subst t2'; subst t3'
     have HLL : Hid (L.length ≤ 255) := Lib.hid HL1.out.2
     have HRW1 := Lib.hid hrw1
     have x0 : w5.cell? ⟨gx, 0, none⟩ = some (.slice a1 L.length e1) := HGX0.out.cell 0
     have HW := Lib.hid (wbyte_any HROW5.out.sl (by have := HPB.out; omega) (L.length : Int))
     clear hrw1
     go_wp2_with fail
     refine HW.out.mono ?_
     rintro e w6 ⟨v6, rfl, hr, hb⟩
     have HB6 := Lib.hid (HB5.out.trans (hb.mono HB5.out.size))
     have HGX := Lib.hid (HGX0.out.below hb)
     have HRL := Lib.hid (HRW1.out.below hb)
     have HR6 : Hid (BYL.Row w6 w.heap.size v6 (encP V q k ++ encSd d1 ++ encI L 0)) := Lib.hid (hr.base (Nat.le_trans HB4.out.size HB5.out.size))
     clear hr hb HW x0 HB5 HROW5 HGX0 HRW1
     go_wp2_with fail
     go_loopw [10, 6] (fun i bv w' => ∃ (m : Nat) (v : Value), i = .int .i64 m ∧ bv = v ∧ m ≤ L.length ∧ BYL.Row w' w.heap.size v (encP V q k ++ encSd d1 ++ encI L m) ∧ Below w6.heap.size w6 w') (fun i _ _ => L.length - (RowKit.intOf i).toNat)
     case atStart => exact ⟨0, v6, rfl, rfl, Nat.zero_le _, HR6.out, Below.refl _ _⟩
     case round =>
      clear HR6
      obtain ⟨m, v, rfl, rfl, hm, hrow, hbq⟩ := hrel
      obtain ⟨wq, rfl⟩ : ∃ wo : World, wo = wr := ⟨_, rfl⟩
      have HROW := Lib.hid hrow
      have HBQ := Lib.hid hbq
      have x0 : wq.cell? ⟨gx, 0, none⟩ = some (.slice a1 L.length e1) := (HGX.out.below hbq).cell 0
      have hlo := HLL.out
      have HIL : Hid ((encI L m).length ≤ 6200) := Lib.hid (encI_len HLL.out)
      clear hrow hbq
      by_cases hlt2 : m < L.length
      ·have hlt2' : (m : Int) < (L.length : Int) := by omega
       obtain ⟨z, hz⟩ : ∃ z, L[m]? = some z := ⟨_, List.getElem?_eq_getElem hlt2⟩
       have HIS := Lib.hid (encI_step hz)
       have h1r := HRL.out.below HBQ.out
       obtain ⟨gl, cap3, he, _, _⟩ := h1r.at_ m z hz
       injection he with he1 _ he3
       subst he1
       subst he3
       obtain ⟨l0, l1, l2, _⟩ := rlv_at h1r hz
       have HW := Lib.hid (rlevel_any HROW.out.sl (by rw [List.length_append]; have := HPB.out; have := HIL.out; omega) z)
       unfold Lv.agg at HW
       clear hz h1r
       go_wp2_with fail
       refine HW.out.mono ?_
       rintro e w7 ⟨v7, rfl, hr, hb⟩
       have HB7 := Lib.hid (HBQ.out.trans (hb.mono HBQ.out.size))
       have HR7 : Hid (BYL.Row w7 w.heap.size v7 (encP V q k ++ encSd d1 ++ encI L (m + 1))) := Lib.hid (by
        have := hr.base (B' := w.heap.size) (Nat.le_trans HB4.out.size (Nat.le_trans HB6.out.size HBQ.out.size))
        rw [HIS.out, ← List.append_assoc]; exact this)
       clear hr hb HW l0 l1 l2 x0
       go_wp2_with fail
       go_roundw
       case rel => exact ⟨m + 1, v7, by go_num, rfl, hlt2, HR7.out, HB7.out⟩
       case measure => simp [RowKit.intOf]; omega
      ·have hql : m = L.length := by omega
       subst hql
       have x4 : wq.cell? ⟨gx, 4, none⟩ = some (.bool f1) := (HGX.out.below HBQ.out).cell 4
       have HBW := Lib.hid (HB6.out.trans (HBQ.out.mono HB6.out.size))
       cases f1 with
       | true =>
        have HGQ := Lib.hid (HGX.out.below HBQ.out)
        have HW := Lib.hid (wbyte_any (HROW.out.sl.below (Below.drewN_of wq 1)) (by rw [List.length_append]; have := HPB.out; have := HIL.out; omega) 1)
        go_upto_region 17 with (fail)
        refine wp_region_E (S := fun w' => w'.cell? ⟨gx, 1, none⟩ = some (.int .i64 p1) ∧ w'.cell? ⟨gx, 2, none⟩ = some (.int .i64 q1) ∧ w'.cell? ⟨gx, 3, none⟩ = some (.int .i64 r1)) (by kernel_rfl) ⟨HGQ.out.cell 1, HGQ.out.cell 2, HGQ.out.cell 3⟩ (fun hHeld => ?_)
        refine wpE_tk 0 (oi := ?o8) (v := ?v8) ?h8 (by kernel_rfl) ?q8 ?y8 (by assumption) ?_
        case h8 => (simp only [List.getElem?_toArray]; rfl)
        case q8 => exact fun _ _ _ h => h
        case y8 => exact Or.inl ⟨by rfl, by (intro w hSw; (try dsimp only at hSw); go_simp; try with_reducible rfl)⟩
        try simp only [Act.put, sA, sB, sC]
        refine wpE_tk 2 (oi := ?o9) (v := ?v9) ?h9 (by kernel_rfl) ?q9 ?y9 (by assumption) ?_
        case h9 => (simp only [List.getElem?_toArray]; rfl)
        case q9 => exact fun _ _ _ h => h
        case y9 => exact Or.inl ⟨by rfl, by (intro w hSw; (try dsimp only at hSw); go_simp; try with_reducible rfl)⟩
        try simp only [Act.put, sA, sB, sC]
        refine wpE_tk 3 (oi := ?o10) (v := ?v10) ?h10 (by kernel_rfl) ?q10 ?y10 (by assumption) ?_
        case h10 => (simp only [List.getElem?_toArray]; rfl)
        case q10 => exact fun _ _ _ h => h
        case y10 => exact Or.inl ⟨by rfl, by (intro w hSw; (try dsimp only at hSw); go_simp; try with_reducible rfl)⟩
        try simp only [Act.put, sA, sB, sC]
        refine wpE_one (i := 1) (o := ?o15) ?ho15 (by kernel_rfl) (fun K hK => ?_)
        case ho15 => (simp only [List.getElem?_toArray]; rfl)
        go_simp
        refine HW.out.mono ?_
        rintro e w7 ⟨v7, rfl, hr, hb⟩
        have hb2 := (Below.drewN_of wq 1).trans hb
        have HG7 := Lib.hid (HGQ.out.below hb2)
        have HB7 := Lib.hid (HBW.out.trans (hb2.mono HBW.out.size))
        have HW2 := Lib.hid (rlevel_any hr.sl (by rw [List.length_append, List.length_append, List.length_singleton]; have := HPB.out; have := HIL.out; omega) ⟨p1, q1, r1⟩)
        unfold Lv.agg at HW2
        refine hK.out _ _ ⟨HG7.out.cell 1, HG7.out.cell 2, HG7.out.cell 3⟩ (fun hHeld => ?_)
        clear hK K hr hb hb2 HW HGQ
        refine wpE_one (i := 4) (o := ?o16) ?ho16 (by kernel_rfl) (fun K hK => ?_)
        case ho16 => (simp only [List.getElem?_toArray]; rfl)
        go_simp
        refine HW2.out.mono ?_
        rintro e w8 ⟨v8, rfl, hr, hb⟩
        have HG8 := Lib.hid (HG7.out.below hb)
        have HBF := Lib.hid (HB7.out.trans (hb.mono HB7.out.size))
        have HRF : Hid (BYL.Row w8 w.heap.size v8 (encP V q (k + 1))) := Lib.hid (by
         have := hr.base (B' := w.heap.size) (Nat.le_trans HB4.out.size HB7.out.size)
         rw [show (1 : Int) % 256 = 1 by decide] at this
         rw [HST.out, encSd_t]; simpa only [List.append_assoc] using this)
        refine hK.out _ _ ⟨HG8.out.cell 1, HG8.out.cell 2, HG8.out.cell 3⟩ (fun hHeld => ?_)
        clear hK K hr hb HW2 HG7 HB7
        refine wpE_last (i := 5) (o := ?o19) ?ho19 (by kernel_rfl) (by kernel_rfl) (by kernel_rfl) (fun K hK => ?_)
        case ho19 => (simp only [List.getElem?_toArray]; rfl)
        go_simp
        refine hK.out _ _ ?_
        clear hK K hHeld x0 x4
        go_wp2_with fail
        go_roundw
        case rel => exact ⟨2, v8, by go_num, rfl, HBF.out, .inr (.inr ⟨rfl, HRF.out⟩)⟩
        case measure => simp [RowKit.intOf]
       | false =>
        have HW := Lib.hid (wbyte_any HROW.out.sl (by rw [List.length_append]; have := HPB.out; have := HIL.out; omega) 0)
        go_wp2_with fail
        refine HW.out.mono ?_
        rintro e w8 ⟨v8, rfl, hr, hb⟩
        have HBF := Lib.hid (HBW.out.trans (hb.mono HBW.out.size))
        have HRF : Hid (BYL.Row w8 w.heap.size v8 (encP V q (k + 1))) := Lib.hid (by
         have := hr.base (B' := w.heap.size) (Nat.le_trans HB4.out.size HBW.out.size)
         rw [show (0 : Int) % 256 = 0 by decide] at this
         rw [HST.out, encSd_f]; simpa only [List.append_assoc] using this)
        clear hr hb HW x0 x4
        go_wp2_with fail
        go_roundw
        case rel => exact ⟨2, v8, by go_num, rfl, HBF.out, .inr (.inr ⟨rfl, HRF.out⟩)⟩
        case measure => simp [RowKit.intOf]
    ·have HROW := Lib.hid hrow
     clear hrow c0
     go_wp2_with fail
     go_roundw
     case rel => exact ⟨k + 1, _, by go_num, rfl, hlt, HROW.out, HBY.out⟩
     case measure => simp [RowKit.intOf]; omega
  ·have hkl : k = V.length := by omega
   have HE : Hid (encP V q k = encB V q) := Lib.hid (by unfold encP encB; rw [hkl, List.take_length])
   have HPL : Hid ((encP V q k).length ≤ 500000) := Lib.hid (encP_len HLV.out hl)
   rw [HE.out] at HROW HPL
   have HBF := Lib.hid (HB4.out.trans (HBZ.out.mono HB4.out.size))
   have HCR := Lib.hid (rcrc_any HROW.out.sl (by have := HPL.out; omega) (encB_byte V q))
   obtain ⟨cz, hcz⟩ : ∃ z, crcP (encB V q) = z := ⟨_, rfl⟩
   have HCU : Hid (u32r cz) := Lib.hid (by rw [← hcz]; exact bits_u32r _ _ _)
   have HCZ := Lib.hid hcz
   rw [hcz] at HCR
   have w0 : IntKind.u8.wrap cz = cz % 256 := IntKind.wrap_u8 _
   have w1' : IntKind.u8.wrap (cz / 256) = cz / 256 % 256 := IntKind.wrap_u8 _
   have w2' : IntKind.u8.wrap (cz / 65536) = cz / 65536 % 256 := IntKind.wrap_u8 _
   have w3' : IntKind.u8.wrap (cz / 16777216) = cz / 16777216 % 256 := IntKind.wrap_u8 _
   have hcu := HCU.out
   have hcu1 : 0 ≤ cz := hcu.1
   have d1' : cz.fdiv 256 = cz / 256 := Int.fdiv_eq_ediv_of_nonneg cz (by decide)
   have d2' : cz.fdiv 65536 = cz / 65536 := Int.fdiv_eq_ediv_of_nonneg cz (by decide)
   have d3' : cz.fdiv 16777216 = cz / 16777216 := Int.fdiv_eq_ediv_of_nonneg cz (by decide)
   obtain ⟨va, vc, hvf⟩ := HROW.out.form
   subst hvf
   clear hkl hcz hcu
   go_wp2_with fail
   refine HCR.out.mono ?_
   rintro e w6 ⟨rfl, rfl⟩
   clear HCR
   have hba := Below.allocN wz (.cells #[.int .u8 (cz % 256), .int .u8 (cz / 256 % 256), .int .u8 (cz / 65536 % 256), .int .u8 (cz / 16777216 % 256)] 5)
   have HNB : Hid (Blk (wz.alloc (.cells #[.int .u8 (cz % 256), .int .u8 (cz / 256 % 256), .int .u8 (cz / 65536 % 256), .int .u8 (cz / 16777216 % 256)] 5)) wz.heap.size 5 #[.int .u8 (cz % 256), .int .u8 (cz / 256 % 256), .int .u8 (cz / 65536 % 256), .int .u8 (cz / 16777216 % 256)]) := Lib.hid (Blk.new _ _ _)
   have HRD : Hid (BYL.Rd (wz.alloc (.cells #[.int .u8 (cz % 256), .int .u8 (cz / 256 % 256), .int .u8 (cz / 65536 % 256), .int .u8 (cz / 16777216 % 256)] 5)) (some ⟨wz.heap.size, 0, none⟩) (le4 cz)) := Lib.hid (by
    intro j e hj
    refine ⟨wz.heap.size, 0, rfl, HNB.out.lt, ?_⟩
    intro m u hu
    have hm : m = 0 := by
     have : m < 1 := lt_of_get hu
     omega
    subst hm
    have hu' : u = .int .u8 e := by injection hu with hu; exact hu.symm
    subst hu'
    have hc := HNB.out.cell (0 + j * 1 + 0)
    rw [show 0 + j * BYL.m + 0 = 0 + j * 1 + 0 from rfl, hc]
    have hj4 : j < 4 := lt_of_get hj
    match j, hj4, hj with
    | 0, _, hj => injection hj with hj; subst hj; rfl
    | 1, _, hj => injection hj with hj; subst hj; rfl
    | 2, _, hj => injection hj with hj; subst hj; rfl
    | 3, _, hj => injection hj with hj; subst hj; rfl)
   have HROW2 := Lib.hid (HROW.out.below hba)
   have HB2' := Lib.hid (HBF.out.trans (hba.mono HBF.out.size))
   clear hba
   go_wp2_with (first
    | (at_builtin; go_loud (refine BYL.pushes rfl (.tmp 69) (.tmp 81) rfl w.heap.size (.slice va (encB V q).length vc) (encB V q) rfl HROW2.out (some ⟨wz.heap.size, 0, none⟩) 4 (le4 cz) rfl (fun h => by cases h) HRD.out (fun ad h => ⟨wz.heap.size, 0, by injection h with h; exact h.symm⟩) (by have := HPL.out; show (encB V q).length + 4 ≤ 1000000; omega) HB2'.out.size ?_)))
   intro v' w7 hr7 hg7 _
   have HR7 := Lib.hid hr7
   have HB7 := Lib.hid (grown_below hg7 HB2'.out (own_base HROW2.out))
   clear hr7 hg7 HROW2 HB2' HRD HNB
   go_wp2_with fail
   go_ret2
   refine ⟨v', rfl, ?_, HB7.out⟩
   have := HR7.out
   rw [← HCZ.out] at this
   exact this
end
end Go.Proofs.Ytmaijkoopjocdaa
