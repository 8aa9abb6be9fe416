/- The walk of cornhilllaw9.BookMirror. -/
import Derived.Test.YtmhljdkhekjfmaaMG
import Derived.Test.YtmhljdkhekjfmaaMir9
import Derived.BigQuiet
import Derived.Deep.RegionHeld3
namespace Go.Proofs.Ytmhljdkhekjfmaa
open Go.RowKit

set_option maxRecDepth 100000 in
set_option maxHeartbeats 16000000 in
theorem mirror9 (q : Option Addr) (c : Nat) (l : List Ak) (W : World) (hR : AK.Rd W q l) (hok : ∀ x ∈ l, x.ok) :
    Calls Try.prog 5 #[.slice q l.length c] W fun e w' => e = .returned (.bool true) ∧ Below W.heap.size W w' := by
  have HR := Lib.hid hR
  have HOK := Lib.hid hok
  clear hR hok
  go_enter Try.func5, Try.ntmps5
  go_wp2_with fail
  refine (ob_new W W (Below.refl _ _)).mono ?_
  rintro e w1 ⟨pa, rfl, h, _⟩
  have O1 := Lib.hid h
  clear h
  go_wp2_with fail
  refine (ob2_new O1.out).mono ?_
  rintro e w2 ⟨pb, rfl, h⟩
  have O2 := Lib.hid h
  clear h O1
  go_wp2_with fail
  go_loopw [5] (fun i w' => ∃ k : Nat, i = .int .i64 k ∧ k ≤ 50 ∧ ∃ La Lb, OB2 W w' pa pb La Lb ∧ Mir La Lb) (fun i _ => 50 - (intOf i).toNat)
  case atStart => exact ⟨0, rfl, by omega, _, _, O2.out, Mir.nil⟩
  case round =>
    clear O2
    obtain ⟨k, rfl, hk, La, Lb, hO, hM⟩ := hrel
    obtain ⟨wo, rfl⟩ : ∃ wo : World, wo = wr := ⟨_, rfl⟩
    have O0 : Hid (OB2 W wo pa pb La Lb) := Lib.hid hO
    have M0 := Lib.hid hM
    clear hO hM
    by_cases hlt : k < l.length ∧ k < 50
    · as_aux_lemma =>
      obtain ⟨hkn, hk50⟩ := hlt
      obtain ⟨x, hx⟩ : ∃ x, l[k]? = some x := ⟨_, List.getElem?_eq_getElem hkn⟩
      obtain ⟨b, off, rfl, hbl, ha⟩ := HR.out.below O0.out.bel k x hx
      have hkl : (k : Int) < (l.length : Int) := by omega
      have XOK := Lib.hid (HOK.out x (List.mem_of_getElem? hx))
      have a0 : wo.cell? ⟨b, off + k * 5, none⟩ = some (.int .i64 x.kind) := ha 0 _ rfl
      have a1 : wo.cell? ⟨b, off + k * 5 + 1, none⟩ = some (.int .i64 x.side) := ha 1 _ rfl
      have a2 : wo.cell? ⟨b, off + k * 5 + 2, none⟩ = some (.int .i64 x.id) := ha 2 _ rfl
      have a3 : wo.cell? ⟨b, off + k * 5 + 3, none⟩ = some (.int .i64 x.price) := ha 3 _ rfl
      have a4 : wo.cell? ⟨b, off + k * 5 + 4, none⟩ = some (.int .i64 x.qty) := ha 4 _ rfl
      clear ha hbl hx
      obtain ⟨s, hs⟩ : ∃ s, 1 + withI x.side 0 1 = s := ⟨_, rfl⟩
      obtain ⟨p, hp⟩ : ∃ p, withI x.price 0 8 - 4 = p := ⟨_, rfl⟩
      obtain ⟨qt, hqt⟩ : ∃ y, 1 + withI x.qty 0 9 = y := ⟨_, rfl⟩
      obtain ⟨id, hid⟩ : ∃ y, withI x.id 0 30 = y := ⟨_, rfl⟩
      have hs12 : s = 1 ∨ s = 2 := by have := withI_bd x.side 0 1 (by omega); omega
      have hpb : -4 ≤ p ∧ p ≤ 4 := by have := withI_bd x.price 0 8 (by omega); omega
      have hqb : 1 ≤ qt ∧ qt ≤ 10 := by have := withI_bd x.qty 0 9 (by omega); omega
      have HS := Lib.hid hs
      have HP := Lib.hid hp
      have HQT := Lib.hid hqt
      have HS12 := Lib.hid hs12
      have HPB := Lib.hid hpb
      have HQB := Lib.hid hqb
      have hw1 := within_any x.side 0 1 wo XOK.out.2.1.1 XOK.out.2.1.2 (by omega) (by omega) (by omega)
      have hw2 := within_any x.price 0 8 wo XOK.out.2.2.2.1.1 XOK.out.2.2.2.1.2 (by omega) (by omega) (by omega)
      have hw3 := within_any x.qty 0 9 wo XOK.out.2.2.2.2.1 XOK.out.2.2.2.2.2 (by omega) (by omega) (by omega)
      have hw4 := within_any x.id 0 30 wo XOK.out.2.2.1.1 XOK.out.2.2.1.2 (by omega) (by omega) (by omega)
      rw [hid] at hw4
      clear hs hp hs12 hqt hqb hpb hid
      have hsb1 : 1 ≤ s := by have := HS12.out; omega
      have hsb2 : s ≤ 2 := by have := HS12.out; omega
      have hpb1 : -4 ≤ p := HPB.out.1
      have hpb2 : p ≤ 4 := HPB.out.2
      have hqb1 : 1 ≤ qt := HQB.out.1
      have hqb2 : qt ≤ 10 := HQB.out.2
      go_wp2_with fail
      refine hw1.mono ?_
      rintro e w2 ⟨rfl, rfl⟩
      have hs := HS.out
      clear hw1
      go_wp2_with fail
      clear hs
      refine hw2.mono ?_
      rintro e w2 ⟨rfl, rfl⟩
      have hp := HP.out
      clear hw2
      go_wp2_with fail
      clear hp
      refine hw3.mono ?_
      rintro e w2 ⟨rfl, rfl⟩
      have hqt := HQT.out
      clear hw3
      go_wp2_with fail
      clear hqt
      refine hw4.mono ?_
      rintro e w2 ⟨rfl, rfl⟩
      clear hw4 a1 a2 a3 a4
      have x0 := XOK.out.1
      unfold i64ok at x0
      go_upto_if 68 with (fail)
      clear a0 x0
      obtain ⟨m, hm⟩ : ∃ m, x.kind.tmod 3 = m := ⟨_, rfl⟩
      rw [hm]
      clear hm HS HP HQT
      go_cut [68] (fun _ wx => ∃ La' Lb', OB2 W wx pa pb La' Lb' ∧ Mir La' Lb')
      case first =>
        by_cases hm : m = 0
        · subst hm
          have HF := Lib.hid (M0.out.fill O0.out.a.parts O0.out.b.parts O0.out.b.ids id qt)
          go_wp2_with fail
          refine (ob2_fill O0.out id qt).mono ?_
          rintro e w5 ⟨rfl, hO⟩
          have O5 := Lib.hid hO
          clear hO
          go_wp2_with fail
          refine (ob2_fill O5.out.swap id qt).mono ?_
          rintro e w6 ⟨rfl, hO⟩
          rw [HF.out.1]
          have O6 := Lib.hid hO
          clear hO
          go_wp2_with fail
          go_meet
          exact ⟨_, _, O6.out.swap, HF.out.2⟩
        · have hmb : (m != 0) = true := by rw [bne_iff_ne]; exact hm
          have HF := Lib.hid (M0.out.add O0.out.a.parts O0.out.b.parts O0.out.b.ids O0.out.a.sorted O0.out.b.sorted HS12.out id HPB.out qt)
          go_wp2_with fail
          refine (ob2_add O0.out id s p qt).mono ?_
          rintro e w5 ⟨rfl, hO⟩
          have O5 := Lib.hid hO
          clear hO
          go_wp2_with fail
          refine (ob2_add O5.out.swap id (3 - s) (-p) qt).mono ?_
          rintro e w6 ⟨rfl, hO⟩
          rw [HF.out.1]
          have O6 := Lib.hid hO
          clear hO
          go_wp2_with fail
          go_meet
          exact ⟨_, _, O6.out.swap, HF.out.2⟩
      case rest =>
      obtain ⟨La', Lb', hO, hM⟩ := hcut
      obtain ⟨wx, rfl⟩ : ∃ wo : World, wo = wc := ⟨_, rfl⟩
      have O5 : Hid (OB2 W wx pa pb La' Lb') := Lib.hid hO
      have M5 := Lib.hid hM
      clear hO hM O0 M0 HS12 HPB HQB hsb1 hsb2 hpb1 hpb2 hqb1 hqb2
      go_wp2_with fail
      as_aux_lemma =>
      go_loopw [10] (fun s w' => ∃ j : Nat, s = .int .i64 j ∧ 1 ≤ j ∧ j ≤ 3 ∧ Below wx.heap.size wx w') (fun s _ => 3 - (intOf s).toNat)
      case atStart => exact ⟨1, rfl, by omega, by omega, Below.refl _ _⟩
      case round =>
        obtain ⟨j, rfl, hj1, hj3, hb⟩ := hrel
        obtain ⟨wu, rfl⟩ : ∃ wo : World, wo = wr := ⟨_, rfl⟩
        have OU := Lib.hid (O5.out.below hb)
        have BU := Lib.hid hb
        clear hb
        by_cases hlt : j ≤ 2
        · have hj12 : (j : Int) = 1 ∨ (j : Int) = 2 := by omega
          have HJ := Lib.hid hj12
          have hjn1 : (1 : Int) ≤ (j : Int) := by omega
          have hjn2 : (j : Int) ≤ 2 := by omega
          have HLA := ob_lad OU.out.a (j : Int)
          have HLB := Lib.hid (M5.out.lad hj12)
          have HPR := Lib.hid (fun v => M5.out.price (s := (j : Int)) (v := v))
          have hsm : (ladO La' j).length ≤ 250 := by
            obtain ⟨G, hG⟩ := OU.out.a.lvls hj12
            obtain ⟨NF, TF, hF⟩ := OU.out.a.lvf hG
            exact hF.small
          obtain ⟨M, hM⟩ : ∃ M, ladO La' j = M := ⟨_, rfl⟩
          rw [hM] at HLA HLB HPR hsm
          clear hM hj12 hj1 hj3 hlt
          go_wp2_with fail
          refine HLA.mono ?_
          rintro e w6 ⟨v, rfl, hr, hb⟩
          obtain ⟨ra, rc, rfl, _, hrd⟩ := hr.rd
          have O6 := Lib.hid (OU.out.below hb)
          have B6 := Lib.hid (BU.out.trans (hb.mono BU.out.size))
          have R6 := Lib.hid hrd
          clear hr hb hrd OU BU HLA
          go_wp2_with fail
          have hlb := ob_lad O6.out.b (3 - (j : Int))
          rw [HLB.out] at hlb
          refine hlb.mono ?_
          rintro e w7 ⟨v, rfl, hr, hb⟩
          obtain ⟨sa, sc, rfl, _, hrd⟩ := hr.rd
          rw [List.length_map]
          have O7 := Lib.hid (O6.out.below hb)
          have B7 := Lib.hid (B6.out.trans (hb.mono B6.out.size))
          have R7 := Lib.hid (R6.out.below hb)
          have S7 := Lib.hid hrd
          clear hr hb hrd hlb O6 B6 R6 HLB
          go_wp2_with fail
          as_aux_lemma =>
          go_loopw [13] (fun i w' => ∃ i' : Nat, i = .int .i64 i' ∧ i' ≤ M.length ∧ Below w7.heap.size w7 w') (fun i _ => M.length - (intOf i).toNat)
          case atStart => exact ⟨0, rfl, Nat.zero_le _, Below.refl _ _⟩
          case round =>
            obtain ⟨i, rfl, hi, hb⟩ := hrel
            obtain ⟨wy, rfl⟩ : ∃ wo : World, wo = wr := ⟨_, rfl⟩
            have HBL := Lib.hid hb
            clear hb
            by_cases hin : i < M.length
            · have hin' : (i : Int) < (M.length : Int) := by omega
              obtain ⟨⟨vp, vq, vc⟩, hg⟩ : ∃ g, M[i]? = some g := ⟨_, List.getElem?_eq_getElem hin⟩
              have hg2 : (M.map mirL)[i]? = some ⟨-vp, vq, vc⟩ := by rw [List.getElem?_map, hg]; rfl
              have hvp := HPR.out _ (List.mem_of_getElem? hg)
              have hv1 : -4 ≤ vp := hvp.1
              have hv2 : vp ≤ 4 := hvp.2
              obtain ⟨ga, oa, rfl, hga, hca⟩ := R7.out.below HBL.out i _ hg
              obtain ⟨gb, ob, rfl, hgb, hcb⟩ := S7.out.below HBL.out i _ hg2
              have HC : Hid (∀ w', Below wy.heap.size wy w' → (w'.cell? ⟨ga, oa + i * 3, none⟩ = some (.int .i64 vp) ∧ w'.cell? ⟨ga, oa + i * 3 + 1, none⟩ = some (.int .i64 vq) ∧ w'.cell? ⟨ga, oa + i * 3 + 2, none⟩ = some (.int .i64 vc)) ∧ (w'.cell? ⟨gb, ob + i * 3, none⟩ = some (.int .i64 (-vp)) ∧ w'.cell? ⟨gb, ob + i * 3 + 1, none⟩ = some (.int .i64 vq) ∧ w'.cell? ⟨gb, ob + i * 3 + 2, none⟩ = some (.int .i64 vc))) :=
                Lib.hid fun w' hbb => ⟨⟨hca.below hbb hga 0 _ rfl, hca.below hbb hga 1 _ rfl, hca.below hbb hga 2 _ rfl⟩, hcb.below hbb hgb 0 _ rfl, hcb.below hbb hgb 1 _ rfl, hcb.below hbb hgb 2 _ rfl⟩
              have c0 := HC.out wy (Below.refl _ _)
              have OY := Lib.hid (O7.out.below HBL.out)
              have HAT := Lib.hid (M5.out.at_ HJ.out vp)
              have hA250 : (atO La' j vp).length ≤ 250 := Nat.le_trans (List.length_filter_le _ _) OY.out.a.len
              obtain ⟨A, hA⟩ : ∃ A, atO La' j vp = A := ⟨_, rfl⟩
              have HA := Lib.hid hA
              rw [hA] at HAT hA250
              clear hg hg2 hvp hga hgb hca hcb hA
              go_upto_region 26 with (fail)
              refine wp_region_E (S := fun w' => w'.cell? ⟨ga, oa + i * 3, none⟩ = some (.int .i64 vp) ∧ w'.cell? ⟨gb, ob + i * 3, none⟩ = some (.int .i64 (-vp))) (by kernel_rfl) ⟨c0.1.1, c0.2.1⟩ (fun hHeld => ?_)
              clear c0
              refine wpE_take (i := 0) (oi := ?oi1) (v := ?v1) ?hi1 (by kernel_rfl) (by kernel_rfl) (by kernel_rfl) (by kernel_rfl) ?hQ1 ?hy1 (by assumption) ?rest1
              case hi1 => (simp only [List.getElem?_toArray]; rfl)
              case hQ1 => exact fun _ _ _ h => h
              case hy1 => exact Or.inl ⟨by rfl, by (intro w hSw; (try dsimp only at hSw); go_simp; try with_reducible rfl)⟩
              try simp only [Act.put, List.setIfInBounds_toArray, List.set_cons_zero, List.set_cons_succ]
              refine wpE_take (i := 1) (oi := ?oi2) (v := ?v2) ?hi2 (by kernel_rfl) (by kernel_rfl) (by kernel_rfl) (by kernel_rfl) ?hQ2 ?hy2 (by assumption) ?rest2
              case hi2 => (simp only [List.getElem?_toArray]; rfl)
              case hQ2 => exact fun _ _ _ h => h
              case hy2 => exact Or.inl ⟨by rfl, by (intro w hSw; (try dsimp only at hSw); go_simp; try with_reducible rfl)⟩
              try simp only [Act.put, List.setIfInBounds_toArray, List.set_cons_zero, List.set_cons_succ]
              refine wpE_take (i := 2) (oi := ?oi3) (v := ?v3) ?hi3 (by kernel_rfl) (by kernel_rfl) (by kernel_rfl) (by kernel_rfl) ?hQ3 ?hy3 (by assumption) ?rest3
              case hi3 => (simp only [List.getElem?_toArray]; rfl)
              case hQ3 => exact fun _ _ _ h => h
              case hy3 => exact Or.inl ⟨by rfl, by (intro w hSw; (try dsimp only at hSw); go_simp; try with_reducible rfl)⟩
              try simp only [Act.put, List.setIfInBounds_toArray, List.set_cons_zero, List.set_cons_succ]
              refine wpE_take (i := 3) (oi := ?oi4) (v := ?v4) ?hi4 (by kernel_rfl) (by kernel_rfl) (by kernel_rfl) (by kernel_rfl) ?hQ4 ?hy4 (by assumption) ?rest4
              case hi4 => (simp only [List.getElem?_toArray]; rfl)
              case hQ4 => exact fun _ _ _ h => h
              case hy4 => exact Or.inl ⟨by rfl, by (intro w hSw; (try dsimp only at hSw); go_simp; try with_reducible rfl)⟩
              try simp only [Act.put, List.setIfInBounds_toArray, List.set_cons_zero, List.set_cons_succ]
              refine wpE_take (i := 4) (oi := ?oi5) (v := ?v5) ?hi5 (by kernel_rfl) (by kernel_rfl) (by kernel_rfl) (by kernel_rfl) ?hQ5 ?hy5 (by assumption) ?rest5
              case hi5 => (simp only [List.getElem?_toArray]; rfl)
              case hQ5 => exact fun _ _ _ h => h
              case hy5 => exact Or.inl ⟨by rfl, by (intro w hSw; (try dsimp only at hSw); go_simp; try with_reducible rfl)⟩
              try simp only [Act.put, List.setIfInBounds_toArray, List.set_cons_zero, List.set_cons_succ]
              refine wpE_take (i := 5) (oi := ?oi6) (v := ?v6) ?hi6 (by kernel_rfl) (by kernel_rfl) (by kernel_rfl) (by kernel_rfl) ?hQ6 ?hy6 (by assumption) ?rest6
              case hi6 => (simp only [List.getElem?_toArray]; rfl)
              case hQ6 => exact fun _ _ _ h => h
              case hy6 => exact Or.inl ⟨by rfl, by (intro w hSw; (try dsimp only at hSw); go_simp; try with_reducible rfl)⟩
              try simp only [Act.put, List.setIfInBounds_toArray, List.set_cons_zero, List.set_cons_succ]
              refine wpE_take (i := 6) (oi := ?oi7) (v := ?v7) ?hi7 (by kernel_rfl) (by kernel_rfl) (by kernel_rfl) (by kernel_rfl) ?hQ7 ?hy7 (by assumption) ?rest7
              case hi7 => (simp only [List.getElem?_toArray]; rfl)
              case hQ7 => exact fun _ _ _ h => h
              case hy7 => exact Or.inl ⟨by rfl, by (intro w hSw; (try dsimp only at hSw); go_simp; try with_reducible rfl)⟩
              try simp only [Act.put, List.setIfInBounds_toArray, List.set_cons_zero, List.set_cons_succ]
              refine wpE_take (i := 8) (oi := ?oi8) (v := ?v8) ?hi8 (by kernel_rfl) (by kernel_rfl) (by kernel_rfl) (by kernel_rfl) ?hQ8 ?hy8 (by assumption) ?rest8
              case hi8 => (simp only [List.getElem?_toArray]; rfl)
              case hQ8 => exact fun _ _ _ h => h
              case hy8 => exact Or.inl ⟨by rfl, by (intro w hSw; (try dsimp only at hSw); go_simp; try with_reducible rfl)⟩
              try simp only [Act.put, List.setIfInBounds_toArray, List.set_cons_zero, List.set_cons_succ]
              refine wpE_take (i := 9) (oi := ?oi9) (v := ?v9) ?hi9 (by kernel_rfl) (by kernel_rfl) (by kernel_rfl) (by kernel_rfl) ?hQ9 ?hy9 (by assumption) ?rest9
              case hi9 => (simp only [List.getElem?_toArray]; rfl)
              case hQ9 => exact fun _ _ _ h => h
              case hy9 => exact Or.inl ⟨by rfl, by (intro w hSw; (try dsimp only at hSw); go_simp; try with_reducible rfl)⟩
              try simp only [Act.put, List.setIfInBounds_toArray, List.set_cons_zero, List.set_cons_succ]
              refine wpE_take (i := 10) (oi := ?oi10) (v := ?v10) ?hi10 (by kernel_rfl) (by kernel_rfl) (by kernel_rfl) (by kernel_rfl) ?hQ10 ?hy10 (by assumption) ?rest10
              case hi10 => (simp only [List.getElem?_toArray]; rfl)
              case hQ10 => exact fun _ _ _ h => h
              case hy10 => exact Or.inl ⟨by rfl, by (intro w hSw; (try dsimp only at hSw); go_simp; try with_reducible rfl)⟩
              try simp only [Act.put, List.setIfInBounds_toArray, List.set_cons_zero, List.set_cons_succ]
              refine wpE_take (i := 11) (oi := ?oi11) (v := ?v11) ?hi11 (by kernel_rfl) (by kernel_rfl) (by kernel_rfl) (by kernel_rfl) ?hQ11 ?hy11 (by assumption) ?rest11
              case hi11 => (simp only [List.getElem?_toArray]; rfl)
              case hQ11 => exact fun _ _ _ h => h
              case hy11 => exact Or.inl ⟨by rfl, by (intro w hSw; (try dsimp only at hSw); go_simp; try with_reducible rfl)⟩
              try simp only [Act.put, List.setIfInBounds_toArray, List.set_cons_zero, List.set_cons_succ]
              refine wpE_take (i := 12) (oi := ?oi12) (v := ?v12) ?hi12 (by kernel_rfl) (by kernel_rfl) (by kernel_rfl) (by kernel_rfl) ?hQ12 ?hy12 (by assumption) ?rest12
              case hi12 => (simp only [List.getElem?_toArray]; rfl)
              case hQ12 => exact fun _ _ _ h => h
              case hy12 => exact Or.inl ⟨by rfl, by (intro w hSw; (try dsimp only at hSw); go_simp; try with_reducible rfl)⟩
              try simp only [Act.put, List.setIfInBounds_toArray, List.set_cons_zero, List.set_cons_succ]
              refine wpE_take (i := 13) (oi := ?oi13) (v := ?v13) ?hi13 (by kernel_rfl) (by kernel_rfl) (by kernel_rfl) (by kernel_rfl) ?hQ13 ?hy13 (by assumption) ?rest13
              case hi13 => (simp only [List.getElem?_toArray]; rfl)
              case hQ13 => exact fun _ _ _ h => h
              case hy13 => exact Or.inl ⟨by rfl, by (intro w hSw; (try dsimp only at hSw); go_simp; try with_reducible rfl)⟩
              try simp only [Act.put, List.setIfInBounds_toArray, List.set_cons_zero, List.set_cons_succ]
              refine wpE_take (i := 14) (oi := ?oi14) (v := ?v14) ?hi14 (by kernel_rfl) (by kernel_rfl) (by kernel_rfl) (by kernel_rfl) ?hQ14 ?hy14 (by assumption) ?rest14
              case hi14 => (simp only [List.getElem?_toArray]; rfl)
              case hQ14 => exact fun _ _ _ h => h
              case hy14 => exact Or.inl ⟨by rfl, by (intro w hSw; (try dsimp only at hSw); go_simp; try with_reducible rfl)⟩
              try simp only [Act.put, List.setIfInBounds_toArray, List.set_cons_zero, List.set_cons_succ]
              refine wpE_take (i := 15) (oi := ?oi15) (v := ?v15) ?hi15 (by kernel_rfl) (by kernel_rfl) (by kernel_rfl) (by kernel_rfl) ?hQ15 ?hy15 (by assumption) ?rest15
              case hi15 => (simp only [List.getElem?_toArray]; rfl)
              case hQ15 => exact fun _ _ _ h => h
              case hy15 => exact Or.inl ⟨by rfl, by (intro w hSw; (try dsimp only at hSw); go_simp; try with_reducible rfl)⟩
              try simp only [Act.put, List.setIfInBounds_toArray, List.set_cons_zero, List.set_cons_succ]
              refine wpE_one (i := 7) (o := ?o17) ?ho17 (by kernel_rfl) (fun K hK => ?_)
              case ho17 => (simp only [List.getElem?_toArray]; rfl)
              go_simp
              go_at_call 20
              have OZ : Hid (OB2 W wy.drew pa pb La' Lb') := Lib.hid (OY.out.below (Below.drewN_of wy 1))
              have hata := ob_at OZ.out.a (j : Int) vp
              rw [HA.out] at hata
              refine hata.mono ?_
              rintro e w8 ⟨v, rfl, hr, hb⟩
              obtain ⟨ta, tc, rfl, _, hrd⟩ := hr.rd
              have O8 := Lib.hid (OZ.out.below hb)
              have hbw := (Below.drewN_of wy 1).trans (hb.mono (Below.drewN_of wy 1).size)
              have c8 := HC.out w8 hbw
              have BW8 : Hid (Below wy.heap.size wy w8) := Lib.hid hbw
              have T8 := Lib.hid hrd
              clear hr hrd hb hbw hata OY OZ
              refine hK.out _ _ ⟨c8.1.1, c8.2.1⟩ (fun hHeld => ?_)
              clear hK K c8
              refine wpE_one (i := 16) (o := ?o18) ?ho18 (by kernel_rfl) (fun K hK => ?_)
              case ho18 => (simp only [List.getElem?_toArray]; rfl)
              go_simp
              go_at_call 20
              have hatb := ob_at O8.out.b (3 - (j : Int)) (-vp)
              rw [HAT.out] at hatb
              try rw [show IntKind.i64.wrap (3 - (j : Int)) = 3 - (j : Int) from IntWalk.i64_in _ (by omega)]
              refine hatb.mono ?_
              rintro e w9 ⟨v, rfl, hr, hb⟩
              obtain ⟨ua, uc, rfl, _, hrd⟩ := hr.rd
              rw [List.length_map]
              have hbw := BW8.out.trans (hb.mono BW8.out.size)
              have BW9 : Hid (Below wy.heap.size wy w9) := Lib.hid hbw
              have c9 := HC.out w9 hbw
              have T9 := Lib.hid (T8.out.below hb)
              have U9 := Lib.hid hrd
              clear hr hrd hb hbw hatb T8 BW8 O8
              refine hK.out _ _ ⟨c9.1.1, c9.2.1⟩ (fun hHeld => ?_)
              clear hK K
              refine wpE_take (i := 17) (oi := ?oi16) (v := ?v16) ?hi16 (by kernel_rfl) (by kernel_rfl) (by kernel_rfl) (by kernel_rfl) ?hQ16 ?hy16 (by assumption) ?rest16
              case hi16 => (simp only [List.getElem?_toArray]; rfl)
              case hQ16 => exact fun _ _ _ h => h
              case hy16 => exact Or.inl ⟨by rfl, by (intro w hSw; (try dsimp only at hSw); go_simp; try with_reducible rfl)⟩
              try simp only [Act.put, List.setIfInBounds_toArray, List.set_cons_zero, List.set_cons_succ]
              refine wpE_last (i := 18) (o := ?o19) ?ho19 (by kernel_rfl) (by kernel_rfl) (by kernel_rfl) (fun K hK => ?_)
              case ho19 => (simp only [List.getElem?_toArray]; rfl)
              go_simp
              refine hK.out _ _ ?_
              clear hK K hHeld
              obtain ⟨⟨p0, p1, p2⟩, r0, r1, r2⟩ := c9
              as_aux_lemma =>
              go_upto_region 27 with (fail)
              go_quiet (fail)
              clear p0 p1 p2 r0 r1 r2
              go_wp2_with fail
              as_aux_lemma =>
              go_loopw [16] (fun n w' => ∃ n' : Nat, n = .int .i64 n' ∧ n' ≤ A.length ∧ Below w9.heap.size w9 w') (fun n _ => A.length - (intOf n).toNat)
              case atStart => exact ⟨0, rfl, Nat.zero_le _, Below.drewN_of _ _⟩
              case round =>
                obtain ⟨n, rfl, hn, hb⟩ := hrel
                obtain ⟨wz, rfl⟩ : ∃ wo : World, wo = wr := ⟨_, rfl⟩
                have BZ := Lib.hid hb
                clear hb
                by_cases hnn : n < A.length
                · have hnn' : (n : Int) < (A.length : Int) := by omega
                  obtain ⟨o, ho⟩ : ∃ o, A[n]? = some o := ⟨_, List.getElem?_eq_getElem hnn⟩
                  have ho2 : (A.map mir)[n]? = some (mir o) := by rw [List.getElem?_map, ho]; rfl
                  obtain ⟨gt, ot, rfl, hgt, hct⟩ := T9.out.below BZ.out n _ ho
                  obtain ⟨gu, ou, rfl, hgu, hcu⟩ := U9.out.below BZ.out n _ ho2
                  obtain ⟨oi, hoi⟩ : ∃ y, o.id = y := ⟨_, rfl⟩
                  obtain ⟨oq, hoq⟩ : ∃ y, o.qty = y := ⟨_, rfl⟩
                  obtain ⟨op, hop⟩ : ∃ y, o.top = y := ⟨_, rfl⟩
                  have d0 : wz.cell? ⟨gt, ot + n * 5, none⟩ = some (.int .i64 oi) := hoi ▸ hct 0 _ rfl
                  have d3 : wz.cell? ⟨gt, ot + n * 5 + 3, none⟩ = some (.int .i64 oq) := hoq ▸ hct 3 _ rfl
                  have d4 : wz.cell? ⟨gt, ot + n * 5 + 4, none⟩ = some (.bool op) := hop ▸ hct 4 _ rfl
                  have e0 : wz.cell? ⟨gu, ou + n * 5, none⟩ = some (.int .i64 oi) := hoi ▸ hcu 0 _ rfl
                  have e3 : wz.cell? ⟨gu, ou + n * 5 + 3, none⟩ = some (.int .i64 oq) := hoq ▸ hcu 3 _ rfl
                  have e4 : wz.cell? ⟨gu, ou + n * 5 + 4, none⟩ = some (.bool op) := hop ▸ hcu 4 _ rfl
                  clear ho ho2 hgt hct hgu hcu hoi hoq hop
                  go_upto_region 32 with (fail)
                  go_quiet (fail)
                  clear d0 d3 d4 e0 e3 e4
                  go_wp2_with fail
                  go_roundw
                  case rel => exact ⟨n + 1, by go_num, by omega, BZ.out.trans ((Below.drewN_of _ _).mono BZ.out.size)⟩
                  case measure => simp [intOf]; omega
                · have HBW := Lib.hid (HBL.out.trans ((BW9.out.trans (BZ.out.mono BW9.out.size)).mono HBL.out.size))
                  go_wp2_with fail
                  go_roundw
                  case rel => exact ⟨i + 1, by go_num, by omega, HBW.out⟩
                  case measure => simp [intOf]; omega
            · go_wp2_with fail
              go_roundw
              case rel => exact ⟨j + 1, by go_num, by omega, by omega, B7.out.trans (HBL.out.mono B7.out.size)⟩
              case measure => simp [intOf]; omega
        · go_wp2_with fail
          go_roundw
          case rel => exact ⟨k + 1, by go_num, by omega, La', Lb', OU.out, M5.out⟩
          case measure => simp [intOf]; omega
    · go_wp2_with fail
      all_goals
        refine (known_any9 _).mono ?_
        rintro e w7 ⟨rfl, hb⟩
        have HB7 := Lib.hid (O0.out.bel.trans (hb.mono O0.out.bel.size))
        clear hb
        go_wp2_with fail
        go_ret
        exact ⟨by trivial, HB7.out⟩
end Go.Proofs.Ytmhljdkhekjfmaa
