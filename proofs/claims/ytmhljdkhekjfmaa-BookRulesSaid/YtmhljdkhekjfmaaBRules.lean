/- The walk of cornhilllaw9.BookRules. -/
import Derived.Test.YtmhljdkhekjfmaaMG
import Derived.BigQuiet
import Derived.Deep.RegionHeld3
namespace Go.Proofs.Ytmhljdkhekjfmaa
open Go.RowKit

theorem findO_some {L : List Od} {id : Int} {o : Od} (h : findO L id = (o, true)) : L.find? (fun x => x.id == id) = some o ∧ o ∈ L ∧ o.id = id := by
  unfold findO at h
  cases hf : L.find? (fun x => x.id == id) with
  | none => rw [hf] at h; injection h with _ h; cases h
  | some x =>
    rw [hf] at h
    injection h with h _
    subst h
    exact ⟨rfl, List.mem_of_find?_eq_some hf, by simpa using List.find?_some hf⟩
theorem fill_good {L : List Od} {id qty : Int} {o : Od} (h : findO L id = (o, true)) (hq : 1 ≤ qty ∧ qty ≤ o.qty) : (refFill L o.id qty).2 = 0 := by
  obtain ⟨h1, _, h3⟩ := findO_some h
  rw [h3, refFill_some h1, if_neg (by omega)]
  split <;> rfl
set_option maxRecDepth 100000 in
set_option maxHeartbeats 16000000 in
theorem rules9 (q : Option Addr) (c : Nat) (l : List Ak) (W : World) (hR : AK.Rd W q l) (hok : ∀ x ∈ l, x.ok) :
    Calls Try.prog 9 #[.slice q l.length c] W fun e w' => e = .returned (.bool true) ∧ Below W.heap.size W w' := by
  have HR := Lib.hid hR
  have HOK := Lib.hid hok
  clear hR hok
  go_enter Try.func9, Try.ntmps9
  go_wp2_with fail
  refine (ob_new W W (Below.refl _ _)).mono ?_
  rintro e w1 ⟨pb, rfl, h, _⟩
  have O1 := Lib.hid h
  clear h
  go_wp2_with fail
  go_loopw [4] (fun i w' => ∃ k : Nat, i = .int .i64 k ∧ k ≤ 60 ∧ ∃ L, OB W w' pb L ∧ RInv L k) (fun i _ => 60 - (intOf i).toNat)
  case atStart => exact ⟨0, rfl, by omega, _, O1.out, RInv.nil⟩
  case round =>
    clear O1
    obtain ⟨k, rfl, hk, L, hO, hI⟩ := hrel
    obtain ⟨wo, rfl⟩ : ∃ wo : World, wo = wr := ⟨_, rfl⟩
    have O0 := Lib.hid hO
    have I0 := Lib.hid hI
    clear hO hI
    by_cases hlt : k < l.length ∧ k < 60
    · obtain ⟨hkn, hk60⟩ := hlt
      obtain ⟨x, hx⟩ : ∃ x, l[k]? = some x := ⟨_, List.getElem?_eq_getElem hkn⟩
      obtain ⟨b, off, rfl, hbl, ha⟩ := HR.out k x hx
      have hkl : (k : Int) < (l.length : Int) := by omega
      have XOK := Lib.hid (HOK.out x (List.mem_of_getElem? hx))
      have HC : Hid (∀ w', OB W w' pb L → CellsAt w' b (off + k * 5) x.cells) := Lib.hid fun w' ho => ha.below ho.bel hbl
      have HC2 : Hid (∀ w', Below W.heap.size W w' → CellsAt w' b (off + k * 5) x.cells) := Lib.hid fun w' hb => ha.below hb hbl
      have hc := HC.out wo O0.out
      have a1 : wo.cell? ⟨b, off + k * 5 + 1, none⟩ = some (.int .i64 x.side) := hc 1 _ rfl
      clear ha hbl hx
      obtain ⟨s, hs⟩ : ∃ s, 1 + withI x.side 0 1 = s := ⟨_, rfl⟩
      obtain ⟨p, hp⟩ : ∃ p, withI x.price 0 6 = p := ⟨_, rfl⟩
      obtain ⟨qt, hqt⟩ : ∃ y, 1 + withI x.qty 0 9 = y := ⟨_, rfl⟩
      have hs12 : s = 1 ∨ s = 2 := by have := withI_bd x.side 0 1 (by omega); omega
      have hqb : 1 ≤ qt ∧ qt ≤ 10 := by have := withI_bd x.qty 0 9 (by omega); omega
      have hpb := withI_bd x.price 0 6 (by omega)
      have HS := Lib.hid hs
      have HQT := Lib.hid hqt
      have HS12 := Lib.hid hs12
      have HQB := Lib.hid hqb
      have hw1 := within_any x.side 0 1 wo XOK.out.2.1.1 XOK.out.2.1.2 (by omega) (by omega) (by omega)
      have HW2 := Lib.hid fun w => within_any x.price 0 6 w XOK.out.2.2.2.1.1 XOK.out.2.2.2.1.2 (by omega) (by omega) (by omega)
      have HW3 := Lib.hid fun w => within_any x.qty 0 9 w XOK.out.2.2.2.2.1 XOK.out.2.2.2.2.2 (by omega) (by omega) (by omega)
      rw [hp] at HW2 hpb
      clear hs hp hs12 hqt hqb
      have hsb1 : 1 ≤ s := by have := HS12.out; omega
      have hsb2 : s ≤ 2 := by have := HS12.out; omega
      go_wp2_with fail
      refine hw1.mono ?_
      rintro e w2 ⟨rfl, rfl⟩
      have hs := HS.out
      clear hw1
      go_upto_region 8 with (fail)
      clear hs a1
      have a3 : wo.cell? ⟨b, off + k * 5 + 3, none⟩ = some (.int .i64 x.price) := hc 3 _ rfl
      have a4 : wo.cell? ⟨b, off + k * 5 + 4, none⟩ = some (.int .i64 x.qty) := hc 4 _ rfl
      clear hc
      refine wp_region_E (S := fun w' => w'.cell? ⟨b, off + k * 5 + 3, none⟩ = some (.int .i64 x.price) ∧ w'.cell? ⟨b, off + k * 5 + 4, none⟩ = some (.int .i64 x.qty)) (by kernel_rfl) ⟨a3, a4⟩ (fun hHeld => ?_)
      refine wpE_take (i := 0) (oi := ?oi1) (v := ?v1) ?hi1 (by kernel_rfl) (by kernel_rfl) (by kernel_rfl) (by kernel_rfl) ?hQ1 ?hy1 (by assumption) ?rest1
      case hi1 => (simp only [List.getElem?_toArray]; rfl)
      case hQ1 => exact fun _ _ _ h => h
      case hy1 => exact Or.inl ⟨by rfl, by (intro w hSw; (try dsimp only at hSw); go_simp; try with_reducible rfl)⟩
      try simp only [Act.put, List.setIfInBounds_toArray, List.set_cons_zero, List.set_cons_succ]
      refine wpE_take (i := 1) (oi := ?oi2) (v := ?v2) ?hi2 (by kernel_rfl) (by kernel_rfl) (by kernel_rfl) (by kernel_rfl) ?hQ2 ?hy2 (by assumption) ?rest2
      case hi2 => (simp only [List.getElem?_toArray]; rfl)
      case hQ2 => exact fun _ _ _ h => h
      case hy2 => exact Or.inl ⟨by rfl, by (intro w hSw; (try dsimp only at hSw); go_simp; try with_reducible rfl)⟩
      try simp only [Act.put, List.setIfInBounds_toArray, List.set_cons_zero, List.set_cons_succ]
      refine wpE_take (i := 2) (oi := ?oi3) (v := ?v3) ?hi3 (by kernel_rfl) (by kernel_rfl) (by kernel_rfl) (by kernel_rfl) ?hQ3 ?hy3 (by assumption) ?rest3
      case hi3 => (simp only [List.getElem?_toArray]; rfl)
      case hQ3 => exact fun _ _ _ h => h
      case hy3 => exact Or.inl ⟨by rfl, by (intro w hSw; (try dsimp only at hSw); go_simp; try with_reducible rfl)⟩
      try simp only [Act.put, List.setIfInBounds_toArray, List.set_cons_zero, List.set_cons_succ]
      refine wpE_take (i := 3) (oi := ?oi4) (v := ?v4) ?hi4 (by kernel_rfl) (by kernel_rfl) (by kernel_rfl) (by kernel_rfl) ?hQ4 ?hy4 (by assumption) ?rest4
      case hi4 => (simp only [List.getElem?_toArray]; rfl)
      case hQ4 => exact fun _ _ _ h => h
      case hy4 => exact Or.inl ⟨by rfl, by (intro w hSw; (try dsimp only at hSw); go_simp; try with_reducible rfl)⟩
      try simp only [Act.put, List.setIfInBounds_toArray, List.set_cons_zero, List.set_cons_succ]
      refine wpE_take (i := 4) (oi := ?oi5) (v := ?v5) ?hi5 (by kernel_rfl) (by kernel_rfl) (by kernel_rfl) (by kernel_rfl) ?hQ5 ?hy5 (by assumption) ?rest5
      case hi5 => (simp only [List.getElem?_toArray]; rfl)
      case hQ5 => exact fun _ _ _ h => h
      case hy5 => exact Or.inl ⟨by rfl, by (intro w hSw; (try dsimp only at hSw); go_simp; try with_reducible rfl)⟩
      try simp only [Act.put, List.setIfInBounds_toArray, List.set_cons_zero, List.set_cons_succ]
      refine wpE_take (i := 5) (oi := ?oi6) (v := ?v6) ?hi6 (by kernel_rfl) (by kernel_rfl) (by kernel_rfl) (by kernel_rfl) ?hQ6 ?hy6 (by assumption) ?rest6
      case hi6 => (simp only [List.getElem?_toArray]; rfl)
      case hQ6 => exact fun _ _ _ h => h
      case hy6 => exact Or.inl ⟨by rfl, by (intro w hSw; (try dsimp only at hSw); go_simp; try with_reducible rfl)⟩
      try simp only [Act.put, List.setIfInBounds_toArray, List.set_cons_zero, List.set_cons_succ]
      refine wpE_take (i := 6) (oi := ?oi7) (v := ?v7) ?hi7 (by kernel_rfl) (by kernel_rfl) (by kernel_rfl) (by kernel_rfl) ?hQ7 ?hy7 (by assumption) ?rest7
      case hi7 => (simp only [List.getElem?_toArray]; rfl)
      case hQ7 => exact fun _ _ _ h => h
      case hy7 => exact Or.inl ⟨by rfl, by (intro w hSw; (try dsimp only at hSw); go_simp; try with_reducible rfl)⟩
      try simp only [Act.put, List.setIfInBounds_toArray, List.set_cons_zero, List.set_cons_succ]
      refine wpE_take (i := 7) (oi := ?oi8) (v := ?v8) ?hi8 (by kernel_rfl) (by kernel_rfl) (by kernel_rfl) (by kernel_rfl) ?hQ8 ?hy8 (by assumption) ?rest8
      case hi8 => (simp only [List.getElem?_toArray]; rfl)
      case hQ8 => exact fun _ _ _ h => h
      case hy8 => exact Or.inl ⟨by rfl, by (intro w hSw; (try dsimp only at hSw); go_simp; try with_reducible rfl)⟩
      try simp only [Act.put, List.setIfInBounds_toArray, List.set_cons_zero, List.set_cons_succ]
      refine wpE_take (i := 9) (oi := ?oi9) (v := ?v9) ?hi9 (by kernel_rfl) (by kernel_rfl) (by kernel_rfl) (by kernel_rfl) ?hQ9 ?hy9 (by assumption) ?rest9
      case hi9 => (simp only [List.getElem?_toArray]; rfl)
      case hQ9 => exact fun _ _ _ h => h
      case hy9 => exact Or.inl ⟨by rfl, by (intro w hSw; (try dsimp only at hSw); go_simp; try with_reducible rfl)⟩
      try simp only [Act.put, List.setIfInBounds_toArray, List.set_cons_zero, List.set_cons_succ]
      refine wpE_take (i := 10) (oi := ?oi10) (v := ?v10) ?hi10 (by kernel_rfl) (by kernel_rfl) (by kernel_rfl) (by kernel_rfl) ?hQ10 ?hy10 (by assumption) ?rest10
      case hi10 => (simp only [List.getElem?_toArray]; rfl)
      case hQ10 => exact fun _ _ _ h => h
      case hy10 => exact Or.inl ⟨by rfl, by (intro w hSw; (try dsimp only at hSw); go_simp; try with_reducible rfl)⟩
      try simp only [Act.put, List.setIfInBounds_toArray, List.set_cons_zero, List.set_cons_succ]
      refine wpE_take (i := 11) (oi := ?oi11) (v := ?v11) ?hi11 (by kernel_rfl) (by kernel_rfl) (by kernel_rfl) (by kernel_rfl) ?hQ11 ?hy11 (by assumption) ?rest11
      case hi11 => (simp only [List.getElem?_toArray]; rfl)
      case hQ11 => exact fun _ _ _ h => h
      case hy11 => exact Or.inl ⟨by rfl, by (intro w hSw; (try dsimp only at hSw); go_simp; try with_reducible rfl)⟩
      try simp only [Act.put, List.setIfInBounds_toArray, List.set_cons_zero, List.set_cons_succ]
      refine wpE_take (i := 12) (oi := ?oi12) (v := ?v12) ?hi12 (by kernel_rfl) (by kernel_rfl) (by kernel_rfl) (by kernel_rfl) ?hQ12 ?hy12 (by assumption) ?rest12
      case hi12 => (simp only [List.getElem?_toArray]; rfl)
      case hQ12 => exact fun _ _ _ h => h
      case hy12 => exact Or.inl ⟨by rfl, by (intro w hSw; (try dsimp only at hSw); go_simp; try with_reducible rfl)⟩
      try simp only [Act.put, List.setIfInBounds_toArray, List.set_cons_zero, List.set_cons_succ]
      refine wpE_take (i := 13) (oi := ?oi13) (v := ?v13) ?hi13 (by kernel_rfl) (by kernel_rfl) (by kernel_rfl) (by kernel_rfl) ?hQ13 ?hy13 (by assumption) ?rest13
      case hi13 => (simp only [List.getElem?_toArray]; rfl)
      case hQ13 => exact fun _ _ _ h => h
      case hy13 => exact Or.inl ⟨by rfl, by (intro w hSw; (try dsimp only at hSw); go_simp; try with_reducible rfl)⟩
      try simp only [Act.put, List.setIfInBounds_toArray, List.set_cons_zero, List.set_cons_succ]
      refine wpE_one (i := 8) (o := ?o30) ?ho30 (by kernel_rfl) (fun K hK => ?_)
      case ho30 => (simp only [List.getElem?_toArray]; rfl)
      go_simp
      go_at_call 11
      have O1 : Hid (OB W wo.drew pb L) := Lib.hid (O0.out.below (Below.drewN_of wo 1))
      have hc1 := HC.out wo.drew O1.out
      refine (HW2.out wo.drew).mono ?_
      rintro e w2 ⟨rfl, rfl⟩
      refine hK.out _ _ ⟨hc1 3 _ rfl, hc1 4 _ rfl⟩ (fun hHeld => ?_)
      clear hK K
      refine wpE_one (i := 14) (o := ?o31) ?ho31 (by kernel_rfl) (fun K hK => ?_)
      case ho31 => (simp only [List.getElem?_toArray]; rfl)
      go_simp
      go_at_call 11
      refine (HW3.out _).mono ?_
      rintro e w2 ⟨rfl, rfl⟩
      refine hK.out _ _ ⟨hc1 3 _ rfl, hc1 4 _ rfl⟩ (fun hHeld => ?_)
      clear hK K
      have hqe := HQT.out
      have hq1 : 1 ≤ qt := HQB.out.1
      have hq2 : qt ≤ 10 := HQB.out.2
      refine wpE_take (i := 15) (oi := ?oi14) (v := ?v14) ?hi14 (by kernel_rfl) (by kernel_rfl) (by kernel_rfl) (by kernel_rfl) ?hQ14 ?hy14 (by assumption) ?rest14
      case hi14 => (simp only [List.getElem?_toArray]; rfl)
      case hQ14 => exact fun _ _ _ h => h
      case hy14 => exact Or.inl ⟨by rfl, by (intro w hSw; (try dsimp only at hSw); go_simp; try with_reducible rfl)⟩
      try simp only [Act.put, List.setIfInBounds_toArray, List.set_cons_zero, List.set_cons_succ]
      clear hqe
      have HR9 := Lib.hid (I0.out.add hk60 O0.out.sorted HS12.out p (qty := qt) (by have := HQB.out; omega))
      refine wpE_last (i := 16) (o := ?o34) ?ho34 (by kernel_rfl) (by kernel_rfl) (by kernel_rfl) (fun K hK => ?_)
      case ho34 => (simp only [List.getElem?_toArray]; rfl)
      go_simp
      go_at_call 13
      rw [show IntKind.i64.wrap qt = qt from IntWalk.i64_in _ (by omega)]
      refine (ob_add O1.out (k : Int) s p qt).mono ?_
      rintro e w3 ⟨rfl, hO, _⟩
      have O2 := Lib.hid hO
      refine hK.out _ _ ?_
      clear hK K hO hHeld O1 hc1 HC a3 a4
      obtain ⟨L2, hL2⟩ : ∃ L2, (refAdd L (k : Int) s p qt).1 = L2 := ⟨_, rfl⟩
      rw [hL2] at O2 HR9
      clear hL2
      have hc2 := HC2.out _ O2.out.bel
      have a0 : w3.cell? ⟨b, off + k * 5, none⟩ = some (.int .i64 x.kind) := hc2 0 _ rfl
      have a2 : w3.cell? ⟨b, off + k * 5 + 2, none⟩ = some (.int .i64 x.id) := hc2 2 _ rfl
      have x0 := XOK.out.1
      unfold i64ok at x0
      clear hc2 O0 I0 HS HQT HS12 HQB HW2 hpb hsb1 hsb2 hq1 hq2
      as_aux_lemma =>
      go_upto_if 59 with (fail)
      clear a0 x0
      obtain ⟨m, hm⟩ : ∃ m, x.kind.tmod 3 = m := ⟨_, rfl⟩
      rw [hm]
      clear hm
      as_aux_lemma =>
      by_cases hm : m = 0
      · subst hm
        have hwi := fun w => within_any x.id 0 k w XOK.out.2.2.1.1 XOK.out.2.2.1.2 (by omega) (by omega) (by omega)
        go_wp2_with fail
        refine (hwi _).mono ?_
        rintro e w5 ⟨rfl, rfl⟩
        clear hwi a2
        obtain ⟨wi, hwi⟩ : ∃ y, withI x.id 0 k = y := ⟨_, rfl⟩
        rw [hwi]
        clear hwi
        have hfd := ob_find O2.out wi
        obtain ⟨⟨⟨fi, fs, fp, fq, ft⟩, is⟩, hfo⟩ : ∃ y, findO L2 wi = y := ⟨_, rfl⟩
        have HFO := Lib.hid hfo
        rw [hfo] at hfd
        rw [show ((⟨fi, fs, fp, fq, ft⟩, is) : Od × Bool).1.cells.toArray = #[.int .i64 fi, .int .i64 fs, .int .i64 fp, .int .i64 fq, .bool ft] from rfl] at hfd
        clear hfo
        go_wp2_with fail
        refine hfd.mono ?_
        rintro e w5 ⟨rfl, hb⟩
        clear hfd
        have hb5 := hb.trans ((Below.allocN w5 (.cells #[.int .i64 fi, .int .i64 fs, .int .i64 fp, .int .i64 fq, .bool ft] 39)).mono hb.size)
        have hfb : Blk (w5.alloc (.cells #[.int .i64 fi, .int .i64 fs, .int .i64 fp, .int .i64 fq, .bool ft] 39)) w5.heap.size 39 #[.int .i64 fi, .int .i64 fs, .int .i64 fp, .int .i64 fq, .bool ft] := Blk.new _ _ _
        have O5 := Lib.hid (O2.out.below hb5)
        as_aux_lemma =>
        go_upto_region 11 with (fail)
        clear hb hb5 O2
        obtain ⟨gl, hgl⟩ : ∃ gl, w5.heap.size = gl := ⟨_, rfl⟩
        rw [hgl] at hfb ⊢
        clear hgl
        generalize w5.alloc (.cells #[.int .i64 fi, .int .i64 fs, .int .i64 fp, .int .i64 fq, .bool ft] 39) = w6 at *
        have FB := Lib.hid hfb
        clear hfb
        as_aux_lemma =>
        cases is with
        | false =>
          go_quiet (fail)
          go_wp2_with fail
          go_roundw
          case rel => exact ⟨k + 1, by go_num, by omega, _, O5.out.below (Below.drewN_of _ _), HR9.out⟩
          case measure => simp [intOf]; omega
        | true =>
          have hfq := O5.out.qty (findO_some HFO.out).2.1
          have hf1 : 1 ≤ fq := hfq.1
          have hf2 : fq ≤ 1000000 := hfq.2
          clear hfq
          have hwb := withI_bd x.qty 0 (fq - 1) (by omega)
          have HWQ := Lib.hid fun w => within_any x.qty 0 (fq - 1) w XOK.out.2.2.2.2.1 XOK.out.2.2.2.2.2 (by omega) (by omega) (by omega)
          obtain ⟨wq, hwq⟩ : ∃ y, withI x.qty 0 (fq - 1) = y := ⟨_, rfl⟩
          rw [hwq] at HWQ hwb
          clear hwq
          have hw1 : 0 ≤ wq := hwb.1
          have hw2 : wq ≤ 1000000 := by omega
          have HFG : Hid ((refFill L2 fi (1 + wq)).2 = 0) := Lib.hid (fill_good HFO.out (by dsimp only; omega))
          clear hwb
          have c6 := HC2.out _ O5.out.bel
          have c4 : w6.cell? ⟨b, off + k * 5 + 4, none⟩ = some (.int .i64 x.qty) := c6 4 _ rfl
          refine wp_region_E (S := fun w' => w'.cell? ⟨gl, 0, none⟩ = some (.int .i64 fi) ∧ w'.cell? ⟨gl, 3, none⟩ = some (.int .i64 fq) ∧ w'.cell? ⟨b, off + k * 5 + 4, none⟩ = some (.int .i64 x.qty)) (by kernel_rfl) ⟨FB.out.cell 0, FB.out.cell 3, c4⟩ (fun hHeld => ?_)
          clear c6 c4
          refine wpE_take (i := 0) (oi := ?oi15) (v := ?v15) ?hi15 (by kernel_rfl) (by kernel_rfl) (by kernel_rfl) (by kernel_rfl) ?hQ15 ?hy15 (by assumption) ?rest15
          case hi15 => (simp only [List.getElem?_toArray]; rfl)
          case hQ15 => exact fun _ _ _ h => h
          case hy15 => exact Or.inl ⟨by rfl, by (intro w hSw; (try dsimp only at hSw); go_simp; try with_reducible rfl)⟩
          try simp only [Act.put, List.setIfInBounds_toArray, List.set_cons_zero, List.set_cons_succ]
          refine wpE_take (i := 1) (oi := ?oi16) (v := ?v16) ?hi16 (by kernel_rfl) (by kernel_rfl) (by kernel_rfl) (by kernel_rfl) ?hQ16 ?hy16 (by assumption) ?rest16
          case hi16 => (simp only [List.getElem?_toArray]; rfl)
          case hQ16 => exact fun _ _ _ h => h
          case hy16 => exact Or.inl ⟨by rfl, by (intro w hSw; (try dsimp only at hSw); go_simp; try with_reducible rfl)⟩
          try simp only [Act.put, List.setIfInBounds_toArray, List.set_cons_zero, List.set_cons_succ]
          refine wpE_take (i := 2) (oi := ?oi17) (v := ?v17) ?hi17 (by kernel_rfl) (by kernel_rfl) (by kernel_rfl) (by kernel_rfl) ?hQ17 ?hy17 (by assumption) ?rest17
          case hi17 => (simp only [List.getElem?_toArray]; rfl)
          case hQ17 => exact fun _ _ _ h => h
          case hy17 => exact Or.inl ⟨by rfl, by (intro w hSw; (try dsimp only at hSw); go_simp; try with_reducible rfl)⟩
          try simp only [Act.put, List.setIfInBounds_toArray, List.set_cons_zero, List.set_cons_succ]
          refine wpE_take (i := 3) (oi := ?oi18) (v := ?v18) ?hi18 (by kernel_rfl) (by kernel_rfl) (by kernel_rfl) (by kernel_rfl) ?hQ18 ?hy18 (by assumption) ?rest18
          case hi18 => (simp only [List.getElem?_toArray]; rfl)
          case hQ18 => exact fun _ _ _ h => h
          case hy18 => exact Or.inl ⟨by rfl, by (intro w hSw; (try dsimp only at hSw); go_simp; try with_reducible rfl)⟩
          try simp only [Act.put, List.setIfInBounds_toArray, List.set_cons_zero, List.set_cons_succ]
          refine wpE_take (i := 4) (oi := ?oi19) (v := ?v19) ?hi19 (by kernel_rfl) (by kernel_rfl) (by kernel_rfl) (by kernel_rfl) ?hQ19 ?hy19 (by assumption) ?rest19
          case hi19 => (simp only [List.getElem?_toArray]; rfl)
          case hQ19 => exact fun _ _ _ h => h
          case hy19 => exact Or.inl ⟨by rfl, by (intro w hSw; (try dsimp only at hSw); go_simp; try with_reducible rfl)⟩
          try simp only [Act.put, List.setIfInBounds_toArray, List.set_cons_zero, List.set_cons_succ]
          refine wpE_take (i := 5) (oi := ?oi20) (v := ?v20) ?hi20 (by kernel_rfl) (by kernel_rfl) (by kernel_rfl) (by kernel_rfl) ?hQ20 ?hy20 (by assumption) ?rest20
          case hi20 => (simp only [List.getElem?_toArray]; rfl)
          case hQ20 => exact fun _ _ _ h => h
          case hy20 => exact Or.inl ⟨by rfl, by (intro w hSw; (try dsimp only at hSw); go_simp; try with_reducible rfl)⟩
          try simp only [Act.put, List.setIfInBounds_toArray, List.set_cons_zero, List.set_cons_succ]
          refine wpE_take (i := 6) (oi := ?oi21) (v := ?v21) ?hi21 (by kernel_rfl) (by kernel_rfl) (by kernel_rfl) (by kernel_rfl) ?hQ21 ?hy21 (by assumption) ?rest21
          case hi21 => (simp only [List.getElem?_toArray]; rfl)
          case hQ21 => exact fun _ _ _ h => h
          case hy21 => exact Or.inl ⟨by rfl, by (intro w hSw; (try dsimp only at hSw); go_simp; try with_reducible rfl)⟩
          try simp only [Act.put, List.setIfInBounds_toArray, List.set_cons_zero, List.set_cons_succ]
          refine wpE_take (i := 7) (oi := ?oi22) (v := ?v22) ?hi22 (by kernel_rfl) (by kernel_rfl) (by kernel_rfl) (by kernel_rfl) ?hQ22 ?hy22 (by assumption) ?rest22
          case hi22 => (simp only [List.getElem?_toArray]; rfl)
          case hQ22 => exact fun _ _ _ h => h
          case hy22 => exact Or.inl ⟨by rfl, by (intro w hSw; (try dsimp only at hSw); go_simp; try with_reducible rfl)⟩
          try simp only [Act.put, List.setIfInBounds_toArray, List.set_cons_zero, List.set_cons_succ]
          refine wpE_take (i := 8) (oi := ?oi23) (v := ?v23) ?hi23 (by kernel_rfl) (by kernel_rfl) (by kernel_rfl) (by kernel_rfl) ?hQ23 ?hy23 (by assumption) ?rest23
          case hi23 => (simp only [List.getElem?_toArray]; rfl)
          case hQ23 => exact fun _ _ _ h => h
          case hy23 => exact Or.inl ⟨by rfl, by (intro w hSw; (try dsimp only at hSw); go_simp; try with_reducible rfl)⟩
          try simp only [Act.put, List.setIfInBounds_toArray, List.set_cons_zero, List.set_cons_succ]
          refine wpE_take (i := 9) (oi := ?oi24) (v := ?v24) ?hi24 (by kernel_rfl) (by kernel_rfl) (by kernel_rfl) (by kernel_rfl) ?hQ24 ?hy24 (by assumption) ?rest24
          case hi24 => (simp only [List.getElem?_toArray]; rfl)
          case hQ24 => exact fun _ _ _ h => h
          case hy24 => exact Or.inl ⟨by rfl, by (intro w hSw; (try dsimp only at hSw); go_simp; try with_reducible rfl)⟩
          try simp only [Act.put, List.setIfInBounds_toArray, List.set_cons_zero, List.set_cons_succ]
          refine wpE_take (i := 10) (oi := ?oi25) (v := ?v25) ?hi25 (by kernel_rfl) (by kernel_rfl) (by kernel_rfl) (by kernel_rfl) ?hQ25 ?hy25 (by assumption) ?rest25
          case hi25 => (simp only [List.getElem?_toArray]; rfl)
          case hQ25 => exact fun _ _ _ h => h
          case hy25 => exact Or.inl ⟨by rfl, by (intro w hSw; (try dsimp only at hSw); go_simp; try with_reducible rfl)⟩
          try simp only [Act.put, List.setIfInBounds_toArray, List.set_cons_zero, List.set_cons_succ]
          refine wpE_take (i := 11) (oi := ?oi26) (v := ?v26) ?hi26 (by kernel_rfl) (by kernel_rfl) (by kernel_rfl) (by kernel_rfl) ?hQ26 ?hy26 (by assumption) ?rest26
          case hi26 => (simp only [List.getElem?_toArray]; rfl)
          case hQ26 => exact fun _ _ _ h => h
          case hy26 => exact Or.inl ⟨by rfl, by (intro w hSw; (try dsimp only at hSw); go_simp; try with_reducible rfl)⟩
          try simp only [Act.put, List.setIfInBounds_toArray, List.set_cons_zero, List.set_cons_succ]
          refine wpE_take (i := 12) (oi := ?oi27) (v := ?v27) ?hi27 (by kernel_rfl) (by kernel_rfl) (by kernel_rfl) (by kernel_rfl) ?hQ27 ?hy27 (by assumption) ?rest27
          case hi27 => (simp only [List.getElem?_toArray]; rfl)
          case hQ27 => exact fun _ _ _ h => h
          case hy27 => exact Or.inl ⟨by rfl, by (intro w hSw; (try dsimp only at hSw); go_simp; try with_reducible rfl)⟩
          try simp only [Act.put, List.setIfInBounds_toArray, List.set_cons_zero, List.set_cons_succ]
          refine wpE_one (i := 13) (o := ?o32) ?ho32 (by kernel_rfl) (fun K hK => ?_)
          case ho32 => (simp only [List.getElem?_toArray]; rfl)
          go_simp
          go_at_call 11
          have O6 : Hid (OB W w6.drew pb L2) := Lib.hid (O5.out.below (Below.drewN_of w6 1))
          have FB6 := Lib.hid (FB.out.below (Below.drewN_of w6 1))
          try rw [show IntKind.i64.wrap (fq - 1) = fq - 1 from IntWalk.i64_in _ (by omega)]
          refine (HWQ.out _).mono ?_
          rintro e w7 ⟨rfl, rfl⟩
          refine hK.out _ _ hHeld (fun hHeld => ?_)
          clear hK K
          refine wpE_take (i := 14) (oi := ?oi28) (v := ?v28) ?hi28 (by kernel_rfl) (by kernel_rfl) (by kernel_rfl) (by kernel_rfl) ?hQ28 ?hy28 (by assumption) ?rest28
          case hi28 => (simp only [List.getElem?_toArray]; rfl)
          case hQ28 => exact fun _ _ _ h => h
          case hy28 => exact Or.inl ⟨by rfl, by (intro w hSw; (try dsimp only at hSw); go_simp; try with_reducible rfl)⟩
          try simp only [Act.put, List.setIfInBounds_toArray, List.set_cons_zero, List.set_cons_succ]
          refine wpE_one (i := 15) (o := ?o33) ?ho33 (by kernel_rfl) (fun K hK => ?_)
          case ho33 => (simp only [List.getElem?_toArray]; rfl)
          go_simp
          go_at_call 14
          try rw [show IntKind.i64.wrap (1 + wq) = 1 + wq from IntWalk.i64_in _ (by omega)]
          refine (ob_fill O6.out fi (1 + wq)).mono ?_
          rintro e w7 ⟨rfl, hO, hkp⟩
          rw [HFG.out]
          have O7 := Lib.hid hO
          have FB7 := Lib.hid (FB6.out.fb hkp (by decide))
          have c7 := HC2.out _ O7.out.bel
          clear hO hkp
          refine hK.out _ _ ⟨FB7.out.cell 0, FB7.out.cell 3, c7 4 _ rfl⟩ (fun hHeld => ?_)
          clear hK K c7
          refine wpE_take (i := 16) (oi := ?oi29) (v := ?v29) ?hi29 (by kernel_rfl) (by kernel_rfl) (by kernel_rfl) (by kernel_rfl) ?hQ29 ?hy29 (by assumption) ?rest29
          case hi29 => (simp only [List.getElem?_toArray]; rfl)
          case hQ29 => exact fun _ _ _ h => h
          case hy29 => exact Or.inl ⟨by rfl, by (intro w hSw; (try dsimp only at hSw); go_simp; try with_reducible rfl)⟩
          try simp only [Act.put, List.setIfInBounds_toArray, List.set_cons_zero, List.set_cons_succ]
          refine wpE_last (i := 17) (o := ?o35) ?ho35 (by kernel_rfl) (by kernel_rfl) (by kernel_rfl) (fun K hK => ?_)
          case ho35 => (simp only [List.getElem?_toArray]; rfl)
          go_simp
          refine hK.out _ _ ?_
          clear hK K hHeld
          go_wp2_with fail
          go_roundw
          case rel => exact ⟨k + 1, by go_num, by omega, _, O7.out, HR9.out.fill _ _⟩
          case measure => simp [intOf]; omega
      · have hmb : (m == 0) = false := by rw [beq_eq_false_iff_ne]; exact hm
        go_wp2_with fail
        go_roundw
        case rel => exact ⟨k + 1, by go_num, by omega, _, O2.out, HR9.out⟩
        case measure => simp [intOf]; omega
    · go_upto_region 5 with (fail)
      go_cut [26] (fun v wx => v = .bool false ∧ OB W wx pb L)
      case first =>
        go_wp2_with fail
        all_goals
          go_meet
          exact ⟨by first | rfl | (simp; omega), O0.out⟩
      case rest =>
      clear O0
      obtain ⟨rfl, hO⟩ := hcut
      obtain ⟨wv, rfl⟩ : ∃ wo : World, wo = wc := ⟨_, rfl⟩
      have O0 : Hid (OB W wv pb L) := Lib.hid hO
      clear hO HR HOK hk
      obtain ⟨NS, hn1, hns, hn3, hnm⟩ := O0.out.ns
      have HN1 := Lib.hid hn1
      have HNS := Lib.hid hns
      have HN3 := Lib.hid hn3
      clear hn1 hns hn3
      go_wp2_with fail
      as_aux_lemma =>
      go_loopw [8, 9] (fun n s w' => ∃ j : Nat, s = .int .i64 j ∧ 1 ≤ j ∧ j ≤ 3 ∧ n = .int .i64 (NS j) ∧ OB W w' pb L) (fun _ s _ => 3 - (intOf s).toNat)
      case atStart => exact ⟨1, rfl, by omega, by omega, by rw [HN1.out]; rfl, O0.out⟩
      case round =>
        clear O0
        obtain ⟨j, rfl, hj1, hj3, rfl, hO⟩ := hrel
        obtain ⟨wu, rfl⟩ : ∃ wo : World, wo = wr := ⟨_, rfl⟩
        have O0 : Hid (OB W wu pb L) := Lib.hid hO
        clear hO
        have hnj : (NS j : Int) ≤ 250 := by have := hnm j; omega
        by_cases hlt : j ≤ 2
        · have hj12 : (j : Int) = 1 ∨ (j : Int) = 2 := by omega
          obtain ⟨G, hG⟩ := O0.out.lvls hj12
          obtain ⟨NF, TF, hF⟩ := O0.out.lvf hG
          have HJ := Lib.hid hj12
          have HG := Lib.hid hG
          have HF := Lib.hid hF
          have hsm := hF.small
          have hlad := ob_lad O0.out (j : Int)
          obtain ⟨M, hM⟩ : ∃ M, ladO L j = M := ⟨_, rfl⟩
          rw [hM] at hlad HF hsm
          have hjn1 : (1 : Int) ≤ (j : Int) := by omega
          have hjn2 : (j : Int) ≤ 2 := by omega
          clear hG hF hM hj12 hj1 hj3 hlt
          go_wp2_with fail
          refine hlad.mono ?_
          rintro e w6 ⟨v, rfl, hr, hb⟩
          obtain ⟨ra, rc, rfl, _, hrd⟩ := hr.rd
          have O6 := Lib.hid (O0.out.below hb)
          have R6 := Lib.hid hrd
          clear hr hb hrd O0 hlad
          go_wp2_with fail
          as_aux_lemma =>
          go_loopw [8, 11, 12] (fun n tp i w' => ∃ i' : Nat, i = .int .i64 i' ∧ i' ≤ M.length ∧ n = .int .i64 ((NS j : Int) + (NF i' : Int)) ∧ tp = .int .i64 (TF i') ∧ Below w6.heap.size w6 w') (fun _ _ i _ => M.length - (intOf i).toNat)
          case atStart => exact ⟨0, rfl, Nat.zero_le _, by rw [HF.out.n0]; simp, by rw [HF.out.t0]; rfl, Below.refl _ _⟩
          case round =>
            obtain ⟨i, rfl, hi, rfl, rfl, hb⟩ := hrel
            obtain ⟨wy, rfl⟩ : ∃ wo : World, wo = wr := ⟨_, rfl⟩
            have HBL := Lib.hid hb
            clear hb
            have hnf : (NF i : Int) ≤ 250 := by have := HF.out.nmax i; omega
            have htf : (TF i : Int) ≤ 1 := by have := HF.out.tmax i; omega
            by_cases hin : i < M.length
            · have hin' : (i : Int) < (M.length : Int) := by omega
              obtain ⟨⟨p, A⟩, hg⟩ : ∃ g, G[i]? = some g := ⟨_, List.getElem?_eq_getElem (by have := HF.out.len; omega)⟩
              have HGI := Lib.hid hg
              have HGM := Lib.hid (List.mem_of_getElem? hg)
              obtain ⟨hmi, hnn, htt⟩ := HF.out.row i p A hg
              obtain ⟨ga, oa, rfl, hga, hca⟩ := R6.out.below HBL.out i _ hmi
              have HNN := Lib.hid hnn
              have HTT := Lib.hid htt
              obtain ⟨SF, CF, hat⟩ := atf (Lvls.qtys O6.out HG.out HGM.out).1 (Lvls.qtys O6.out HG.out HGM.out).2
              have HAT := Lib.hid hat
              have b0 : wy.cell? ⟨ga, oa + i * 3, none⟩ = some (.int .i64 p) := hca 0 _ rfl
              have HCA : Hid (∀ w', Below wy.heap.size wy w' → w'.cell? ⟨ga, oa + i * 3, none⟩ = some (.int .i64 p) ∧ w'.cell? ⟨ga, oa + i * 3 + 1, none⟩ = some (.int .i64 (SF A.length)) ∧ w'.cell? ⟨ga, oa + i * 3 + 2, none⟩ = some (.int .i64 A.length)) := Lib.hid fun w' hbb => ⟨hca.below hbb hga 0 _ rfl, by rw [hat.send]; exact hca.below hbb hga 1 _ rfl, hca.below hbb hga 2 _ rfl⟩
              clear hg hmi hnn htt hat hga hca
              as_aux_lemma =>
              go_upto_region 22 with (fail)
              go_cut [8, 9, 11, 12, 140] (fun n s tp ii v wx => n = .int .i64 ((NS j : Int) + (NF i : Int)) ∧ s = .int .i64 j ∧ tp = .int .i64 (TF i) ∧ ii = .int .i64 i ∧ v = .bool false ∧ Below wy.heap.size wy wx)
              case first =>
                by_cases hi0 : i = 0
                · subst hi0
                  go_quiet (fail)
                  go_wp2_with fail
                  go_meet
                  exact ⟨by first | rfl | simp, by first | rfl | simp, by first | rfl | simp, by first | rfl | simp, rfl, Below.drewN_of _ _⟩
                · obtain ⟨i', rfl⟩ : ∃ y, i = y + 1 := ⟨i - 1, by omega⟩
                  obtain ⟨⟨p', A'⟩, hg'⟩ : ∃ g, G[i']? = some g := ⟨_, List.getElem?_eq_getElem (by have := HF.out.len; omega)⟩
                  have hmi := (HF.out.row i' p' A' hg').1
                  obtain ⟨ga', oa', he, _, hca⟩ := R6.out.below HBL.out i' _ hmi
                  injection he with he
                  injection he with he1 he2
                  subst he1 he2
                  have b1 : wy.cell? ⟨ga, oa + i' * 3, none⟩ = some (.int .i64 p') := hca 0 _ rfl
                  have hw := HG.out.worse hg' HGI.out
                  clear hca hmi hg' hi0
                  as_aux_lemma =>
                  rcases HJ.out with hj | hj
                  · have hpp : ¬ p' ≤ p := by have := hw.1 hj; omega
                    obtain rfl : j = 1 := by omega
                    clear hw hj
                    go_quiet (fail)
                    go_wp2_with fail
                    go_meet
                    exact ⟨by first | rfl | simp, by first | rfl | simp, by first | rfl | simp, by first | rfl | simp, rfl, Below.drewN_of _ _⟩
                  · have hpp : ¬ p ≤ p' := by have := hw.2 hj; omega
                    obtain rfl : j = 2 := by omega
                    clear hw hj
                    go_quiet (fail)
                    go_wp2_with fail
                    go_meet
                    exact ⟨by first | rfl | simp, by first | rfl | simp, by first | rfl | simp, by first | rfl | simp, rfl, Below.drewN_of _ _⟩
              case rest =>
              obtain ⟨rfl, rfl, rfl, rfl, rfl, hb⟩ := hcut
              obtain ⟨wz, rfl⟩ : ∃ wo : World, wo = wc := ⟨_, rfl⟩
              have hbz := HBL.out.trans (hb.mono HBL.out.size)
              have BZ := Lib.hid hbz
              have OZ : Hid (OB W wz pb L) := Lib.hid (O6.out.below hbz)
              have hcz := HCA.out wz hb
              have z0 : wz.cell? ⟨ga, oa + i * 3, none⟩ = some (.int .i64 p) := hcz.1
              have HCZ : Hid (∀ w', Below wz.heap.size wz w' → w'.cell? ⟨ga, oa + i * 3, none⟩ = some (.int .i64 p) ∧ w'.cell? ⟨ga, oa + i * 3 + 1, none⟩ = some (.int .i64 (SF A.length)) ∧ w'.cell? ⟨ga, oa + i * 3 + 2, none⟩ = some (.int .i64 A.length)) := Lib.hid fun w' hbb => HCA.out w' (hb.trans (hbb.mono hb.size))
              clear hcz hb hbz HCA HBL b0
              as_aux_lemma =>
              have hat := ob_at OZ.out (j : Int) p
              rw [show atO L (j : Int) p = A from HG.out.at_ _ HGM.out] at hat
              go_wp2_with fail
              refine hat.mono ?_
              rintro e w7 ⟨v, rfl, hr, hb⟩
              obtain ⟨sa, sc, rfl, _, hrd⟩ := hr.rd
              have B7 := Lib.hid (BZ.out.trans (hb.mono BZ.out.size))
              have R7 := Lib.hid hrd
              have hA250 := (Lvls.qtys O6.out HG.out HGM.out).2
              dsimp only at hA250
              have HC7 := Lib.hid (HCZ.out w7 hb)
              have HC8 : Hid (∀ w', Below w7.heap.size w7 w' → w'.cell? ⟨ga, oa + i * 3, none⟩ = some (.int .i64 p) ∧ w'.cell? ⟨ga, oa + i * 3 + 1, none⟩ = some (.int .i64 (SF A.length)) ∧ w'.cell? ⟨ga, oa + i * 3 + 2, none⟩ = some (.int .i64 A.length)) := Lib.hid fun w' hbb => HCZ.out w' (hb.trans (hbb.mono hb.size))
              clear hr hb hrd hat z0 HCZ OZ BZ HC7
              go_wp2_with fail
              as_aux_lemma =>
              go_loopw [11, 14, 15] (fun tp sm kk w' => ∃ k' : Nat, kk = .int .i64 k' ∧ k' ≤ A.length ∧ sm = .int .i64 (SF k') ∧ tp = .int .i64 ((TF i : Int) + (CF k' : Int)) ∧ Below w7.heap.size w7 w') (fun _ _ kk _ => A.length - (intOf kk).toNat)
              case atStart => exact ⟨0, rfl, Nat.zero_le _, by rw [HAT.out.s0], by rw [HAT.out.c0]; simp, Below.refl _ _⟩
              case round =>
                obtain ⟨m, rfl, hm, rfl, rfl, hb⟩ := hrel
                obtain ⟨w8, rfl⟩ : ∃ wo : World, wo = wr := ⟨_, rfl⟩
                have B8 := Lib.hid hb
                have hcc := HC8.out w8 hb
                clear hb
                have hsb1 : 0 ≤ SF m := (HAT.out.sb m).1
                have hsb2 : SF m ≤ 250000000 := (HAT.out.sb m).2
                have hcb : (CF m : Int) ≤ 250 := by have := HAT.out.cb m; omega
                by_cases hmn : m < A.length
                · have hmn' : (m : Int) < (A.length : Int) := by omega
                  obtain ⟨o, ho⟩ : ∃ o, A[m]? = some o := ⟨_, List.getElem?_eq_getElem hmn⟩
                  have HO := Lib.hid ho
                  obtain ⟨hs1, hc1⟩ := HAT.out.row m o ho
                  have HS1 := Lib.hid hs1
                  have HC1 := Lib.hid hc1
                  obtain ⟨gb, ob, rfl, hgb, hca⟩ := R7.out.below B8.out m o ho
                  have hom := List.mem_of_getElem? ho
                  obtain ⟨ho1, ho2⟩ := HG.out.sp _ HGM.out o hom
                  dsimp only at ho2
                  have hoq := (Lvls.qtys O6.out HG.out HGM.out).1 o hom
                  have hq1 : 1 ≤ o.qty := hoq.1
                  have hq2 : o.qty ≤ 1000000 := hoq.2
                  have HTN : Hid (0 < i → o.top = false) := Lib.hid fun h0 => HG.out.notop I0.out h0 HGI.out hom
                  obtain ⟨oi, hoi⟩ : ∃ y, o.id = y := ⟨_, rfl⟩
                  obtain ⟨oq, hoq'⟩ : ∃ y, o.qty = y := ⟨_, rfl⟩
                  obtain ⟨ot, hot⟩ : ∃ y, o.top = y := ⟨_, rfl⟩
                  have d0 : w8.cell? ⟨gb, ob + m * 5, none⟩ = some (.int .i64 oi) := hoi ▸ hca 0 _ rfl
                  have d1 : w8.cell? ⟨gb, ob + m * 5 + 1, none⟩ = some (.int .i64 j) := ho1 ▸ hca 1 _ rfl
                  have d2 : w8.cell? ⟨gb, ob + m * 5 + 2, none⟩ = some (.int .i64 p) := ho2 ▸ hca 2 _ rfl
                  have d3 : w8.cell? ⟨gb, ob + m * 5 + 3, none⟩ = some (.int .i64 oq) := hoq' ▸ hca 3 _ rfl
                  have d4 : Hid (∀ w', Below w8.heap.size w8 w' → w'.cell? ⟨gb, ob + m * 5 + 4, none⟩ = some (.bool ot)) := Lib.hid fun w' hbb => hot ▸ hca.below hbb hgb 4 _ rfl
                  have z0 := hcc.1
                  have HOI := Lib.hid hoi
                  rw [hoq'] at HS1 hq1 hq2
                  rw [hot] at HC1 HTN
                  clear hca hoi hoq' hot hoq ho hs1 hc1 ho1 ho2 hgb hcc
                  as_aux_lemma =>
                  go_upto_region 30 with (fail)
                  go_cut [11, 14, 15, 199] (fun tp sm kk v wx => tp = .int .i64 ((TF i : Int) + (CF m : Int)) ∧ sm = .int .i64 (SF m + oq) ∧ kk = .int .i64 m ∧ v = .bool false ∧ Below w8.heap.size w8 wx)
                  case first =>
                    by_cases hm0 : m = 0
                    · subst hm0
                      go_quiet (fail)
                      go_wp2_with fail
                      go_meet
                      exact ⟨by first | rfl | simp, by first | rfl | simp, by first | rfl | simp, rfl, Below.drewN_of _ _⟩
                    · obtain ⟨m', rfl⟩ : ∃ y, m = y + 1 := ⟨m - 1, by omega⟩
                      obtain ⟨o', ho'⟩ : ∃ o', A[m']? = some o' := ⟨_, List.getElem?_eq_getElem (by omega)⟩
                      have hca := (R7.out.below B8.out m' o' ho')
                      obtain ⟨gb', ob', he, _, hca⟩ := hca
                      injection he with he
                      injection he with he1 he2
                      subst he1 he2
                      obtain ⟨oi', hoi'⟩ : ∃ y, o'.id = y := ⟨_, rfl⟩
                      have d5 : w8.cell? ⟨gb, ob + m' * 5, none⟩ = some (.int .i64 oi') := hoi' ▸ hca 0 _ rfl
                      have hlt' : o'.id < o.id := HG.out.rises I0.out HGM.out ho' HO.out
                      rw [hoi', HOI.out] at hlt'
                      have hge : ¬ oi ≤ oi' := by omega
                      clear hca ho' hlt' hoi' hm0
                      go_quiet (fail)
                      go_wp2_with fail
                      go_meet
                      exact ⟨by first | rfl | simp, by first | rfl | simp, by first | rfl | simp, rfl, Below.drewN_of _ _⟩
                  case rest =>
                  obtain ⟨rfl, rfl, rfl, rfl, hb⟩ := hcut
                  obtain ⟨w9, rfl⟩ : ∃ wo : World, wo = wc := ⟨_, rfl⟩
                  have e4 := d4.out w9 hb
                  have B9 := Lib.hid (B8.out.trans (hb.mono B8.out.size))
                  clear d0 d1 d2 d3 z0 hb
                  as_aux_lemma =>
                  cases ot with
                  | false =>
                    go_wp2_with fail
                    go_roundw
                    case rel => exact ⟨m + 1, by go_num, by omega, by rw [HS1.out], by rw [HC1.out]; simp, B9.out⟩
                    case measure => simp [intOf]; omega
                  | true =>
                    have hi0 : ¬ 0 < i := fun h0 => by have := HTN.out h0; cases this
                    have hi0' : ¬ (0 : Int) < (i : Int) := by omega
                    clear hi0
                    go_wp2_with fail
                    go_roundw
                    case rel => exact ⟨m + 1, by go_num, by omega, by rw [HS1.out], by rw [HC1.out]; simp [Int.add_assoc], B9.out⟩
                    case measure => simp [intOf]; omega
                · obtain rfl : m = A.length := by omega
                  have z1 := hcc.2.1
                  have z2 := hcc.2.2
                  have hne : ¬ (A.length : Int) = 0 := by
                    have := HG.out.ne _ HGM.out
                    have := List.length_pos_iff.2 this
                    dsimp only at this
                    omega
                  have HBW := Lib.hid (B7.out.trans (B8.out.mono B7.out.size))
                  clear hcc
                  go_wp2_with fail
                  go_roundw
                  case rel => exact ⟨i + 1, by go_num, by omega, by rw [HNN.out]; simp [Int.add_assoc], by rw [HTT.out, HAT.out.cend]; simp, HBW.out⟩
                  case measure => simp [intOf]; omega
            · obtain rfl : i = M.length := by omega
              have htf' : ¬ (1 : Int) < (TF M.length : Int) := by omega
              clear htf
              go_wp2_with fail
              go_roundw
              case rel => exact ⟨j + 1, by go_num, by omega, by omega, by rw [HNS.out j HJ.out, ← HF.out.nend]; simp, O6.out.below HBL.out⟩
              case measure => simp [intOf]; omega
        · obtain rfl : j = 3 := by omega
          rw [HN3.out]
          have hL := O0.out.len
          have hcn := ob_count O0.out
          go_wp2_with fail
          refine hcn.mono ?_
          rintro e w7 ⟨rfl, rfl⟩
          clear hcn
          go_wp2_with fail
          refine (ob_orders O0.out).mono ?_
          rintro e w8 ⟨v, rfl, hr, hb⟩
          obtain ⟨ra, rc, rfl, _, _⟩ := hr.rd
          have O8 := Lib.hid (O0.out.below hb)
          clear hb hr O0
          go_wp2_with fail
          refine (known_any9 _).mono ?_
          rintro e w9 ⟨rfl, hb⟩
          have HB9 := Lib.hid (O8.out.bel.trans (hb.mono O8.out.bel.size))
          clear hb
          go_wp2_with fail
          go_ret
          exact ⟨by trivial, HB9.out⟩
end Go.Proofs.Ytmhljdkhekjfmaa
