/- The walk of cornhillref14.Quotes. -/
import Derived.Test.YtilficlanliinaaRAll14
import Derived.Test.YtilficlanliinaaQuo14
import Derived.Test.YtilficlanliinaaLast
namespace Go.Proofs.Ytilficlanliinaa
open Go.RowKit

/-- where Quotes stands: the product's box, the row that is read, the row that is made -/
structure RQS (w w1 : World) (p : Prod) (va : Value) (A : List Qt) (vo : Value) (O : List Qt) : Prop where
  bel : Below w.heap.size w w1
  box : Blk w1 w.heap.size 25 p.cells
  pv0 : PV w p
  ra : RQT.Row w1 w.heap.size va A
  ro : RQT.Row w1 w.heap.size vo O
  ap : ∀ g, va.ownBlock = some g → vo.ownBlock ≠ some g
section
variable {w w1 w2 w3 : World} {p : Prod} {va vo vo' : Value} {A O : List Qt}
theorem RQS.pv (h : RQS w w1 p va A vo O) : PV w1 p := h.pv0.below h.bel
theorem RQS.pc (h : RQS w w1 p va A vo O) : PC w1 w.heap.size p := PC.of5 h.box
theorem RQS.next (h : RQS w w1 p va A vo O) (hb : Below w1.heap.size w1 w2) : RQS w w2 p va A vo O :=
  ⟨h.bel.trans (hb.mono h.bel.size), h.box.below hb, h.pv0, h.ra.below hb, h.ro.below hb, h.ap⟩
theorem RQS.push (h : RQS w w1 p va A vo O) {q : Qt} (hr : RQT.Row w2 w.heap.size vo' (O ++ [q])) (hg : w1.grownBy w2 vo.ownBlock) (ho : vo'.ownBlock = vo.ownBlock ∨ vo'.ownBlock = some w1.heap.size) : RQS w w2 p va A vo' (O ++ [q]) := by
  have hk := grown_keeps hg
  have hob := own_base h.ro
  refine ⟨h.bel.trans (hk.below hob h.bel.size), h.box.keeps hk (fun hh => (own_tyd h.ro _ hh).ne h.box.tyd (by decide) rfl), h.pv0, own_keep h.ra hk (fun g h1 h2 => h.ap g h1 h2), hr, fun g h1 h2 => ?_⟩
  rcases ho with ho | ho
  · rw [ho] at h2; exact h.ap g h1 h2
  · rw [ho] at h2
    injection h2 with h2
    have := own_lt h.ra g h1
    omega
end
set_option maxRecDepth 100000 in
set_option maxHeartbeats 16000000 in
theorem rquotes_any (p : Prod) (inst side : Int) (ta : Option Addr) (c : Nat) (L : List Tp) (w : World) (hp : PV w p) (hT : RTP.Rd w ta L) (hok : ∀ x ∈ L, x.ok) (hL : L.length ≤ 1000000) (hal : (allP p L inst side).length ≤ 1000) :
    Calls Try.prog 31 #[p.agg, .slice ta L.length c, .int .i64 inst, .int .i64 side] w fun e w' => ∃ v, e = .returned v ∧ RQT.Row w' w.heap.size v (quotesP p L inst side) ∧ Below w.heap.size w w' := by
  have s1 : ∀ (w : World) (o : Obj), (w.alloc o).heap.size = w.heap.size + 1 := fun w o => by simp
  have hx0 : Blk (w.alloc (.cells #[.string p.code, .slice p.ma p.months.length p.mc, .int .i64 p.tick, .int .i64 p.low, .int .i64 p.high, .int .i64 p.wide, .int .i64 p.rule, .int .i64 p.top, .int .i64 p.least, .int .i64 p.part, .slice p.sa p.settle.length p.sc] 25)) w.heap.size 25 p.cells := Blk.new _ _ _
  have hb0 : Below w.heap.size w (w.alloc (.cells #[.string p.code, .slice p.ma p.months.length p.mc, .int .i64 p.tick, .int .i64 p.low, .int .i64 p.high, .int .i64 p.wide, .int .i64 p.rule, .int .i64 p.top, .int .i64 p.least, .int .i64 p.part, .slice p.sa p.settle.length p.sc] 25)) := Below.allocN _ _
  have HALL := Lib.hid (rall_any p inst side ta c L _ (hp.below hb0) (hT.below hb0) hok hL)
  have HPR := Lib.hid fun (x : Int) wz (h : PV wz p) => rprice_any p inst x wz h
  unfold Prod.agg Prod.cells at HALL HPR ⊢
  unfold quotesP
  generalize allP p L inst side = A at *
  have HX := Lib.hid hx0
  have HB := Lib.hid hb0
  have HPV := Lib.hid hp
  clear hp hT hok hL hx0 hb0
  go_enter Try.func31, Try.ntmps31
  go_wp2_with fail
  refine HALL.out.mono ?_
  rintro e w1 ⟨va, rfl, hra, hb⟩
  have hS : RQS w w1 p va A (.slice none 0 0) [] := ⟨HB.out.trans (hb.mono HB.out.size), HX.out.below hb, HPV.out, ⟨hra.1, hra.2.imp id (fun ⟨g, c, cu, h1, h2, h3⟩ => ⟨g, c, cu, h1, Nat.le_trans HB.out.size h2, h3⟩)⟩, Lay.Row.nil _ _, fun g _ h => by cases h⟩
  have HS := Lib.hid hS
  obtain ⟨aa, ac, hvf⟩ := hra.form
  subst hvf
  clear hS hra hb HX HB HALL HPV
  go_wp2_with fail
  go_loopw [10, 11] (fun o j w' => ∃ (k : Nat) (vo : Value), vo = o ∧ j = .int .i64 k ∧ k ≤ A.length ∧ RQS w w' p (.slice aa A.length ac) A vo ((A.take k).filter (fun q => priceP p inst q.price == 0))) (fun _ j _ => A.length - (intOf j).toNat)
  case atStart => exact ⟨0, _, rfl, rfl, Nat.zero_le _, HS.out⟩
  case round =>
    clear HS
    obtain ⟨k, vo, ho, rfl, hk, hS⟩ := hrel
    subst ho
    obtain ⟨wz, rfl⟩ : ∃ wo : World, wo = wr := ⟨_, rfl⟩
    have HS := Lib.hid hS
    clear hS
    by_cases hkn : k < A.length
    · have hkn' : (k : Int) < (A.length : Int) := by omega
      obtain ⟨q, hq⟩ : ∃ q, A[k]? = some q := ⟨_, List.getElem?_eq_getElem hkn⟩
      obtain ⟨g, cap, hvg, hgl, hcq⟩ := HS.out.ra.at_ k q hq
      injection hvg with hva hvn hvc
      clear hvn
      subst hva
      subst hvc
      have hlen : ((A.take k).filter (fun q => priceP p inst q.price == 0)).length ≤ 1000 := by
        have h1 := List.length_filter_le (fun q => priceP p inst q.price == 0) (A.take k)
        have h2 := List.length_take_le k A
        omega
      have HTK : Hid ((A.take (k + 1)).filter (fun q => priceP p inst q.price == 0) = (A.take k).filter (fun q => priceP p inst q.price == 0) ++ (if (priceP p inst q.price == 0) = true then [q] else [])) := Lib.hid (by
        rw [List.take_add_one, hq, List.filter_append]
        congr 1
        show List.filter _ [q] = _
        rw [List.filter_cons]
        rfl)
      generalize (A.take k).filter (fun q => priceP p inst q.price == 0) = O at *
      have hpr := HPR.out q.price
      obtain ⟨pr, hprv⟩ : ∃ pr, priceP p inst q.price = pr := ⟨_, rfl⟩
      rw [hprv] at hpr HTK
      have HPQ := Lib.hid hpr
      have HCQ : Hid (∀ wv, Below wz.heap.size wz wv → CellsAt wv g (k * 6) q.cells) := Lib.hid fun wv hb => hcq.below hb hgl
      clear hprv hpr hcq hq
      have HS1 := Lib.hid (HS.out.next (Below.drewN_of wz 1))
      have c0 : (wz.drewN 1).cell? ⟨g, k * 6, none⟩ = some (.int .i64 q.price) := HCQ.out _ (Below.drewN_of wz 1) 0 _ rfl
      clear hgl
      go_wp2_with fail
      refine wp_region_E (S := fun w' => (w'.cell? ⟨w.heap.size, 0, none⟩ = some (.string p.code) ∧ w'.cell? ⟨w.heap.size, 1, none⟩ = some (.slice p.ma p.months.length p.mc) ∧ w'.cell? ⟨w.heap.size, 2, none⟩ = some (.int .i64 p.tick) ∧ w'.cell? ⟨w.heap.size, 3, none⟩ = some (.int .i64 p.low) ∧ w'.cell? ⟨w.heap.size, 4, none⟩ = some (.int .i64 p.high) ∧ w'.cell? ⟨w.heap.size, 5, none⟩ = some (.int .i64 p.wide) ∧ w'.cell? ⟨w.heap.size, 6, none⟩ = some (.int .i64 p.rule) ∧ w'.cell? ⟨w.heap.size, 7, none⟩ = some (.int .i64 p.top) ∧ w'.cell? ⟨w.heap.size, 8, none⟩ = some (.int .i64 p.least) ∧ w'.cell? ⟨w.heap.size, 9, none⟩ = some (.int .i64 p.part) ∧ w'.cell? ⟨w.heap.size, 10, none⟩ = some (.slice p.sa p.settle.length p.sc)) ∧ w'.cell? ⟨g, k * 6, none⟩ = some (.int .i64 q.price)) (by kernel_rfl) ⟨HS1.out.pc, c0⟩ (fun hHeld => ?_)
      refine wpE_take (i := 0) (oi := ?oi2) (v := ?v2) ?hi2 (by kernel_rfl) (by kernel_rfl) (by kernel_rfl) (by kernel_rfl) ?hQ2 ?hy2 (by assumption) ?rest2
      case hi2 => (simp only [List.getElem?_toArray]; rfl)
      case hQ2 => exact fun _ _ _ h => h
      case hy2 => exact Or.inl ⟨by rfl, by (intro w hSw; (try dsimp only at hSw); go_simp; try with_reducible rfl)⟩
      try simp only [Act.put, List.setIfInBounds_toArray, List.set_cons_zero, List.set_cons_succ]
      refine wpE_take (i := 1) (oi := ?oi3) (v := ?v3) ?hi3 (by kernel_rfl) (by kernel_rfl) (by kernel_rfl) (by kernel_rfl) ?hQ3 ?hy3 (by assumption) ?rest3
      case hi3 => (simp only [List.getElem?_toArray]; rfl)
      case hQ3 => exact fun _ _ _ h => h
      case hy3 => exact Or.inl ⟨by rfl, by (intro w hSw; (try dsimp only at hSw); go_simp; try with_reducible rfl)⟩
      try simp only [Act.put, List.setIfInBounds_toArray, List.set_cons_zero, List.set_cons_succ]
      refine wpE_take (i := 2) (oi := ?oi4) (v := ?v4) ?hi4 (by kernel_rfl) (by kernel_rfl) (by kernel_rfl) (by kernel_rfl) ?hQ4 ?hy4 (by assumption) ?rest4
      case hi4 => (simp only [List.getElem?_toArray]; rfl)
      case hQ4 => exact fun _ _ _ h => h
      case hy4 => exact Or.inl ⟨by rfl, by (intro w hSw; (try dsimp only at hSw); go_simp; try with_reducible rfl)⟩
      try simp only [Act.put, List.setIfInBounds_toArray, List.set_cons_zero, List.set_cons_succ]
      refine wpE_take (i := 3) (oi := ?oi5) (v := ?v5) ?hi5 (by kernel_rfl) (by kernel_rfl) (by kernel_rfl) (by kernel_rfl) ?hQ5 ?hy5 (by assumption) ?rest5
      case hi5 => (simp only [List.getElem?_toArray]; rfl)
      case hQ5 => exact fun _ _ _ h => h
      case hy5 => exact Or.inl ⟨by rfl, by (intro w hSw; (try dsimp only at hSw); go_simp; try with_reducible rfl)⟩
      try simp only [Act.put, List.setIfInBounds_toArray, List.set_cons_zero, List.set_cons_succ]
      refine wpE_take (i := 4) (oi := ?oi6) (v := ?v6) ?hi6 (by kernel_rfl) (by kernel_rfl) (by kernel_rfl) (by kernel_rfl) ?hQ6 ?hy6 (by assumption) ?rest6
      case hi6 => (simp only [List.getElem?_toArray]; rfl)
      case hQ6 => exact fun _ _ _ h => h
      case hy6 => exact Or.inl ⟨by rfl, by (intro w hSw; (try dsimp only at hSw); go_simp; try with_reducible rfl)⟩
      try simp only [Act.put, List.setIfInBounds_toArray, List.set_cons_zero, List.set_cons_succ]
      refine wpE_take (i := 5) (oi := ?oi7) (v := ?v7) ?hi7 (by kernel_rfl) (by kernel_rfl) (by kernel_rfl) (by kernel_rfl) ?hQ7 ?hy7 (by assumption) ?rest7
      case hi7 => (simp only [List.getElem?_toArray]; rfl)
      case hQ7 => exact fun _ _ _ h => h
      case hy7 => exact Or.inl ⟨by rfl, by (intro w hSw; (try dsimp only at hSw); go_simp; try with_reducible rfl)⟩
      try simp only [Act.put, List.setIfInBounds_toArray, List.set_cons_zero, List.set_cons_succ]
      refine wpE_take (i := 6) (oi := ?oi8) (v := ?v8) ?hi8 (by kernel_rfl) (by kernel_rfl) (by kernel_rfl) (by kernel_rfl) ?hQ8 ?hy8 (by assumption) ?rest8
      case hi8 => (simp only [List.getElem?_toArray]; rfl)
      case hQ8 => exact fun _ _ _ h => h
      case hy8 => exact Or.inl ⟨by rfl, by (intro w hSw; (try dsimp only at hSw); go_simp; try with_reducible rfl)⟩
      try simp only [Act.put, List.setIfInBounds_toArray, List.set_cons_zero, List.set_cons_succ]
      refine wpE_one (i := 7) (o := ?o9) ?ho9 (by kernel_rfl) (fun K hK => ?_)
      case ho9 => (simp only [List.getElem?_toArray]; rfl)
      go_simp
      go_at_call 46
      refine (HPQ.out _ HS1.out.pv).mono ?_
      rintro e w4 ⟨rfl, hb⟩
      have HS4 := Lib.hid (HS1.out.next hb)
      have HBB : Hid (Below wz.heap.size wz w4) := Lib.hid ((Below.drewN_of wz 1).trans hb)
      have c1 : w4.cell? ⟨g, k * 6, none⟩ = some (.int .i64 q.price) := HCQ.out _ HBB.out 0 _ rfl
      refine hK.out _ _ ⟨HS4.out.pc, c1⟩ (fun hHeld => ?_)
      clear hK K
      refine wpE_of_held _ _ _ _ ?_
      refine wpAnyH_take (i := 8) (oi := ?oi1) (v := ?v1) ?hi1 (by kernel_rfl) (by kernel_rfl) (by kernel_rfl) ?hQ1 ?hy1 (by assumption) ?rest1
      case hi1 => (simp only [List.getElem?_toArray]; rfl)
      case hQ1 => exact fun _ _ _ h => h
      case hy1 => exact Or.inl ⟨by rfl, by (intro w hSw; (try dsimp only at hSw); go_simp; try with_reducible rfl)⟩
      try simp only [Act.put, List.setIfInBounds_toArray, List.set_cons_zero, List.set_cons_succ]
      refine wpAnyH_done (by kernel_rfl) ?_ _
      clear hHeld hb c0 c1 HS1 HS
      cases hz : (pr == 0) with
      | false =>
        rw [hz, if_neg (by simp), List.append_nil] at HTK
        go_wp2_with fail
        go_roundw
        case rel => exact ⟨k + 1, vo, rfl, by go_num, by omega, by rw [HTK.out]; exact HS4.out⟩
        case measure => simp [intOf]; omega
      | true =>
        rw [hz, if_pos rfl] at HTK
        have q0 : w4.cell? ⟨g, k * 6, none⟩ = some (.int .i64 q.price) := HCQ.out _ HBB.out 0 _ rfl
        have q1 : w4.cell? ⟨g, k * 6 + 1, none⟩ = some (.int .i64 q.qty) := HCQ.out _ HBB.out 1 _ rfl
        have q2 : w4.cell? ⟨g, k * 6 + 2, none⟩ = some (.int .i64 q.i0) := HCQ.out _ HBB.out 2 _ rfl
        have q3 : w4.cell? ⟨g, k * 6 + 3, none⟩ = some (.int .i64 q.s0) := HCQ.out _ HBB.out 3 _ rfl
        have q4 : w4.cell? ⟨g, k * 6 + 4, none⟩ = some (.int .i64 q.i1) := HCQ.out _ HBB.out 4 _ rfl
        have q5 : w4.cell? ⟨g, k * 6 + 5, none⟩ = some (.int .i64 q.s1) := HCQ.out _ HBB.out 5 _ rfl
        have hnew : Blk (w4.alloc (.cells #[.int .i64 q.price, .int .i64 q.qty, .int .i64 q.i0, .int .i64 q.s0, .int .i64 q.i1, .int .i64 q.s1] 72)) w4.heap.size 72 #[.int .i64 q.price, .int .i64 q.qty, .int .i64 q.i0, .int .i64 q.s0, .int .i64 q.i1, .int .i64 q.s1] := Blk.new _ _ _
        have HNEW := Lib.hid hnew
        have HS5 := Lib.hid (HS4.out.next (Below.allocN w4 (.cells #[.int .i64 q.price, .int .i64 q.qty, .int .i64 q.i0, .int .i64 q.s0, .int .i64 q.i1, .int .i64 q.s1] 72)))
        clear hnew
        go_wp2_with (first
          | (at_builtin; refine RQT.push rfl (.tmp 32) (.tmp 37) rfl w.heap.size vo O rfl HS5.out.ro w4.heap.size q rfl HNEW.out.lt HNEW.out.cellsAt (by omega) HS5.out.bel.size ?_))
        intro vo' w6 hr6 hg6 ho6
        have HS6 := Lib.hid (HS5.out.push hr6 hg6 (by rw [s1]; exact ho6))
        clear hr6 hg6 ho6 q0 q1 q2 q3 q4 q5 HS5 HNEW HS4
        rw [← HTK.out] at HS6
        go_wp2_with fail
        go_roundw
        case rel => exact ⟨k + 1, vo', rfl, by go_num, by omega, HS6.out⟩
        case measure => simp [intOf]; omega
    · obtain rfl : k = A.length := by omega
      have hro := HS.out.ro
      rw [List.take_length] at hro
      have HR := Lib.hid hro
      have HBL := Lib.hid HS.out.bel
      clear hro HS
      go_wp2_with fail
      go_ret
      exact ⟨_, rfl, HR.out, HBL.out⟩
end Go.Proofs.Ytilficlanliinaa
