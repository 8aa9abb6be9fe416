/- The walk of implied.Quotes. -/
import Derived.Test.YtilficlanliinaaAll14
namespace Go.Proofs.Ytilficlanliinaa
open Go.RowKit

def quotesP (p : Prod) (L : List Tp) (inst side : Int) : List Qt := (allP p L inst side).filter (fun q => priceP p inst q.price == 0)
/-- where Quotes stands: the product's box, the row that is read, the row that is made -/
structure QS (w w1 : World) (p : Prod) (va : Value) (A : List Qt) (vo : Value) (O : List Qt) : Prop where
  bel : Below w.heap.size w w1
  box : Blk w1 w.heap.size 25 p.cells
  pv0 : PV w p
  ra : QT.Row w1 w.heap.size va A
  ro : QT.Row w1 w.heap.size vo O
  ap : ∀ g, va.ownBlock = some g → vo.ownBlock ≠ some g
section
variable {w w1 w2 w3 : World} {p : Prod} {va vo vo' : Value} {A O : List Qt}
theorem QS.pv (h : QS w w1 p va A vo O) : PV w1 p := h.pv0.below h.bel
theorem QS.pc (h : QS w w1 p va A vo O) : PC w1 w.heap.size p := PC.of5 h.box
theorem QS.next (h : QS w w1 p va A vo O) (hb : Below w1.heap.size w1 w2) : QS w w2 p va A vo O :=
  ⟨h.bel.trans (hb.mono h.bel.size), h.box.below hb, h.pv0, h.ra.below hb, h.ro.below hb, h.ap⟩
theorem QS.push (h : QS w w1 p va A vo O) {q : Qt} (hr : QT.Row w2 w.heap.size vo' (O ++ [q])) (hg : w1.grownBy w2 vo.ownBlock) (ho : vo'.ownBlock = vo.ownBlock ∨ vo'.ownBlock = some w1.heap.size) : QS w w2 p va A vo' (O ++ [q]) := by
  have hk := grown_keeps hg
  have hob := own_base h.ro
  refine ⟨h.bel.trans (hk.below hob h.bel.size), h.box.keeps hk (fun hh => (own_tyd h.ro _ hh).ne h.box.tyd (by decide) rfl), h.pv0, own_keep h.ra hk (fun g h1 h2 => h.ap g h1 h2), hr, fun g h1 h2 => ?_⟩
  rcases ho with ho | ho
  · rw [ho] at h2; exact h.ap g h1 h2
  · rw [ho] at h2
    injection h2 with h2
    have := own_lt h.ra g h1
    omega
end
set_option maxRecDepth 100000 in
set_option maxHeartbeats 16000000 in
theorem quotes_any (p : Prod) (inst side : Int) (ta : Option Addr) (c : Nat) (L : List Tp) (w : World) (hp : PV w p) (hT : TP.Rd w ta L) (hok : ∀ x ∈ L, x.ok) (hL : L.length ≤ 1000000) (hal : (allP p L inst side).length ≤ 1000) :
    Calls Try.prog 13 #[p.agg, .slice ta L.length c, .int .i64 inst, .int .i64 side] w fun e w' => ∃ v, e = .returned v ∧ QT.Row w' w.heap.size v (quotesP p L inst side) ∧ Below w.heap.size w w' := by
  have s1 : ∀ (w : World) (o : Obj), (w.alloc o).heap.size = w.heap.size + 1 := fun w o => by simp
  have hx0 : Blk (w.alloc (.cells #[.string p.code, .slice p.ma p.months.length p.mc, .int .i64 p.tick, .int .i64 p.low, .int .i64 p.high, .int .i64 p.wide, .int .i64 p.rule, .int .i64 p.top, .int .i64 p.least, .int .i64 p.part, .slice p.sa p.settle.length p.sc] 25)) w.heap.size 25 p.cells := Blk.new _ _ _
  have hb0 : Below w.heap.size w (w.alloc (.cells #[.string p.code, .slice p.ma p.months.length p.mc, .int .i64 p.tick, .int .i64 p.low, .int .i64 p.high, .int .i64 p.wide, .int .i64 p.rule, .int .i64 p.top, .int .i64 p.least, .int .i64 p.part, .slice p.sa p.settle.length p.sc] 25)) := Below.allocN _ _
  have HALL := Lib.hid (all_any p inst side ta c L _ (hp.below hb0) (hT.below hb0) hok hL)
  have HPR := Lib.hid fun (x : Int) wz (h : PV wz p) => price_any p inst x wz h
  unfold Prod.agg Prod.cells at HALL HPR ⊢
  unfold quotesP
  generalize allP p L inst side = A at *
  have HX := Lib.hid hx0
  have HB := Lib.hid hb0
  have HPV := Lib.hid hp
  clear hp hT hok hL hx0 hb0
  go_enter Try.func13, Try.ntmps13
  go_wp2_with fail
  refine HALL.out.mono ?_
  rintro e w1 ⟨va, rfl, hra, hb⟩
  have hS : QS w w1 p va A (.slice none 0 0) [] := ⟨HB.out.trans (hb.mono HB.out.size), HX.out.below hb, HPV.out, ⟨hra.1, hra.2.imp id (fun ⟨g, c, cu, h1, h2, h3⟩ => ⟨g, c, cu, h1, Nat.le_trans HB.out.size h2, h3⟩)⟩, Lay.Row.nil _ _, fun g _ h => by cases h⟩
  have HS := Lib.hid hS
  obtain ⟨aa, ac, hvf⟩ := hra.form
  subst hvf
  clear hS hra hb HX HB HALL HPV
  go_wp2_with fail
  go_loopw [9, 18] (fun o j w' => ∃ (k : Nat) (vo : Value), o = vo ∧ j = .int .i64 k ∧ k ≤ A.length ∧ QS w w' p (.slice aa A.length ac) A vo ((A.take k).filter (fun q => priceP p inst q.price == 0))) (fun _ j _ => A.length - (intOf j).toNat)
  case atStart => exact ⟨0, _, rfl, rfl, Nat.zero_le _, HS.out⟩
  case round =>
    clear HS
    obtain ⟨k, vo, ho, rfl, hk, hS⟩ := hrel
    replace ho := ho.symm
    subst ho
    obtain ⟨wz, rfl⟩ : ∃ wo : World, wo = wr := ⟨_, rfl⟩
    have HS := Lib.hid hS
    clear hS
    by_cases hkn : k < A.length
    · have hkn' : (k : Int) < (A.length : Int) := by omega
      obtain ⟨q, hq⟩ : ∃ q, A[k]? = some q := ⟨_, List.getElem?_eq_getElem hkn⟩
      obtain ⟨g, cap, hvg, hgl, hcq⟩ := HS.out.ra.at_ k q hq
      injection hvg with hva hvn hvc
      clear hvn
      subst hva
      subst hvc
      have q0 : wz.cell? ⟨g, k * 6, none⟩ = some (.int .i64 q.price) := hcq 0 _ rfl
      have q1 : wz.cell? ⟨g, k * 6 + 1, none⟩ = some (.int .i64 q.qty) := hcq 1 _ rfl
      have q2 : wz.cell? ⟨g, k * 6 + 2, none⟩ = some (.int .i64 q.i0) := hcq 2 _ rfl
      have q3 : wz.cell? ⟨g, k * 6 + 3, none⟩ = some (.int .i64 q.s0) := hcq 3 _ rfl
      have q4 : wz.cell? ⟨g, k * 6 + 4, none⟩ = some (.int .i64 q.i1) := hcq 4 _ rfl
      have q5 : wz.cell? ⟨g, k * 6 + 5, none⟩ = some (.int .i64 q.s1) := hcq 5 _ rfl
      have hlen : ((A.take k).filter (fun q => priceP p inst q.price == 0)).length ≤ 1000 := by
        have h1 := List.length_filter_le (fun q => priceP p inst q.price == 0) (A.take k)
        have h2 := List.length_take_le k A
        omega
      have HTK : Hid ((A.take (k + 1)).filter (fun q => priceP p inst q.price == 0) = (A.take k).filter (fun q => priceP p inst q.price == 0) ++ (if (priceP p inst q.price == 0) = true then [q] else [])) := Lib.hid (by
        rw [List.take_add_one, hq, List.filter_append]
        congr 1
        show List.filter _ [q] = _
        rw [List.filter_cons]
        rfl)
      generalize (A.take k).filter (fun q => priceP p inst q.price == 0) = O at *
      clear hcq hq
      go_upto_region 5 with (fail)
      clear q0 q1 q2 q3 q4 q5 hgl
      have HQB : Hid (Blk (wz.alloc (.cells #[.int .i64 q.price, .int .i64 q.qty, .int .i64 q.i0, .int .i64 q.s0, .int .i64 q.i1, .int .i64 q.s1] 38)) wz.heap.size 38 #[.int .i64 q.price, .int .i64 q.qty, .int .i64 q.i0, .int .i64 q.s0, .int .i64 q.i1, .int .i64 q.s1]) := Lib.hid (Blk.new _ _ _)
      have HS2 := Lib.hid (HS.out.next (Below.allocN wz (.cells #[.int .i64 q.price, .int .i64 q.qty, .int .i64 q.i0, .int .i64 q.s0, .int .i64 q.i1, .int .i64 q.s1] 38)))
      clear HS
      obtain ⟨gq, hgq⟩ : ∃ gq, wz.heap.size = gq := ⟨_, rfl⟩
      rw [hgq] at HQB ⊢
      clear hgq
      generalize wz.alloc (.cells #[.int .i64 q.price, .int .i64 q.qty, .int .i64 q.i0, .int .i64 q.s0, .int .i64 q.i1, .int .i64 q.s1] 38) = w3 at *
      have hpr := HPR.out q.price _ HS2.out.pv
      obtain ⟨pr, hprv⟩ : ∃ pr, priceP p inst q.price = pr := ⟨_, rfl⟩
      rw [hprv] at hpr HTK
      clear hprv
      have c0 : w3.cell? ⟨gq, 0, none⟩ = some (.int .i64 q.price) := HQB.out.cell 0
      obtain ⟨b0, b1, b2, b3, b4, b5, b6, b7, b8, b9, b10⟩ := HS2.out.pc
      go_wp2_with fail
      refine hpr.mono ?_
      rintro e w4 ⟨rfl, hb⟩
      have HS4 := Lib.hid (HS2.out.next hb)
      have HQ4 := Lib.hid (HQB.out.below hb)
      clear hpr hb c0 b0 b1 b2 b3 b4 b5 b6 b7 b8 b9 b10 HS2 HQB
      cases hz : (pr == 0) with
      | false =>
        rw [hz, if_neg (by simp), List.append_nil] at HTK
        go_wp2_with fail
        go_roundw
        case rel => exact ⟨k + 1, vo, rfl, by go_num, by omega, by rw [HTK.out]; exact HS4.out⟩
        case measure => simp [intOf]; omega
      | true =>
        rw [hz, if_pos rfl] at HTK
        have c0 : w4.cell? ⟨gq, 0, none⟩ = some (.int .i64 q.price) := HQ4.out.cell 0
        have c1 : w4.cell? ⟨gq, 1, none⟩ = some (.int .i64 q.qty) := HQ4.out.cell 1
        have c2 : w4.cell? ⟨gq, 2, none⟩ = some (.int .i64 q.i0) := HQ4.out.cell 2
        have c3 : w4.cell? ⟨gq, 3, none⟩ = some (.int .i64 q.s0) := HQ4.out.cell 3
        have c4 : w4.cell? ⟨gq, 4, none⟩ = some (.int .i64 q.i1) := HQ4.out.cell 4
        have c5 : w4.cell? ⟨gq, 5, none⟩ = some (.int .i64 q.s1) := HQ4.out.cell 5
        have hnew : Blk (w4.alloc (.cells #[.int .i64 q.price, .int .i64 q.qty, .int .i64 q.i0, .int .i64 q.s0, .int .i64 q.i1, .int .i64 q.s1] 38)) w4.heap.size 38 #[.int .i64 q.price, .int .i64 q.qty, .int .i64 q.i0, .int .i64 q.s0, .int .i64 q.i1, .int .i64 q.s1] := Blk.new _ _ _
        have HNEW := Lib.hid hnew
        have HS5 := Lib.hid (HS4.out.next (Below.allocN w4 (.cells #[.int .i64 q.price, .int .i64 q.qty, .int .i64 q.i0, .int .i64 q.s0, .int .i64 q.i1, .int .i64 q.s1] 38)))
        clear hnew
        go_wp2_with (first
          | (at_builtin; go_loud (refine QT.push rfl (.tmp 28) (.tmp 30) rfl w.heap.size vo O rfl HS5.out.ro w4.heap.size q rfl HNEW.out.lt HNEW.out.cellsAt (by omega) HS5.out.bel.size ?_)))
        intro vo' w6 hr6 hg6 ho6
        have HS6 := Lib.hid (HS5.out.push hr6 hg6 (by rw [s1]; exact ho6))
        clear hr6 hg6 ho6 c0 c1 c2 c3 c4 c5 HS5 HNEW HS4
        rw [← HTK.out] at HS6
        go_wp2_with fail
        go_roundw
        case rel => exact ⟨k + 1, vo', rfl, by go_num, by omega, HS6.out⟩
        case measure => simp [intOf]; omega
    · obtain rfl : k = A.length := by omega
      have hro := HS.out.ro
      rw [List.take_length] at hro
      have HR := Lib.hid hro
      have HBL := Lib.hid HS.out.bel
      clear hro HS
      go_wp2_with fail
      go_ret
      exact ⟨_, rfl, HR.out, HBL.out⟩
end Go.Proofs.Ytilficlanliinaa
