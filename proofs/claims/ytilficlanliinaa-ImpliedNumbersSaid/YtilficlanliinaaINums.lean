/- The walk of cornhilllaw14.ImpliedNumbers. -/
import Derived.Test.YtilficlanliinaaHeld
import Derived.Deep.DeepCutAuto
namespace Go.Proofs.Ytilficlanliinaa
open Go.RowKit

/-- a row of six tops, whatever they are -/
def Six (w : World) (g : Nat) : Prop := ∃ S : List Tp, S.length = 6 ∧ (∀ x ∈ S, x.ok) ∧ Blk w g 42 (S.flatMap Tp.cells).toArray
theorem set_mem {S : List Tp} {i : Nat} {x y : Tp} (h : y ∈ S.set i x) : y = x ∨ y ∈ S := by
  rcases List.mem_or_eq_of_mem_set h with h | h
  · exact .inr h
  · exact .inl h
theorem Six.put {w : World} {g : Nat} (h : Six w g) {i : Nat} (hi : i < 6) (x : Tp) (hx : x.ok) : Six ((((((w.setCell ⟨g, i * 6, none⟩ (.bool x.h0)).setCell ⟨g, i * 6 + 1, none⟩ (.bool x.h1)).setCell ⟨g, i * 6 + 2, none⟩ (.int .i64 x.p0)).setCell ⟨g, i * 6 + 3, none⟩ (.int .i64 x.p1)).setCell ⟨g, i * 6 + 4, none⟩ (.int .i64 x.q0)).setCell ⟨g, i * 6 + 5, none⟩ (.int .i64 x.q1)) g := by
  obtain ⟨S, hl, hok, hb⟩ := h
  obtain ⟨e, he⟩ : ∃ e, S[i]? = some e := ⟨_, List.getElem?_eq_getElem (by omega)⟩
  have hl' : i < S.length := by omega
  have hg : ∀ (S : List Tp) (y : Tp), i < S.length → (S.set i y)[i]? = some y := fun S y h => List.getElem?_set_self h
  have h1 := tps_set hb i 0 e { e with h0 := x.h0 } (.bool x.h0) he (by omega) rfl
  have h2 := tps_set h1 i 1 _ { e with h0 := x.h0, h1 := x.h1 } (.bool x.h1) (hg _ _ hl') (by omega) rfl
  rw [List.set_set] at h2
  have h3 := tps_set h2 i 2 _ { e with h0 := x.h0, h1 := x.h1, p0 := x.p0 } (.int .i64 x.p0) (hg _ _ hl') (by omega) rfl
  rw [List.set_set] at h3
  have h4 := tps_set h3 i 3 _ { e with h0 := x.h0, h1 := x.h1, p0 := x.p0, p1 := x.p1 } (.int .i64 x.p1) (hg _ _ hl') (by omega) rfl
  rw [List.set_set] at h4
  have h5 := tps_set h4 i 4 _ { e with h0 := x.h0, h1 := x.h1, p0 := x.p0, p1 := x.p1, q0 := x.q0 } (.int .i64 x.q0) (hg _ _ hl') (by omega) rfl
  rw [List.set_set] at h5
  have h6 := tps_set h5 i 5 _ x (.int .i64 x.q1) (hg _ _ hl') (by omega) rfl
  rw [List.set_set] at h6
  exact ⟨S.set i x, by rw [List.length_set]; exact hl, fun y hy => by
    rcases set_mem hy with rfl | hy
    · exact hx
    · exact hok y hy, h6⟩
theorem Six.price {w : World} {g : Nat} (h : Six w g) {i : Nat} (hi : i < 6) (a b : Int) (ha : i64ok a) (hb : i64ok b) : Six ((w.setCell ⟨g, i * 6 + 2, none⟩ (.int .i64 a)).setCell ⟨g, i * 6 + 3, none⟩ (.int .i64 b)) g := by
  obtain ⟨S, hl, hok, hbk⟩ := h
  obtain ⟨e, he⟩ : ∃ e, S[i]? = some e := ⟨_, List.getElem?_eq_getElem (by omega)⟩
  have hl' : i < S.length := by omega
  have h1 := tps_set hbk i 2 e { e with p0 := a } (.int .i64 a) he (by omega) rfl
  have h2 := tps_set h1 i 3 _ { e with p0 := a, p1 := b } (.int .i64 b) (List.getElem?_set_self hl') (by omega) rfl
  rw [List.set_set] at h2
  have heo := hok e (List.mem_of_getElem? he)
  exact ⟨S.set i { e with p0 := a, p1 := b }, by rw [List.length_set]; exact hl, fun y hy => by
    rcases set_mem hy with rfl | hy
    · exact ⟨ha, hb, heo.q0, heo.q1⟩
    · exact hok y hy, h2⟩
theorem Six.cells {w : World} {g : Nat} (h : Six w g) {i : Nat} (hi : i < 6) : ∃ e : Tp, TpAt w g (i * 6) e ∧ ∀ o, w.frozen? ⟨g, o, none⟩ = false := by
  obtain ⟨S, hl, _, hb⟩ := h
  obtain ⟨e, he⟩ : ∃ e, S[i]? = some e := ⟨_, List.getElem?_eq_getElem (by omega)⟩
  exact ⟨e, ⟨tps_cell hb i 0 e he (by omega), tps_cell hb i 1 e he (by omega), tps_cell hb i 2 e he (by omega), tps_cell hb i 3 e he (by omega), tps_cell hb i 4 e he (by omega), tps_cell hb i 5 e he (by omega)⟩, fun o => hb.frozen o⟩
theorem Six.below {w w' : World} {g : Nat} (h : Six w g) (hb : Below w.heap.size w w') : Six w' g := by
  obtain ⟨S, h1, h2, h3⟩ := h
  exact ⟨S, h1, h2, h3.below hb⟩
theorem Six.lt {w : World} {g : Nat} (h : Six w g) : g < w.heap.size := by
  obtain ⟨S, _, _, h3⟩ := h
  exact h3.lt
theorem setAll {w w1 : World} {g : Nat} (h : Below w.heap.size w w1) (hg : w.heap.size ≤ g) (i : Nat) (u : Value) : Below w.heap.size w (w1.setCell ⟨g, i, none⟩ u) :=
  h.trans (((Keeps.refl (fun k => k = g) w1).setCell (p := ⟨g, i, none⟩) (fun _ => rfl) u).below (fun k hk => by have hk' : k = g := hk; omega) h.size)
theorem allP_nil (p : Prod) (inst side : Int) : allP p [] inst side = [] := by
  refine if_pos ?_
  unfold badAll
  rw [show (([] : List Tp).length : Int) = 0 from rfl]
  omega
theorem quotesP_nil (p : Prod) (inst side : Int) : quotesP p [] inst side = [] := by
  unfold quotesP
  rw [allP_nil]
  rfl
set_option maxRecDepth 100000 in
set_option maxHeartbeats 16000000 in
theorem inums_any (w : World) :
    Calls Try.prog 6 #[] w fun e w' => e = .returned (.bool true) ∧ Below w.heap.size w w' := by
  have s1 : ∀ (w : World) (o : Obj), (w.alloc o).heap.size = w.heap.size + 1 := fun w o => by simp
  obtain ⟨i0, hi, hz0, hz1, hz2⟩ := info_parts top_info
  have hmk := fun w => run_makeSlice (P := Try.prog) w 26 42 i0 _ Try.underlying26 hi hz0 .i64 .i64 (6 : Nat) (6 : Nat) (by omega) (by omega) (by rw [hz1]; omega) (by rw [hz2]; omega) (by omega)
  rw [hz1, Int.toNat_natCast, made_tops] at hmk
  have hmk2 : ∀ w, (Instr.makeSlice 26 (.int .i64 6) (.int .i64 6)).run Try.prog w = .ok (.slice (some ⟨w.heap.size, 0, none⟩) 6 6) (w.alloc (.cells ((List.replicate 6 zeroTp).flatMap Tp.cells).toArray 42)) := fun w => hmk w
  simp only [List.replicate_succ, List.replicate_zero, List.flatMap_cons, List.flatMap_nil, Tp.cells, zeroTp, List.cons_append, List.nil_append, List.append_nil] at hmk2
  have HMK := Lib.hid hmk2
  clear hi hz0 hz1 hz2 hmk i0 hmk2
  go_enter Try.func6, Try.ntmps6
  go_wp2_with fail
  refine (three_any 1 _).mono ?_
  rintro e w1 ⟨a, b, rfl, hp, hb1⟩
  generalize threeP 1 a b = p at *
  unfold Prod.agg Prod.cells
  go_upto_region 2 with (fail)
  have T0 : Hid (One w (w1.alloc (.cells #[.string p.code, .slice p.ma p.months.length p.mc, .int .i64 p.tick, .int .i64 p.low, .int .i64 p.high, .int .i64 p.wide, .int .i64 p.rule, .int .i64 p.top, .int .i64 p.least, .int .i64 p.part, .slice p.sa p.settle.length p.sc] 25)) w1.heap.size p) := Lib.hid ⟨hb1.trans ((Below.allocN _ _).mono hb1.size), PC.new w1 p, hp.below (Below.allocN _ _), by rw [s1]; omega⟩
  clear hp hb1
  generalize (w1.alloc (.cells #[.string p.code, .slice p.ma p.months.length p.mc, .int .i64 p.tick, .int .i64 p.low, .int .i64 p.high, .int .i64 p.wide, .int .i64 p.rule, .int .i64 p.top, .int .i64 p.least, .int .i64 p.part, .slice p.sa p.settle.length p.sc] 25)) = w2 at *
  generalize w1.heap.size = gp at *
  go_wp2_with fail
  go_loopw [2] (fun j w' => ∃ how : Nat, j = .int .i64 how ∧ how ≤ 6 ∧ One w w' gp p) (fun j _ => 6 - (intOf j).toNat)
  case atStart => exact ⟨0, rfl, by omega, T0.out⟩
  case round =>
    clear T0
    obtain ⟨how, rfl, hh, hT⟩ := hrel
    obtain ⟨wz, rfl⟩ : ∃ wo : World, wo = wr := ⟨_, rfl⟩
    have T0 := Lib.hid hT
    clear hT
    by_cases hhl : how < 6
    · have hhl' : (how : Int) < 6 := by omega
      have hm := HMK.out
      go_upto_region 6 with (fail)
      clear hm
      have HSX : Hid (Six (wz.alloc (.cells #[.bool false, .bool false, .int .i64 0, .int .i64 0, .int .i64 0, .int .i64 0, .bool false, .bool false, .int .i64 0, .int .i64 0, .int .i64 0, .int .i64 0, .bool false, .bool false, .int .i64 0, .int .i64 0, .int .i64 0, .int .i64 0, .bool false, .bool false, .int .i64 0, .int .i64 0, .int .i64 0, .int .i64 0, .bool false, .bool false, .int .i64 0, .int .i64 0, .int .i64 0, .int .i64 0, .bool false, .bool false, .int .i64 0, .int .i64 0, .int .i64 0, .int .i64 0] 42)) wz.heap.size) := Lib.hid ⟨List.replicate 6 zeroTp, by simp, fun x hx => by rw [List.eq_of_mem_replicate hx]; exact zero_ok, Blk.new _ _ _⟩
      have HBZ : Hid (Below wz.heap.size wz (wz.alloc (.cells #[.bool false, .bool false, .int .i64 0, .int .i64 0, .int .i64 0, .int .i64 0, .bool false, .bool false, .int .i64 0, .int .i64 0, .int .i64 0, .int .i64 0, .bool false, .bool false, .int .i64 0, .int .i64 0, .int .i64 0, .int .i64 0, .bool false, .bool false, .int .i64 0, .int .i64 0, .int .i64 0, .int .i64 0, .bool false, .bool false, .int .i64 0, .int .i64 0, .int .i64 0, .int .i64 0, .bool false, .bool false, .int .i64 0, .int .i64 0, .int .i64 0, .int .i64 0] 42))) := Lib.hid (Below.allocN _ _)
      generalize wz.alloc (.cells #[.bool false, .bool false, .int .i64 0, .int .i64 0, .int .i64 0, .int .i64 0, .bool false, .bool false, .int .i64 0, .int .i64 0, .int .i64 0, .int .i64 0, .bool false, .bool false, .int .i64 0, .int .i64 0, .int .i64 0, .int .i64 0, .bool false, .bool false, .int .i64 0, .int .i64 0, .int .i64 0, .int .i64 0, .bool false, .bool false, .int .i64 0, .int .i64 0, .int .i64 0, .int .i64 0, .bool false, .bool false, .int .i64 0, .int .i64 0, .int .i64 0, .int .i64 0] 42) = w3 at *
      obtain ⟨gt, hgt⟩ : ∃ gt, wz.heap.size = gt := ⟨_, rfl⟩
      rw [hgt] at HSX ⊢
      have HGT := Lib.hid hgt
      clear hgt
      go_wp2_with fail
      go_loopw [4] (fun j w' => ∃ i : Nat, j = .int .i64 i ∧ i ≤ 6 ∧ Six w' gt ∧ Below wz.heap.size wz w') (fun j _ => 6 - (intOf j).toNat)
      case atStart => exact ⟨0, rfl, by omega, HSX.out, HBZ.out⟩
      case round =>
        clear HSX HBZ
        obtain ⟨i, rfl, hi, hsx, hbz⟩ := hrel
        obtain ⟨wy, rfl⟩ : ∃ wo : World, wo = wr := ⟨_, rfl⟩
        have HSX := Lib.hid hsx
        have HBZ := Lib.hid hbz
        clear hsx hbz
        by_cases hil : i < 6
        · have hil' : (i : Int) < 6 := by omega
          have y1 : IntKind.i64.wrap (5 * (i : Int)) = 5 * (i : Int) := IntWalk.i64_in _ (by omega)
          have y2 : IntKind.i64.wrap (500 + 5 * (i : Int)) = 500 + 5 * (i : Int) := IntWalk.i64_in _ (by omega)
          have y3 : IntKind.i64.wrap (510 + 5 * (i : Int)) = 510 + 5 * (i : Int) := IntWalk.i64_in _ (by omega)
          have y4 : IntKind.i64.wrap ((i : Int) + 1) = (i : Int) + 1 := IntWalk.i64_in _ (by omega)
          have y5 : IntKind.i64.wrap (9 - (i : Int)) = 9 - (i : Int) := IntWalk.i64_in _ (by omega)
          have y6 : IntKind.i64.wrap (5 * (i : Int) - 20) = 5 * (i : Int) - 20 := IntWalk.i64_in _ (by omega)
          have y7 : IntKind.i64.wrap (5 * (i : Int) + 20) = 5 * (i : Int) + 20 := IntWalk.i64_in _ (by omega)
          have HO : Hid (i64ok (500 + 5 * (i : Int)) ∧ i64ok (510 + 5 * (i : Int)) ∧ i64ok ((i : Int) + 1) ∧ i64ok (9 - (i : Int)) ∧ i64ok (5 * (i : Int) - 20) ∧ i64ok (5 * (i : Int) + 20)) := Lib.hid (by unfold i64ok; omega)
          go_upto_region 10 with (fail)
          go_cut [50] (fun _ wx => Six wx gt ∧ Below wz.heap.size wz wx)
          case first =>
            obtain ⟨e, ⟨c0, c1, c2, c3, c4, c5⟩, fz⟩ := HSX.out.cells hil
            have HB6 : Hid (∀ u0 u1 u2 u3 u4 u5 : Value, Below wz.heap.size wz ((((((wy.setCell ⟨gt, i * 6, none⟩ u0).setCell ⟨gt, i * 6 + 1, none⟩ u1).setCell ⟨gt, i * 6 + 2, none⟩ u2).setCell ⟨gt, i * 6 + 3, none⟩ u3).setCell ⟨gt, i * 6 + 4, none⟩ u4).setCell ⟨gt, i * 6 + 5, none⟩ u5)) := Lib.hid fun _ _ _ _ _ _ =>
              setAll (setAll (setAll (setAll (setAll (setAll HBZ.out (Nat.le_of_eq HGT.out) _ _) (Nat.le_of_eq HGT.out) _ _) (Nat.le_of_eq HGT.out) _ _) (Nat.le_of_eq HGT.out) _ _) (Nat.le_of_eq HGT.out) _ _) (Nat.le_of_eq HGT.out) _ _
            by_cases h1 : how = 1
            · subst h1
              go_wp2_with fail
              go_meet
              exact ⟨HSX.out.put hil ⟨_, _, _, _, _, _⟩ ⟨HO.out.1, HO.out.2.1, HO.out.2.2.1, HO.out.2.2.2.1⟩, HB6.out _ _ _ _ _ _⟩
            · by_cases h2 : how = 2
              · subst h2
                go_wp2_with fail
                go_meet
                exact ⟨HSX.out.put hil ⟨_, _, _, _, _, _⟩ ⟨HO.out.1, HO.out.2.1, HO.out.2.2.1, HO.out.2.2.2.1⟩, HB6.out _ _ _ _ _ _⟩
              · have e1 : ((how : Int) != 1) = true := by rw [bne_iff_ne]; omega
                have e2 : ((how : Int) != 2) = true := by rw [bne_iff_ne]; omega
                clear h1 h2
                go_wp2_with fail
                go_meet
                exact ⟨HSX.out.put hil ⟨_, _, _, _, _, _⟩ ⟨HO.out.1, HO.out.2.1, HO.out.2.2.1, HO.out.2.2.2.1⟩, HB6.out _ _ _ _ _ _⟩
          case rest =>
          obtain ⟨hsx, hbz⟩ := hcut
          obtain ⟨w4, rfl⟩ : ∃ wo : World, wo = wc := ⟨_, rfl⟩
          have HS1 := Lib.hid hsx
          have HB1 := Lib.hid hbz
          clear hsx hbz HSX HBZ
          go_upto_if 53 with (fail)
          go_cut [53] (fun _ wx => Six wx gt ∧ Below wz.heap.size wz wx)
          case first =>
            by_cases h2 : 2 < i
            · have h2' : (2 : Int) < (i : Int) := by omega
              obtain ⟨e, ⟨c0, c1, c2, c3, c4, c5⟩, fz⟩ := HS1.out.cells hil
              have HB6 : Hid (∀ u0 u1 : Value, Below wz.heap.size wz ((w4.setCell ⟨gt, i * 6 + 2, none⟩ u0).setCell ⟨gt, i * 6 + 3, none⟩ u1)) := Lib.hid fun _ _ =>
                setAll (setAll HB1.out (Nat.le_of_eq HGT.out) _ _) (Nat.le_of_eq HGT.out) _ _
              go_wp2_with fail
              go_meet
              exact ⟨HS1.out.price hil _ _ HO.out.2.2.2.2.1 HO.out.2.2.2.2.2, HB6.out _ _⟩
            · have h2' : ¬ (2 : Int) < (i : Int) := by omega
              go_wp2_with fail
              go_meet
              exact ⟨HS1.out, HB1.out⟩
          case rest =>
          obtain ⟨hsx, hbz⟩ := hcut
          obtain ⟨w4, rfl⟩ : ∃ wo : World, wo = wc := ⟨_, rfl⟩
          have HS2 := Lib.hid hsx
          have HB2 := Lib.hid hbz
          clear hsx hbz HS1 HB1
          have HB6 : Hid (∀ u0 u1 : Value, Below wz.heap.size wz ((w4.setCell ⟨gt, i * 6 + 2, none⟩ u0).setCell ⟨gt, i * 6 + 3, none⟩ u1)) := Lib.hid fun _ _ =>
            setAll (setAll HB2.out (Nat.le_of_eq HGT.out) _ _) (Nat.le_of_eq HGT.out) _ _
          by_cases n3 : how = 3
          · subst n3
            obtain ⟨e, ⟨c0, c1, c2, c3, c4, c5⟩, fz⟩ := HS2.out.cells hil
            go_wp2_with fail
            go_roundw
            case rel => exact ⟨i + 1, rfl, by omega, HS2.out.price hil _ _ (by unfold i64ok; omega) (by unfold i64ok; omega), HB6.out _ _⟩
            case measure => simp [intOf]; omega
          · by_cases n4 : how = 4
            · subst n4
              obtain ⟨e, ⟨c0, c1, c2, c3, c4, c5⟩, fz⟩ := HS2.out.cells hil
              go_wp2_with fail
              go_roundw
              case rel => exact ⟨i + 1, rfl, by omega, HS2.out.price hil _ _ (by unfold i64ok; omega) (by unfold i64ok; omega), HB6.out _ _⟩
              case measure => simp [intOf]; omega
            · by_cases n5 : how = 5
              · subst n5
                obtain ⟨e, ⟨c0, c1, c2, c3, c4, c5⟩, fz⟩ := HS2.out.cells hil
                go_wp2_with fail
                go_roundw
                case rel => exact ⟨i + 1, rfl, by omega, HS2.out.price hil _ _ (by unfold i64ok; omega) (by unfold i64ok; omega), HB6.out _ _⟩
                case measure => simp [intOf]; omega
              · have m3 : ¬ (how : Int) = 3 := by omega
                have m4 : ¬ (how : Int) = 4 := by omega
                have m5 : ¬ (how : Int) = 5 := by omega
                clear n3 n4 n5
                go_wp2_with fail
                go_roundw
                case rel => exact ⟨i + 1, rfl, by omega, HS2.out, HB2.out⟩
                case measure => simp [intOf]; omega
        · have hil' : ¬ (i : Int) < 6 := by omega
          obtain ⟨S, hSl, hSok, hSb⟩ := HSX.out
          have T1 := Lib.hid (T0.out.next HBZ.out)
          have HK : Hid (∀ (x sd : Int) (wv : World), Below wy.heap.size wy wv → Calls Try.prog 20 #[p.agg, .slice (some ⟨gt, 0, none⟩) 6 6, .int .i64 x, .int .i64 sd] wv fun e w' => e = .returned (.bool true) ∧ Below wv.heap.size wv w') := Lib.hid fun x sd wv hb => by
            have h := held_any p x sd (some ⟨gt, 0, none⟩) 6 S wv (T1.out.pv.below hb) (hSb.tops.below hb) hSok (by omega)
            rw [hSl] at h
            exact h
          unfold Prod.agg Prod.cells at HK
          have HB0 : Hid (Below wy.heap.size wy wy) := Lib.hid (Below.refl _ _)
          clear hSl hSok hSb HSX HBZ T0 HMK hi hil S
          go_wp2_with fail
          go_loopw [6] (fun j w' => ∃ x : Int, j = .int .i64 x ∧ -1 ≤ x ∧ x ≤ 7 ∧ Below wy.heap.size wy w') (fun j _ => (7 - intOf j).toNat)
          case atStart => exact ⟨-1, rfl, by omega, by omega, HB0.out⟩
          case round =>
            clear HB0
            obtain ⟨x, rfl, hx1, hx2, hb⟩ := hrel
            obtain ⟨wv, rfl⟩ : ∃ wo : World, wo = wr := ⟨_, rfl⟩
            have HB1 := Lib.hid hb
            clear hb
            have y1 : IntKind.i64.wrap (x + 1) = x + 1 := IntWalk.i64_in _ (by omega)
            by_cases hx : x < 7
            · go_wp2_with fail
              go_loopw [7] (fun j w' => ∃ sd : Int, j = .int .i64 sd ∧ 0 ≤ sd ∧ sd ≤ 4 ∧ Below wy.heap.size wy w') (fun j _ => (4 - intOf j).toNat)
              case atStart => exact ⟨0, rfl, by omega, by omega, HB1.out⟩
              case round =>
                clear HB1
                obtain ⟨sd, rfl, hs1, hs2, hb⟩ := hrel
                obtain ⟨wu, rfl⟩ : ∃ wo : World, wo = wr := ⟨_, rfl⟩
                have HB1 := Lib.hid hb
                clear hb
                have y2 : IntKind.i64.wrap (sd + 1) = sd + 1 := IntWalk.i64_in _ (by omega)
                by_cases hs : sd < 4
                · obtain ⟨b0, b1, b2, b3, b4, b5, b6, b7, b8, b9, b10⟩ := (T1.out.next HB1.out).pc
                  go_wp2_with fail
                  refine (HK.out x sd _ HB1.out).mono ?_
                  rintro e w5 ⟨rfl, hb⟩
                  have HB3 := Lib.hid (HB1.out.trans (hb.mono HB1.out.size))
                  clear hb b0 b1 b2 b3 b4 b5 b6 b7 b8 b9 b10
                  go_wp2_with fail
                  go_roundw
                  case rel => exact ⟨sd + 1, rfl, by omega, by omega, HB3.out⟩
                  case measure => simp [intOf]; omega
                · go_wp2_with fail
                  go_roundw
                  case rel => exact ⟨x + 1, rfl, by omega, by omega, HB1.out⟩
                  case measure => simp [intOf]; omega
            · go_wp2_with fail
              go_roundw
              case rel => exact ⟨how + 1, congrArg (Value.int .i64) (by omega), by omega, T1.out.next HB1.out⟩
              case measure => simp [intOf]; omega
    · have hhl' : ¬ (how : Int) < 6 := by omega
      have hB := best_any [] none 0 1 wz Lay.Rd.nil (by simp) (.inl rfl)
      rw [show bestP [] 1 = (zeroQt, false) from rfl] at hB
      simp only [Qt.cells, zeroQt, List.length_nil] at hB
      have HB := Lib.hid hB
      clear hB HMK
      go_wp2_with fail
      refine HB.out.mono ?_
      rintro e w3 ⟨rfl, hb⟩
      have T1 := Lib.hid (T0.out.next hb)
      clear hb T0 HB
      have HN : Hid (∀ wv, PV wv p → Calls Try.prog 13 #[p.agg, .slice none 0 0, .int .i64 0, .int .i64 1] wv fun e w' => ∃ v, e = .returned v ∧ QT.Row w' wv.heap.size v (quotesP p [] 0 1) ∧ Below wv.heap.size wv w') := Lib.hid fun wv hv => quotes_any p 0 1 none 0 [] wv hv Lay.Rd.nil (by simp) (by simp) (by have := allP_len p [] 0 1; simp at this ⊢; omega)
      unfold Prod.agg Prod.cells at HN
      obtain ⟨b0, b1, b2, b3, b4, b5, b6, b7, b8, b9, b10⟩ := T1.out.pc
      go_upto_region 29 with (fail)
      clear b0 b1 b2 b3 b4 b5 b6 b7 b8 b9 b10
      have T2 := Lib.hid (T1.out.next (Below.allocN w3 (.cells #[.int .i64 0, .int .i64 0, .int .i64 0, .int .i64 0, .int .i64 0, .int .i64 0] 38)))
      generalize w3.alloc _ = w4 at *
      obtain ⟨b0, b1, b2, b3, b4, b5, b6, b7, b8, b9, b10⟩ := T2.out.pc
      go_wp2_with fail
      refine (HN.out _ T2.out.pv).mono ?_
      rintro e w5 ⟨v, rfl, hr, hb⟩
      rw [quotesP_nil] at hr
      obtain ⟨va, vc, rfl⟩ := hr.form
      have T3 := Lib.hid (T2.out.next hb)
      clear hr hb T2 b0 b1 b2 b3 b4 b5 b6 b7 b8 b9 b10
      simp only [List.length_nil]
      have HZ : Hid (∀ wv, Calls Try.prog 17 #[zeroP.agg, .slice none 0 0, .int .i64 0, .int .i64 1] wv fun e w' => ∃ v, e = .returned v ∧ QT.Row w' wv.heap.size v (allP zeroP [] 0 1) ∧ Below wv.heap.size wv w') := Lib.hid fun wv => all_any zeroP 0 1 none 0 [] wv (zero_pv wv) Lay.Rd.nil (by simp) (by simp)
      unfold Prod.agg Prod.cells zeroP at HZ
      simp only [List.length_nil] at HZ
      go_wp2_with fail
      refine (HZ.out _).mono ?_
      rintro e w6 ⟨v, rfl, hr, hb⟩
      rw [allP_nil] at hr
      obtain ⟨va, vc, rfl⟩ := hr.form
      have T4 := Lib.hid (T3.out.next hb)
      clear hr hb T3 HZ
      simp only [List.length_nil]
      go_wp2_with fail
      refine (known14_any _).mono ?_
      rintro e w7 ⟨rfl, hb⟩
      have T5 := Lib.hid (T4.out.next hb)
      clear hb T4
      go_wp2_with fail
      go_ret
      exact ⟨by trivial, T5.out.bel⟩
end Go.Proofs.Ytilficlanliinaa
