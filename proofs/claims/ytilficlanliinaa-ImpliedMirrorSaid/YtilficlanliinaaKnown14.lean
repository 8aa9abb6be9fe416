/- The walk of cornhilllaw14.known. -/
import Derived.Test.YtilficlanliinaaTops
namespace Go.Proofs.Ytilficlanliinaa
open Go.RowKit

theorem three_count (r : Int) (h : 1 ≤ r ∧ r ≤ 3) (a b : Nat) : countP (threeP r a b) = 6 := by rw [countP_some (three_check r h a b)]; show ((countN 3 : Nat) : Int) = 6; decide
theorem three_legs0 (r : Int) (h : 1 ≤ r ∧ r ≤ 3) (a b : Nat) : legsP (threeP r a b) 0 = (0, 0, false) := by
  unfold legsP
  rw [three_count r h, if_neg (by omega), if_pos (by show (0 : Int) < (3 : Nat); omega)]
theorem three_spread (r : Int) (h : 1 ≤ r ∧ r ≤ 3) (a b : Nat) (i j : Int) (hij : 0 ≤ i ∧ i < j ∧ j < 3) : spreadP (threeP r a b) i j = (3 + (offN 3 i.toNat : Nat) + (j - i - 1), true) := by
  unfold spreadP
  rw [if_pos ⟨three_check r h a b, hij⟩]
  rfl
def knownL : List Tp := [zeroTp, ⟨false, true, 0, 100, 0, 4⟩, zeroTp, ⟨false, true, 0, 5, 0, 7⟩, zeroTp, zeroTp]
theorem known_all (a b : Nat) : allP (threeP 1 a b) knownL 0 2 = [⟨105, 4, 3, 2, 1, 2⟩] := by
  have hc := three_count 1 (by omega) a b
  unfold allP
  rw [if_neg (by unfold badAll; rw [hc]; show ¬ ((6 : Int) = 0 ∨ ((6 : Nat) : Int) ≠ 6 ∨ (0 : Int) < 0 ∨ (6 : Int) ≤ 0 ∨ ((2 : Int) ≠ 1 ∧ (2 : Int) ≠ 2)); omega), three_legs0 1 (by omega), if_neg (by simp)]
  show ups (threeP 1 a b) knownL 0 2 2 ++ downs (threeP 1 a b) knownL 0 2 0 = _
  simp only [ups, downs, List.append_nil, List.nil_append, Nat.add_zero, Nat.zero_add, Nat.reduceAdd]
  rw [show ((0 : Nat) : Int) = 0 from rfl, show ((1 : Nat) : Int) = 1 from rfl, show ((2 : Nat) : Int) = 2 from rfl, three_spread 1 (by omega) a b 0 1 (by omega), three_spread 1 (by omega) a b 0 2 (by omega)]
  decide
theorem known_quotes (a b : Nat) : quotesP (threeP 1 a b) knownL 0 2 = [⟨105, 4, 3, 2, 1, 2⟩] := by
  unfold quotesP
  rw [known_all a b]
  have : priceP (threeP 1 a b) 0 105 = 0 := by
    have hc := three_count 1 (by omega) a b
    unfold priceP
    rw [hc]
    simp [threeP, lowP, highP]
  show List.filter _ [_] = _
  rw [List.filter_cons_of_pos (by rw [this]; rfl)]
  rfl
theorem known_ok : ∀ x ∈ knownL, x.ok := by
  intro x hx
  have : x = zeroTp ∨ x = ⟨false, true, 0, 100, 0, 4⟩ ∨ x = ⟨false, true, 0, 5, 0, 7⟩ := by
    simp only [knownL, List.mem_cons, List.not_mem_nil, or_false] at hx
    rcases hx with h | h | h | h | h | h
    · exact .inl h
    · exact .inr (.inl h)
    · exact .inl h
    · exact .inr (.inr h)
    · exact .inl h
    · exact .inl h
  rcases this with rfl | rfl | rfl <;> exact ⟨by decide, by decide, by decide, by decide⟩
/-- a block that holds tops reads as tops -/
theorem Blk.tops {w : World} {g : Nat} {t : TypeId} {S : List Tp} (h : Blk w g t (S.flatMap Tp.cells).toArray) : TP.Rd w (some ⟨g, 0, none⟩) S := by
  intro j e hj
  refine ⟨g, 0, rfl, h.lt, fun k u hu => ?_⟩
  have hk : k < 6 := lt_of_get hu
  rw [Nat.zero_add]
  exact (tps_cell h j k e hj hk).trans hu
set_option maxRecDepth 100000 in
set_option maxHeartbeats 16000000 in
theorem known14_any (w : World) :
    Calls Try.prog 16 #[] w fun e w' => e = .returned (.bool true) ∧ Below w.heap.size w w' := by
  have s1 : ∀ (w : World) (o : Obj), (w.alloc o).heap.size = w.heap.size + 1 := fun w o => by simp
  obtain ⟨i0, hi, hz0, hz1, hz2⟩ := info_parts top_info
  have hmk := fun w => run_makeSlice (P := Try.prog) w 26 42 i0 _ Try.underlying26 hi hz0 .i64 .i64 (6 : Nat) (6 : Nat) (by omega) (by omega) (by rw [hz1]; omega) (by rw [hz2]; omega) (by omega)
  rw [hz1, Int.toNat_natCast, made_tops] at hmk
  have hmk2 : ∀ w, (Instr.makeSlice 26 (.int .i64 6) (.int .i64 6)).run Try.prog w = .ok (.slice (some ⟨w.heap.size, 0, none⟩) 6 6) (w.alloc (.cells ((List.replicate 6 zeroTp).flatMap Tp.cells).toArray 42)) := fun w => hmk w
  simp only [List.replicate_succ, List.replicate_zero, List.flatMap_cons, List.flatMap_nil, Tp.cells, zeroTp, List.cons_append, List.nil_append, List.append_nil] at hmk2
  clear hi hz0 hz1 hz2 hmk i0
  go_enter Try.func16, Try.ntmps16
  go_wp2_with fail
  refine (three_any 1 _).mono ?_
  rintro e w1 ⟨a, b, rfl, hp, hb1⟩
  have HQ := Lib.hid (known_quotes a b)
  have HA := Lib.hid (known_all a b)
  generalize threeP 1 a b = p at *
  unfold Prod.agg Prod.cells
  go_upto_region 2 with (fail)
  have T0 : Hid (One w (w1.alloc (.cells #[.string p.code, .slice p.ma p.months.length p.mc, .int .i64 p.tick, .int .i64 p.low, .int .i64 p.high, .int .i64 p.wide, .int .i64 p.rule, .int .i64 p.top, .int .i64 p.least, .int .i64 p.part, .slice p.sa p.settle.length p.sc] 25)) w1.heap.size p) := Lib.hid ⟨hb1.trans ((Below.allocN _ _).mono hb1.size), PC.new w1 p, hp.below (Below.allocN _ _), by rw [s1]; omega⟩
  clear hp hb1
  generalize (w1.alloc (.cells #[.string p.code, .slice p.ma p.months.length p.mc, .int .i64 p.tick, .int .i64 p.low, .int .i64 p.high, .int .i64 p.wide, .int .i64 p.rule, .int .i64 p.top, .int .i64 p.least, .int .i64 p.part, .slice p.sa p.settle.length p.sc] 25)) = w2 at *
  go_upto_region 5 with (fail)
  clear hmk2
  have hk : Blk (w2.alloc (.cells (knownL.flatMap Tp.cells).toArray 42)) w2.heap.size 42 (knownL.flatMap Tp.cells).toArray := Blk.new _ _ _
  have T1 := Lib.hid (T0.out.next (Below.allocN w2 (.cells (knownL.flatMap Tp.cells).toArray 42)))
  have hq := quotes_any p 0 2 (some ⟨w2.heap.size, 0, none⟩) 6 knownL _ T1.out.pv hk.tops known_ok (by decide) (by rw [HA.out]; decide)
  rw [HQ.out] at hq
  unfold Prod.agg Prod.cells at hq
  have HQU := Lib.hid hq
  clear hq hk T0 HQ HA
  rw [show knownL.length = 6 from rfl] at HQU
  simp only [knownL, List.flatMap_cons, List.flatMap_nil, Tp.cells, zeroTp, List.cons_append, List.nil_append, List.append_nil] at HQU T1
  generalize w2.alloc _ = w3 at *
  obtain ⟨b0, b1, b2, b3, b4, b5, b6, b7, b8, b9, b10⟩ := T1.out.pc
  go_wp2_with fail
  refine HQU.out.mono ?_
  rintro e w4 ⟨v, rfl, hr, hb⟩
  have T2 := Lib.hid (T1.out.next hb)
  obtain ⟨g, cap, rfl, _, hc⟩ := hr.at_ 0 _ rfl
  have c0 : w4.cell? ⟨g, 0, none⟩ = some (.int .i64 105) := hc 0 _ rfl
  have c1 : w4.cell? ⟨g, 1, none⟩ = some (.int .i64 4) := hc 1 _ rfl
  have c2 : w4.cell? ⟨g, 2, none⟩ = some (.int .i64 3) := hc 2 _ rfl
  have c4 : w4.cell? ⟨g, 4, none⟩ = some (.int .i64 1) := hc 4 _ rfl
  simp only [List.length_singleton]
  clear hr hb hc T1 HQU b0 b1 b2 b3 b4 b5 b6 b7 b8 b9 b10
  go_wp2_with fail
  go_ret
  exact ⟨by trivial, T2.out.bel⟩
end Go.Proofs.Ytilficlanliinaa
