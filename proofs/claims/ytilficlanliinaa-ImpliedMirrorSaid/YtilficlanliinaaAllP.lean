/- What All makes, as plain lists; make at a side; where All stands. -/
import Derived.Test.YtilficlanliinaaMk14
import Derived.Test.YtilficlanliinaaSpr5
namespace Go.Proofs.Ytilficlanliinaa
open Go.RowKit

/-- the quotes of a month with the k months behind it -/
def ups (p : Prod) (L : List Tp) (i : Nat) (side : Int) : Nat → List Qt
  | 0 => []
  | k + 1 => ups p L i side k ++ (mkQ L (spreadP p (i : Int) ((i + 1 + k : Nat) : Int)).1 side ((i + 1 + k : Nat) : Int) side false).toList
/-- the quotes of a month with the first k months ahead of it -/
def downs (p : Prod) (L : List Tp) (i : Nat) (side : Int) : Nat → List Qt
  | 0 => []
  | k + 1 => downs p L i side k ++ (mkQ L (spreadP p (k : Int) (i : Int)).1 (3 - side) (k : Int) side true).toList
def badAll (p : Prod) (L : List Tp) (inst side : Int) : Prop := countP p = 0 ∨ (L.length : Int) ≠ countP p ∨ inst < 0 ∨ countP p ≤ inst ∨ (side ≠ 1 ∧ side ≠ 2)
instance (p : Prod) (L : List Tp) (inst side : Int) : Decidable (badAll p L inst side) := by unfold badAll; infer_instance
def swapQ (q : Qt) : Qt := ⟨q.price, q.qty, q.i1, q.s1, q.i0, q.s0⟩
def allP (p : Prod) (L : List Tp) (inst side : Int) : List Qt :=
  if badAll p L inst side then [] else
  if (legsP p inst).2.2 = true then ((mkQ L (legsP p inst).2.1 (3 - side) (legsP p inst).1 side true).map swapQ).toList
  else ups p L inst.toNat side (p.months.length - (inst.toNat + 1)) ++ downs p L inst.toNat side inst.toNat
theorem opt_len {α : Type} (o : Option α) : o.toList.length ≤ 1 := by cases o <;> simp
theorem ups_len (p : Prod) (L : List Tp) (i : Nat) (side : Int) (k : Nat) : (ups p L i side k).length ≤ k := by
  induction k with
  | zero => simp [ups]
  | succ k ih => have := opt_len (mkQ L (spreadP p (i : Int) ((i + 1 + k : Nat) : Int)).1 side ((i + 1 + k : Nat) : Int) side false); simp only [ups, List.length_append]; omega
theorem downs_len (p : Prod) (L : List Tp) (i : Nat) (side : Int) (k : Nat) : (downs p L i side k).length ≤ k := by
  induction k with
  | zero => simp [downs]
  | succ k ih => have := opt_len (mkQ L (spreadP p (k : Int) (i : Int)).1 (3 - side) (k : Int) side true); simp only [downs, List.length_append]; omega
theorem spread_nat {p : Prod} (hz : checkP p = 0) {i j : Nat} (hij : i < j) (hj : j < p.months.length) : ∃ a : Nat, spreadP p (i : Int) (j : Int) = ((a : Int), true) ∧ p.months.length ≤ a ∧ (a : Int) < countP p := by
  have hl := check_len hz
  have hok : spreadOk p (i : Int) (j : Int) := ⟨by omega, by omega, by omega⟩
  refine ⟨p.months.length + offN p.months.length i + (j - i - 1), ?_, by omega, ?_⟩
  · unfold spreadP
    rw [if_pos ⟨hz, hok⟩, Int.toNat_natCast]
    congr 1
    omega
  · rw [countP_some hz]
    have he := offN_end p.months.length hl.2
    have hs := offN_succ p.months.length i
    have hm := offN_mono p.months.length (show i + 1 ≤ p.months.length by omega)
    omega
theorem other_two (s : Int) (w : World) (hs : s = 1 ∨ s = 2) :
    Calls Try.prog 26 #[.int .i64 s] w fun e w' => e = .returned (.int .i64 (3 - s)) ∧ w = w' := by
  have h := other_any s w
  have e : wrap64 (3 - s) = 3 - s := by rw [← IntWalk.i64_left]; exact IntWalk.i64_in _ (by rcases hs with rfl | rfl <;> omega)
  rw [e] at h
  exact h
theorem rother_two (s : Int) (w : World) (hs : s = 1 ∨ s = 2) :
    Calls Try.prog 44 #[.int .i64 s] w fun e w' => e = .returned (.int .i64 (3 - s)) ∧ w = w' := by
  have h := rother_any s w
  have e : wrap64 (3 - s) = 3 - s := by rw [← IntWalk.i64_left]; exact IntWalk.i64_in _ (by rcases hs with rfl | rfl <;> omega)
  rw [e] at h
  exact h
theorem make_two {W w : World} {gm : Nat} {ta : Option Addr} {c : Nat} {L : List Tp} {out : List Qt} {v : Value} (h : Mk W w gm ta c L out v) (ai bi : Nat) (sa sb : Int) (less : Bool) (ha : ai < L.length) (hb : bi < L.length) (hsa : sa = 1 ∨ sa = 2) (hsb : sb = 1 ∨ sb = 2) (hok : ∀ x ∈ L, x.ok) (hL : L.length ≤ 1000000) (ho : out.length ≤ 1000) :
    Calls Try.prog 27 #[.pointer (some ⟨gm, 0, none⟩), .agg #[.int .i64 ai, .int .i64 sa], .agg #[.int .i64 bi, .int .i64 sb], .bool less] w fun e w' => e = .returned (.tuple #[]) ∧ (∃ v', Mk W w' gm ta c L (out ++ (mkQ L ai sa bi sb less).toList) v') ∧ Keeps (fun g => g = gm ∨ v.ownBlock = some g) w w' := by
  obtain ⟨ka, hka, rfl⟩ : ∃ ka : Nat, ka < 2 ∧ sa = (ka : Int) + 1 := by
    rcases hsa with rfl | rfl
    · exact ⟨0, by omega, rfl⟩
    · exact ⟨1, by omega, rfl⟩
  obtain ⟨kb, hkb, rfl⟩ : ∃ kb : Nat, kb < 2 ∧ sb = (kb : Int) + 1 := by
    rcases hsb with rfl | rfl
    · exact ⟨0, by omega, rfl⟩
    · exact ⟨1, by omega, rfl⟩
  have hx := List.getElem?_eq_getElem ha
  have hy := List.getElem?_eq_getElem hb
  exact make_any h ai bi ka kb less _ _ hx hy hka hkb (hok _ (List.mem_of_getElem? hx)) (hok _ (List.mem_of_getElem? hy)) hL ho
/-- where All stands: the product's box, the maker -/
structure AllS (w w1 : World) (p : Prod) (gm : Nat) (ta : Option Addr) (c : Nat) (L : List Tp) (out : List Qt) (v : Value) : Prop where
  mm : Mk w w1 gm ta c L out v
  box : Blk w1 w.heap.size 25 p.cells
  pv0 : PV w p
section
variable {w w1 w2 : World} {p : Prod} {gm : Nat} {ta : Option Addr} {c : Nat} {L : List Tp} {out out' : List Qt} {v v' : Value}
theorem AllS.pv (h : AllS w w1 p gm ta c L out v) : PV w1 p := h.pv0.below h.mm.bel
theorem AllS.pc (h : AllS w w1 p gm ta c L out v) : PC w1 w.heap.size p := PC.of5 h.box
theorem AllS.next (h : AllS w w1 p gm ta c L out v) (hb : Below w1.heap.size w1 w2) : AllS w w2 p gm ta c L out v := ⟨h.mm.below hb, h.box.below hb, h.pv0⟩
theorem AllS.far (h : AllS w w1 p gm ta c L out v) {g : Nat} {t : TypeId} {cs : Array Value} (hb : Blk w1 g t cs) (h1 : t ≠ 60) (h2 : t ≠ 38) : ¬ (g = gm ∨ v.ownBlock = some g) := by
  rintro (rfl | hg)
  · exact hb.tyd.ne h.mm.blk.tyd h1 rfl
  · exact hb.tyd.ne (own_tyd h.mm.row g hg) h2 rfl
theorem AllS.made (h : AllS w w1 p gm ta c L out v) (hm : Mk w w2 gm ta c L out' v') (hk : Keeps (fun g => g = gm ∨ v.ownBlock = some g) w1 w2) : AllS w w2 p gm ta c L out' v' :=
  ⟨hm, h.box.keeps hk (h.far h.box (by decide) (by decide)), h.pv0⟩
end
end Go.Proofs.Ytilficlanliinaa
