/- A parameter that is a product, opened: its slices' capacities too. -/
import Derived.Test.YtilficlanliinaaOpenP
namespace Go.Proofs.Ytilficlanliinaa
open Go.ChangeShapes Go.WideShapes Go.RowKit

theorem ints_cap {H : Type} {enc : TypeId × Value → H} {w : World} {spare : Nat → Bool} {held : Bool} {t e : TypeId} {n : Nat} {a : Option Addr} {l c : Nat} {y : DataW H × List MemPlace} (ht : Try.prog.underlying t = some (.slice e)) (hc : Try.prog.cellsOf e = 1)
    (h : DataW.trod enc Try.prog w 0 spare held n t [.slice a l c] = some y) : l ≤ c := by
  rcases Go.Deep.open_slice1 ht hc h with ⟨h0, _⟩ | ⟨a', len, cap, m, k, V, D, Pl, hcs, _, hl, _⟩
  · injection h0 with h0
    injection h0 with _ h1 h2
    omega
  · injection hcs with hcs
    injection hcs with _ h1 h2
    omega
theorem open_product_cap {H : Type} {enc : TypeId × Value → H} {w : World} {spare : Nat → Bool} {held : Bool} {v : Value} {d : DataW H} {pl : List MemPlace} (h : DataW.Trod enc Try.prog w 0 spare held 25 v d pl) {b0 : Nat} (hv : Value.okWide Try.prog w .any b0 25 v) :
    ∃ p : Prod, v = p.agg ∧ PIn w p ∧ p.months.length ≤ p.mc ∧ p.settle.length ≤ p.sc := by
  obtain ⟨p, rfl, hp⟩ := open_product h hv
  obtain ⟨fs, hstr, hone, hsz, htys⟩ := product_fields
  obtain ⟨fuel, hf⟩ := h
  have hcells : (Prod.agg p).cells = p.cells := rfl
  rw [hcells] at hf
  have hh := fields_of hstr hone (by rw [hsz]; rfl) hf
  have hfld : ∀ (j : Nat) (t : TypeId), (#[9, 22, 2, 2, 2, 2, 3, 2, 2, 2, 23] : Array TypeId)[j]? = some t → ∃ (v : Value) (m : Nat) (z : DataW H × List MemPlace), p.cells.toList[j]? = some v ∧ DataW.trod enc Try.prog w 0 spare held m t [v] = some z := by
    intro j t hj
    rw [← htys, Array.getElem?_map, Option.map_eq_some_iff] at hj
    obtain ⟨f, hf1, hf2⟩ := hj
    rw [← hf2]
    exact hh j f hf1
  obtain ⟨v1, m1, z1, g1, t1⟩ := hfld 1 22 rfl
  obtain ⟨v10, m10, z10, g10, t10⟩ := hfld 10 23 rfl
  have e1 : v1 = .slice p.ma p.months.length p.mc := by
    have : p.cells.toList[1]? = some (.slice p.ma p.months.length p.mc) := rfl
    rw [this] at g1
    injection g1 with g1
    exact g1.symm
  have e10 : v10 = .slice p.sa p.settle.length p.sc := by
    have : p.cells.toList[10]? = some (.slice p.sa p.settle.length p.sc) := rfl
    rw [this] at g10
    injection g10 with g10
    exact g10.symm
  subst e1
  subst e10
  exact ⟨p, rfl, hp, ints_cap Try.underlying22 (by kernel_rfl) t1, ints_cap Try.underlying23 (by kernel_rfl) t10⟩
end Go.Proofs.Ytilficlanliinaa
