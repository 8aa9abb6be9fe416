/- A parameter that is a product, opened. -/
import Derived.Test.YtilficlanliinaaPin
import Derived.Deep.Slices
import Derived.Deep.Fields
import Derived.ChangeSame
import Derived.OpenShut
namespace Go.Proofs.Ytilficlanliinaa
open Go.ChangeShapes Go.WideShapes Go.RowKit

section
variable {H : Type} {enc : TypeId × Value → H} {P : Program} {w : World} {base : Nat} {spare : Nat → Bool} {held : Bool}
/-- the fields of a struct's cells, each of one cell -/
theorem fields_of {e : TypeId} {fs : Array Field} {n : Nat} {cs : List Value} {y : DataW H × List MemPlace} (he : P.underlying e = some (.struct fs)) (hone : Go.Deep.oneCellFields P fs = true) (hlen : cs.length = fs.size)
    (ht : DataW.trod enc P w base spare held n e cs = some y) :
    ∀ (j : Nat) (f : Field), fs[j]? = some f → ∃ (v : Value) (m : Nat) (z : DataW H × List MemPlace), cs[j]? = some v ∧ DataW.trod enc P w base spare held m f.type [v] = some z := by
  intro j f hj
  obtain ⟨xs, m, _, _, _, hxl, hf⟩ := DataW.trod_struct he ht
  have hjl : j < fs.size := (Array.getElem?_eq_some_iff.1 hj).1
  obtain ⟨ho, hk⟩ := Go.Deep.hone_of hone j f hj
  have h1 := hf j f hj
  have hjc : j < cs.length := by omega
  rw [ho, hk, List.drop_eq_getElem_cons hjc, List.take_succ_cons, List.take_zero] at h1
  exact ⟨cs[j], m, xs[j]'(by omega), List.getElem?_eq_getElem hjc, by rw [h1, List.getElem?_eq_getElem]⟩
end
def intOf' : Value → Int
  | .int _ n => n
  | _ => 0
theorem ints_open {H : Type} {enc : TypeId × Value → H} {w : World} {spare : Nat → Bool} {held : Bool} {t e : TypeId} {n : Nat} {v : Value} {y : DataW H × List MemPlace} (ht : Try.prog.underlying t = some (.slice e)) (he : Try.prog.underlying e = some (.int .i64)) (hc : Try.prog.cellsOf e = 1)
    (h : DataW.trod enc Try.prog w 0 spare held n t [v] = some y) : ∃ (a : Option Addr) (L : List Int) (c : Nat), v = .slice a L.length c ∧ Ints w a L ∧ L.length ≤ maxLen := by
  rcases Go.Deep.open_slice1 ht hc h with ⟨h0, _⟩ | ⟨a, len, cap, m, k, V, D, Pl, hcs, _, hl, hm, hmm, _, hi⟩
  · have h0' : v = .slice none 0 0 := by simpa using h0
    exact ⟨none, [], 0, h0', fun j x hj => by simp at hj, Nat.zero_le _⟩
  · have hcs' : v = .slice (some a) len cap := by simpa using hcs
    subst hcs'
    have hnm : len ≤ m := by rw [hmm]; split <;> omega
    obtain ⟨b, off, sp⟩ := a
    refine ⟨some ⟨b, off, sp⟩, (List.range len).map (fun i => intOf' (V i)), cap, by simp, fun j x hj => ?_, by simp; omega⟩
    have hjl : j < len := by have := lt_of_get hj; simpa using this
    rw [List.getElem?_map, List.getElem?_range hjl] at hj
    simp at hj
    obtain ⟨h1, h2⟩ := hi j (by omega)
    obtain ⟨z, hz1, _, hz3⟩ := DataW.trod_int he h2
    have hz : V j = .int .i64 z := by simpa using hz1
    rw [hz] at hj h1
    have hx : x = z := hj.symm
    subst hx
    have hsp : sp = none := by
      have h00 := (hi 0 (by omega)).1
      have := World.cell?_spot h00
      unfold Addr.add at this
      simpa using this
    subst hsp
    have hadd : (⟨b, off, none⟩ : Addr).add j = ⟨b, off + j, none⟩ := add_at b off j
    rw [hadd] at h1
    refine ⟨bounds_i64 hz3, b, off, rfl, ?_, h1⟩
    rcases Nat.lt_or_ge b w.heap.size with h | h
    · exact h
    · unfold World.cell? at h1
      rw [show (⟨b, off + j, none⟩ : Addr).block = b from rfl, Array.getElem?_eq_none h] at h1
      cases h1

theorem product_fields : ∃ fs : Array Field, Try.prog.underlying 25 = some (.struct fs) ∧ Go.Deep.oneCellFields Try.prog fs = true ∧ fs.size = 11 ∧ fs.map (·.type) = #[9, 22, 2, 2, 2, 2, 3, 2, 2, 2, 23] :=
  ⟨_, Try.underlying25, by kernel_rfl, by kernel_rfl, by kernel_rfl⟩
theorem open_product {H : Type} {enc : TypeId × Value → H} {w : World} {spare : Nat → Bool} {held : Bool} {v : Value} {d : DataW H} {pl : List MemPlace} (h : DataW.Trod enc Try.prog w 0 spare held 25 v d pl) {b0 : Nat} (hv : Value.okWide Try.prog w .any b0 25 v) :
    ∃ p : Prod, v = p.agg ∧ PIn w p := by
  obtain ⟨fs, hstr, hone, hsz, htys⟩ := product_fields
  obtain ⟨cs, rfl, hcsz⟩ := okWide_struct hstr hv
  obtain ⟨fuel, hf⟩ := h
  have hC : Try.prog.cellsOf 25 = 11 := by kernel_rfl
  rw [hC] at hcsz
  have hcells : (Value.agg cs).cells = cs := rfl
  rw [hcells] at hf
  have hh := fields_of hstr hone (by rw [hsz]; simpa using hcsz) hf
  have hfld : ∀ (j : Nat) (t : TypeId), (#[9, 22, 2, 2, 2, 2, 3, 2, 2, 2, 23] : Array TypeId)[j]? = some t → ∃ (v : Value) (m : Nat) (z : DataW H × List MemPlace), cs.toList[j]? = some v ∧ DataW.trod enc Try.prog w 0 spare held m t [v] = some z := by
    intro j t hj
    rw [← htys, Array.getElem?_map, Option.map_eq_some_iff] at hj
    obtain ⟨f, hf1, hf2⟩ := hj
    rw [← hf2]
    exact hh j f hf1
  have getI : ∀ (j : Nat) (t : TypeId), (#[9, 22, 2, 2, 2, 2, 3, 2, 2, 2, 23] : Array TypeId)[j]? = some t → Try.prog.underlying t = some (.int .i64) → ∃ z : Int, cs.toList[j]? = some (.int .i64 z) ∧ i64ok z := by
    intro j t hj hu
    obtain ⟨v, m, z, hv1, hv2⟩ := hfld j t hj
    obtain ⟨z', hz1, _, hz3⟩ := DataW.trod_int hu hv2
    have hz : v = .int .i64 z' := by simpa using hz1
    exact ⟨z', by rw [hv1, hz], bounds_i64 hz3⟩
  obtain ⟨v0, m0, z0, g0, t0⟩ := hfld 0 9 rfl
  obtain ⟨s, hs1, _, hs3⟩ := DataW.trod_string Try.underlying9 t0
  have hs : v0 = .string s := by simpa using hs1
  subst hs
  obtain ⟨v1, m1, z1, g1, t1⟩ := hfld 1 22 rfl
  obtain ⟨a1, L1, c1, rfl, hI1, hl1⟩ := ints_open Try.underlying22 Try.underlying3 (by kernel_rfl) t1
  obtain ⟨n2, g2, o2⟩ := getI 2 2 rfl Try.underlying2
  obtain ⟨n3, g3, o3⟩ := getI 3 2 rfl Try.underlying2
  obtain ⟨n4, g4, o4⟩ := getI 4 2 rfl Try.underlying2
  obtain ⟨n5, g5, o5⟩ := getI 5 2 rfl Try.underlying2
  obtain ⟨n6, g6, o6⟩ := getI 6 3 rfl Try.underlying3
  obtain ⟨n7, g7, o7⟩ := getI 7 2 rfl Try.underlying2
  obtain ⟨n8, g8, o8⟩ := getI 8 2 rfl Try.underlying2
  obtain ⟨n9, g9, o9⟩ := getI 9 2 rfl Try.underlying2
  obtain ⟨v10, m10, z10, g10, t10⟩ := hfld 10 23 rfl
  obtain ⟨a10, L10, c10, rfl, hI10, hl10⟩ := ints_open Try.underlying23 Try.underlying2 (by kernel_rfl) t10
  have hcs : cs = #[.string s, .slice a1 L1.length c1, .int .i64 n2, .int .i64 n3, .int .i64 n4, .int .i64 n5, .int .i64 n6, .int .i64 n7, .int .i64 n8, .int .i64 n9, .slice a10 L10.length c10] := by
    apply Array.toList_inj.1
    apply List.ext_getElem?
    intro i
    match i with
    | 0 => exact g0
    | 1 => exact g1
    | 2 => exact g2
    | 3 => exact g3
    | 4 => exact g4
    | 5 => exact g5
    | 6 => exact g6
    | 7 => exact g7
    | 8 => exact g8
    | 9 => exact g9
    | 10 => exact g10
    | i + 11 => rw [List.getElem?_eq_none (by simp; omega), List.getElem?_eq_none (by simp)]
  subst hcs
  have hml : maxLen ≤ 9223372036854775807 := by decide
  exact ⟨⟨s, a1, L1, c1, n2, n3, n4, n5, n6, n7, n8, n9, a10, L10, c10⟩, rfl, hs3, hI1, hI10, Nat.le_trans hl1 hml, Nat.le_trans hl10 hml, o2, o3, o4, o5, o6, o7, o8, o9⟩
end Go.Proofs.Ytilficlanliinaa
