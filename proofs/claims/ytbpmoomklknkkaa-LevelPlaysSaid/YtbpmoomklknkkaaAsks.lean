/- A parameter that is a row of asks, opened. -/
import Derived.Test.YtbpmoomklknkkaaLevC
import Derived.Deep.Slices
import Derived.Deep.Fields
import Derived.ChangeSame
import Derived.OpenShut
namespace Go.Proofs.Ytbpmoomklknkkaa
open Go.ChangeShapes Go.WideShapes Go.RowKit

theorem add_at (b off m : Nat) : (⟨b, off, none⟩ : Addr).add m = ⟨b, off + m, none⟩ := by
  unfold Addr.add
  split
  · rename_i h; rw [h, Nat.add_zero]
  · rfl
section
variable {H : Type} {enc : TypeId × Value → H} {P : Program} {w : World} {base : Nat} {spare : Nat → Bool} {held : Bool}
/-- the fields of a struct that lies in a row of cells, each of one cell -/
theorem fields_at {e : TypeId} {fs : Array Field} {n : Nat} {b off : Nat} {cs : List Value} {y : DataW H × List MemPlace} (he : P.underlying e = some (.struct fs)) (hone : Go.Deep.oneCellFields P fs = true)
    (hc : w.cells? base ⟨b, off, none⟩ fs.size = some cs) (ht : DataW.trod enc P w base spare held n e cs = some y) :
    ∀ (j : Nat) (f : Field), fs[j]? = some f → ∃ (v : Value) (m : Nat) (z : DataW H × List MemPlace), w.cell? ⟨b, off + j, none⟩ = some v ∧ DataW.trod enc P w base spare held m f.type [v] = some z := by
  intro j f hj
  obtain ⟨_, hlen, hat⟩ := World.cells?_some hc
  obtain ⟨xs, m, _, _, _, hxl, hf⟩ := DataW.trod_struct he ht
  have hjl : j < fs.size := (Array.getElem?_eq_some_iff.1 hj).1
  obtain ⟨ho, hk⟩ := Go.Deep.hone_of hone j f hj
  have h1 := hf j f hj
  have hjc : j < cs.length := by omega
  rw [ho, hk, List.drop_eq_getElem_cons hjc, List.take_succ_cons, List.take_zero] at h1
  refine ⟨cs[j], m, xs[j]'(by omega), ?_, by rw [h1, List.getElem?_eq_getElem]⟩
  rw [← add_at, hat j hjl, List.getElem?_eq_getElem hjc]
end

def intOf' : Option Value → Int
  | some (.int _ n) => n
  | _ => 0
def boolOf' : Option Value → Bool
  | some (.bool b) => b
  | _ => false
/-- the ask that a row's cells read as -/
def askOf (w : World) (b off k : Nat) : AskR := ⟨intOf' (w.cell? ⟨b, off + k * 6, none⟩), intOf' (w.cell? ⟨b, off + k * 6 + 1, none⟩), intOf' (w.cell? ⟨b, off + k * 6 + 2, none⟩), intOf' (w.cell? ⟨b, off + k * 6 + 3, none⟩), intOf' (w.cell? ⟨b, off + k * 6 + 4, none⟩), boolOf' (w.cell? ⟨b, off + k * 6 + 5, none⟩)⟩
theorem i64ok_zero : i64ok 0 := by unfold i64ok; omega
theorem ask_fields : ∃ fs : Array Field, Try.prog.underlying 31 = some (.struct fs) ∧ Go.Deep.oneCellFields Try.prog fs = true ∧ fs.size = 6 ∧ fs.map (·.type) = #[3, 3, 3, 2, 2, 4] :=
  ⟨_, Try.underlying31, by kernel_rfl, by kernel_rfl, by kernel_rfl⟩
theorem open_asks {H : Type} {enc : TypeId × Value → H} {w : World} {spare : Nat → Bool} {held : Bool} {v : Value} {d : DataW H} {p : List MemPlace} (h : DataW.Trod enc Try.prog w 0 spare held 22 v d p) {b0 : Nat} (hv : Value.okWide Try.prog w .any b0 22 v) :
    ∃ (a : Option Addr) (n c : Nat) (f : Nat → AskR), v = .slice a n c ∧ Asks w a n f := by
  obtain ⟨a0, n0, c0, rfl⟩ := okWide_slice Try.underlying22 hv
  obtain ⟨fuel, hf⟩ := h
  rcases Go.Deep.open_slice Try.underlying22 hf with ⟨h0, _⟩ | ⟨a, len, cap, m, n, D, Pl, hcs, _, hl, hm, hmm, _, hi⟩
  · have h0' : a0 = none ∧ n0 = 0 ∧ c0 = 0 := by
      simp [Value.cells] at h0; exact h0
    obtain ⟨rfl, rfl, rfl⟩ := h0'
    refine ⟨none, 0, 0, fun _ => ⟨0, 0, 0, 0, 0, false⟩, rfl, fun _ => ⟨i64ok_zero, i64ok_zero, i64ok_zero, i64ok_zero, i64ok_zero⟩, fun k hk => by omega⟩
  · have h0' : a0 = some a ∧ n0 = len ∧ c0 = cap := by
      simp [Value.cells] at hcs; exact hcs
    obtain ⟨rfl, rfl, rfl⟩ := h0'
    have hnm : n0 ≤ m := by rw [hmm]; split <;> omega
    obtain ⟨b, off, sp⟩ := a
    obtain ⟨fs, hstr, hone, hsz, htys⟩ := ask_fields
    have hC : Try.prog.cellsOf 31 = 6 := by kernel_rfl
    rw [hC] at hi
    have hsp : 0 < n0 → sp = none := by
      intro h0
      obtain ⟨cs', hc, _⟩ := hi 0 (by omega)
      obtain ⟨_, hlen, hat⟩ := World.cells?_some hc
      have h1 := hat 0 (by omega)
      have h2 : cs'[0]? = some cs'[0] := List.getElem?_eq_getElem (by omega)
      exact World.cell?_spot (a := ⟨b, off, sp⟩) (h1.trans h2)
    have hfld : ∀ (j : Nat) (t : TypeId), (#[3, 3, 3, 2, 2, 4] : Array TypeId)[j]? = some t → ∃ f, fs[j]? = some f ∧ f.type = t := by
      intro j t hj
      rw [← htys, Array.getElem?_map, Option.map_eq_some_iff] at hj
      exact hj
    have each : ∀ k, k < n0 → (askOf w b off k).ok ∧ ∃ b' off', (some ⟨b, off, sp⟩ : Option Addr) = some ⟨b', off', none⟩ ∧ b' < w.heap.size ∧ AskAt w b' off' k (askOf w b off k) := by
      intro k hk
      obtain rfl := hsp (by omega)
      obtain ⟨cs', hc, ht⟩ := hi k (by omega)
      rw [add_at] at hc
      have hh := fields_at hstr hone (by rw [hsz]; exact hc) ht
      have getI : ∀ (j : Nat) (t : TypeId) (kd : IntKind), (#[3, 3, 3, 2, 2, 4] : Array TypeId)[j]? = some t → Try.prog.underlying t = some (.int kd) → ∃ z, w.cell? ⟨b, off + k * 6 + j, none⟩ = some (.int kd z) ∧ (Lit.int kd z).wf = true := by
        intro j t kd hj hu
        obtain ⟨f, hf1, hf2⟩ := hfld j t hj
        obtain ⟨v, m', z, hv1, hv2⟩ := hh j f hf1
        rw [hf2] at hv2
        obtain ⟨z', hz1, _, hz3⟩ := DataW.trod_int hu hv2
        injection hz1 with hz1
        exact ⟨z', by rw [hv1, hz1], hz3⟩
      have getB : ∀ (j : Nat) (t : TypeId), (#[3, 3, 3, 2, 2, 4] : Array TypeId)[j]? = some t → Try.prog.underlying t = some .bool → ∃ z, w.cell? ⟨b, off + k * 6 + j, none⟩ = some (.bool z) := by
        intro j t hj hu
        obtain ⟨f, hf1, hf2⟩ := hfld j t hj
        obtain ⟨v, m', z, hv1, hv2⟩ := hh j f hf1
        rw [hf2] at hv2
        obtain ⟨z', hz1, _⟩ := DataW.trod_bool hu hv2
        injection hz1 with hz1
        exact ⟨z', by rw [hv1, hz1]⟩
      obtain ⟨z0, g0, w0⟩ := getI 0 3 .i64 rfl Try.underlying3
      obtain ⟨z1, g1, w1⟩ := getI 1 3 .i64 rfl Try.underlying3
      obtain ⟨z2, g2, w2⟩ := getI 2 3 .i64 rfl Try.underlying3
      obtain ⟨z3, g3, w3⟩ := getI 3 2 .i64 rfl Try.underlying2
      obtain ⟨z4, g4, w4⟩ := getI 4 2 .i64 rfl Try.underlying2
      obtain ⟨z5, g5⟩ := getB 5 4 rfl Try.underlying4
      have hlt : b < w.heap.size := by
        rcases Nat.lt_or_ge b w.heap.size with h | h
        · exact h
        · unfold World.cell? at g0
          rw [show (⟨b, off + k * 6 + 0, none⟩ : Addr).block = b from rfl, Array.getElem?_eq_none h] at g0
          cases g0
      have g0' : w.cell? ⟨b, off + k * 6, none⟩ = some (.int .i64 z0) := g0
      unfold askOf
      rw [g0', g1, g2, g3, g4, g5]
      exact ⟨⟨bounds_i64 w0, bounds_i64 w1, bounds_i64 w2, bounds_i64 w3, bounds_i64 w4⟩, b, off, rfl, hlt, ⟨g0', g1, g2, g3, g4, g5⟩⟩
    refine ⟨_, _, _, fun k => if k < n0 then askOf w b off k else ⟨0, 0, 0, 0, 0, false⟩, rfl, fun k => ?_, fun k hk => ?_⟩
    · by_cases hk : k < n0
      · simp only [if_pos hk]; exact (each k hk).1
      · simp only [if_neg hk]; exact ⟨i64ok_zero, i64ok_zero, i64ok_zero, i64ok_zero, i64ok_zero⟩
    · simp only [if_pos hk]; exact (each k hk).2
end Go.Proofs.Ytbpmoomklknkkaa
