/- A parameter that is a row of tops, opened. -/
import Derived.Test.YtilficlanliinaaImp
import Derived.Test.YtilficlanliinaaOpenQ
namespace Go.Proofs.Ytilficlanliinaa
open Go.ChangeShapes Go.WideShapes Go.RowKit

section
variable {H : Type} {enc : TypeId × Value → H} {w : World} {spare : Nat → Bool} {held : Bool} {m : Nat}
theorem two_bools {a b : Value} {y : DataW H × List MemPlace} (h : DataW.trod enc Try.prog w 0 spare held m 39 [a, b] = some y) : ∃ x z : Bool, a = .bool x ∧ b = .bool z := by
  obtain ⟨xs, n, _, _, _, hl, hx⟩ := DataW.trod_array Try.underlying39 h
  have hc : Try.prog.cellsOf 4 = 1 := by kernel_rfl
  rw [hc] at hx
  have h0 := hx 0 (by omega)
  have h1 := hx 1 (by omega)
  rw [List.getElem?_eq_getElem (by omega)] at h0 h1
  obtain ⟨x, e0, _⟩ := DataW.trod_bool Try.underlying4 h0
  obtain ⟨z, e1, _⟩ := DataW.trod_bool Try.underlying4 h1
  exact ⟨x, z, by simpa using e0, by simpa using e1⟩
theorem two_ints {a b : Value} {y : DataW H × List MemPlace} (h : DataW.trod enc Try.prog w 0 spare held m 40 [a, b] = some y) : ∃ x z : Int, a = .int .i64 x ∧ b = .int .i64 z ∧ i64ok x ∧ i64ok z := by
  obtain ⟨xs, n, _, _, _, hl, hx⟩ := DataW.trod_array Try.underlying40 h
  have hc : Try.prog.cellsOf 2 = 1 := by kernel_rfl
  rw [hc] at hx
  have h0 := hx 0 (by omega)
  have h1 := hx 1 (by omega)
  rw [List.getElem?_eq_getElem (by omega)] at h0 h1
  obtain ⟨x, e0, _, f0⟩ := DataW.trod_int Try.underlying2 h0
  obtain ⟨z, e1, _, f1⟩ := DataW.trod_int Try.underlying2 h1
  exact ⟨x, z, by simpa using e0, by simpa using e1, bounds_i64 f0, bounds_i64 f1⟩
end
theorem top_fields : ∃ fs : Array Field, Try.prog.underlying 42 = some (.struct fs) ∧ fs.map (fun f => (f.type, f.offset)) = #[(39, 0), (40, 2), (40, 4)] :=
  ⟨_, Try.underlying42, by kernel_rfl⟩
theorem six_of {α : Type} {l : List α} (h : l.length = 6) : ∃ a b c d e f, l = [a, b, c, d, e, f] := by
  match l, h with
  | [a, b, c, d, e, f], _ => exact ⟨a, b, c, d, e, f, rfl⟩
theorem top_open {H : Type} {enc : TypeId × Value → H} {w : World} {spare : Nat → Bool} {held : Bool} {n : Nat} {cs : List Value} {y : DataW H × List MemPlace} (h : DataW.trod enc Try.prog w 0 spare held n 42 cs = some y) : ∃ x : Tp, cs = x.cells ∧ x.ok := by
  obtain ⟨fs, hstr, htys⟩ := top_fields
  obtain ⟨xs, m, _, _, hlen, hxl, hf⟩ := DataW.trod_struct hstr h
  have hC : Try.prog.cellsOf 42 = 6 := by kernel_rfl
  rw [hC] at hlen
  obtain ⟨c0, c1, c2, c3, c4, c5, rfl⟩ := six_of hlen
  have hsz : fs.size = 3 := by
    have := congrArg Array.size htys
    simpa using this
  have hfld : ∀ (j : Nat) (t : TypeId) (o : Nat), (#[(39, 0), (40, 2), (40, 4)] : Array (TypeId × Nat))[j]? = some (t, o) → ∃ z, DataW.trod enc Try.prog w 0 spare held m t (([c0, c1, c2, c3, c4, c5].drop o).take (Try.prog.cellsOf t)) = some z := by
    intro j t o hj
    rw [← htys, Array.getElem?_map, Option.map_eq_some_iff] at hj
    obtain ⟨f, hf1, hf2⟩ := hj
    injection hf2 with h1 h2
    have := hf j f hf1
    rw [h1, h2] at this
    have hjl : j < xs.length := by have := (Array.getElem?_eq_some_iff.1 hf1).1; omega
    rw [List.getElem?_eq_getElem hjl] at this
    exact ⟨_, this⟩
  have hb : Try.prog.cellsOf 39 = 2 := by kernel_rfl
  have hi : Try.prog.cellsOf 40 = 2 := by kernel_rfl
  obtain ⟨_, h0⟩ := hfld 0 _ _ rfl
  obtain ⟨_, h1⟩ := hfld 1 _ _ rfl
  obtain ⟨_, h2⟩ := hfld 2 _ _ rfl
  rw [hb] at h0
  rw [hi] at h1 h2
  obtain ⟨x0, x1, rfl, rfl⟩ := two_bools h0
  obtain ⟨x2, x3, rfl, rfl, o2, o3⟩ := two_ints h1
  obtain ⟨x4, x5, rfl, rfl, o4, o5⟩ := two_ints h2
  exact ⟨⟨x0, x1, x2, x3, x4, x5⟩, rfl, o2, o3, o4, o5⟩
theorem open_tops {H : Type} {enc : TypeId × Value → H} {w : World} {spare : Nat → Bool} {held : Bool} {v : Value} {d : DataW H} {p : List MemPlace} (h : DataW.Trod enc Try.prog w 0 spare held 26 v d p) {b0 : Nat} (hv : Value.okWide Try.prog w .any b0 26 v) :
    ∃ (a : Option Addr) (L : List Tp) (c : Nat), v = .slice a L.length c ∧ TP.Rd w a L ∧ (∀ x ∈ L, x.ok) ∧ L.length ≤ 9223372036854775807 ∧ L.length ≤ c := by
  obtain ⟨a0, n0, c0, rfl⟩ := okWide_slice Try.underlying26 hv
  obtain ⟨fuel, hf⟩ := h
  rcases Go.Deep.open_slice Try.underlying26 hf with ⟨h0, _⟩ | ⟨a, len, cap, m, n, D, Pl, hcs, _, hl, hm, hmm, _, hi⟩
  · have h0' : a0 = none ∧ n0 = 0 ∧ c0 = 0 := by
      simp [Value.cells] at h0; exact h0
    obtain ⟨rfl, rfl, rfl⟩ := h0'
    exact ⟨none, [], 0, rfl, Lay.Rd.nil, fun x hx => by simp at hx, by simp, by simp⟩
  · have h0' : a0 = some a ∧ n0 = len ∧ c0 = cap := by
      simp [Value.cells] at hcs; exact hcs
    obtain ⟨rfl, rfl, rfl⟩ := h0'
    have hnm : n0 ≤ m := by rw [hmm]; split <;> omega
    obtain ⟨b, off, sp⟩ := a
    have hC : Try.prog.cellsOf 42 = 6 := by kernel_rfl
    rw [hC] at hi
    have hex : ∀ k : Nat, ∃ x : Tp, x.ok ∧ (k < n0 → sp = none ∧ b < w.heap.size ∧ CellsAt w b (off + k * 6) x.cells) := by
      intro k
      by_cases hk : k < n0
      · obtain ⟨cs', hc, ht⟩ := hi k (by omega)
        obtain ⟨x, rfl, hx⟩ := top_open ht
        obtain ⟨_, _, hat⟩ := World.cells?_some hc
        have hsp : sp = none := by
          obtain ⟨cs0, hc0, ht0⟩ := hi 0 (by omega)
          obtain ⟨x0, rfl, _⟩ := top_open ht0
          obtain ⟨_, _, hat0⟩ := World.cells?_some hc0
          have h1 := hat0 0 (by omega)
          exact World.cell?_spot (a := ⟨b, off, sp⟩) (h1.trans rfl)
        subst hsp
        refine ⟨x, hx, fun _ => ⟨rfl, ?_, fun j u hu => ?_⟩⟩
        · have h1 := hat 0 (by omega)
          rw [add_at] at h1
          rcases Nat.lt_or_ge b w.heap.size with h | h
          · exact h
          · unfold World.cell? at h1
            rw [show ((⟨b, off + k * 6, none⟩ : Addr).add 0).block = b from rfl, Array.getElem?_eq_none h] at h1
            cases h1
        · have hj : j < 6 := lt_of_get hu
          have h1 := hat j hj
          rw [add_at, add_at] at h1
          exact h1.trans hu
      · exact ⟨zeroTp, ⟨by decide, by decide, by decide, by decide⟩, fun h => absurd h hk⟩
    have hml : maxLen ≤ 9223372036854775807 := by decide
    refine ⟨some ⟨b, off, sp⟩, (List.range n0).map (fun k => (hex k).choose), c0, by simp, ?_, ?_, by simp; omega, by simp; omega⟩
    · intro j e hj
      have hjl : j < n0 := by have := lt_of_get hj; simpa using this
      rw [List.getElem?_map, List.getElem?_range hjl] at hj
      simp at hj
      obtain ⟨_, h2⟩ := (hex j).choose_spec
      obtain ⟨rfl, h4, h5⟩ := h2 hjl
      rw [hj] at h5
      exact ⟨b, off, rfl, h4, h5⟩
    · intro x hx
      rw [List.mem_map] at hx
      obtain ⟨k, _, rfl⟩ := hx
      exact ((hex k).choose_spec).1
end Go.Proofs.Ytilficlanliinaa
