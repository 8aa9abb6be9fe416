/- RefdataLimits: the three products' checks together; an append of a row onto an empty one; the first cell of a row stored. -/
import Derived.Test.YtjjddlfbadahhaaLim
namespace Go.Proofs.Ytjjddlfbadahhaa
open Go.RowKit

def lc (T lo hi wd : Int) (ma : Option Addr) (k mc : Nat) (sa : Option Addr) (n sc : Nat) : Array Value := #[.string ⟨#[67, 76]⟩, .slice ma k mc, .int .i64 T, .int .i64 lo, .int .i64 hi, .int .i64 wd, .int .i64 3, .int .i64 4, .int .i64 2, .int .i64 40, .slice sa n sc]
theorem PC.of5 {w : World} {g : Nat} {p : Prod} (hb : Blk w g 25 p.cells) : PC w g p := by
  have h : ∀ i, w.cell? ⟨g, i, none⟩ = p.cells[i]? := fun i => hb.cell i
  exact ⟨h 0, h 1, h 2, h 3, h 4, h 5, h 6, h 7, h 8, h 9, h 10⟩
/-- what the law asks of its product -/
structure LimP (p : Prod) : Prop where
  check : checkP p = 0
  q : checkP { p with wide := p.wide + p.tick } = 23
  r : ∀ sa sc, checkP { p with settle := (p.high + p.tick) :: p.settle.tail, sa := sa, sc := sc } = 1
  wide : 0 ≤ p.wide + p.tick ∧ p.wide + p.tick ≤ 1000000
  high : -1000000 ≤ p.high + p.tick ∧ p.high + p.tick ≤ 1000000
  some_ : 2 ≤ p.months.length ∧ p.settle.length = p.months.length
theorem lim_all {M : List Int} {z T lo bw : Int} (hR : Rise M z) (h2 : 2 ≤ M.length) (h6 : M.length ≤ 6) (hT : 1 ≤ T ∧ T ≤ 1000) (d1 : T ∣ lo) (d2 : T ∣ bw) (hlo : -900000 ≤ lo ∧ lo ≤ 0) (hbw : 1 ≤ bw ∧ bw ≤ 91000) (ma : Option Addr) (mc : Nat) (sa : Option Addr) (sc : Nat) :
    LimP (limP M (List.replicate M.length lo) T lo (lo + bw) bw ma mc sa sc) := by
  obtain ⟨m, hm⟩ : ∃ m, M.length = m + 1 := ⟨M.length - 1, by omega⟩
  have d3 : T ∣ lo + bw := Int.dvd_add d1 d2
  have a1 : (List.replicate M.length lo).any (fun x => decide (x < lo)) = false := any_none fun j x hx => decide_eq_false (by have := List.eq_of_mem_replicate (List.mem_of_getElem? hx); omega)
  have a2 : (List.replicate M.length lo).any (fun x => decide (lo + bw < x)) = false := any_none fun j x hx => decide_eq_false (by have := List.eq_of_mem_replicate (List.mem_of_getElem? hx); omega)
  refine ⟨?_, ?_, fun sa' sc' => ?_, ?_, ?_, ?_⟩
  · rw [lim_check hR h2 h6 hT d1 d3 d2 (by omega) (by omega) (by omega) (by omega) (by simp) (fun x hx => by rw [List.eq_of_mem_replicate hx]; exact d1), if_neg (by omega), a1, a2, if_neg (by simp)]
  · show checkP (limP M (List.replicate M.length lo) T lo (lo + bw) (bw + T) ma mc sa sc) = 23
    rw [lim_check hR h2 h6 hT d1 d3 (Int.dvd_add d2 ⟨1, by omega⟩) (by omega) (by omega) (by omega) (by omega) (by simp) (fun x hx => by rw [List.eq_of_mem_replicate hx]; exact d1), if_pos (by omega)]
  · show checkP (limP M ((lo + bw + T) :: (List.replicate M.length lo).tail) T lo (lo + bw) bw ma mc sa' sc') = 1
    rw [lim_check hR h2 h6 hT d1 d3 d2 (by omega) (by omega) (by omega) (by omega) (by rw [hm]; simp) (fun x hx => by
      rcases List.mem_cons.1 hx with rfl | hx
      · exact Int.dvd_add d3 ⟨1, by omega⟩
      · rw [List.eq_of_mem_replicate (List.mem_of_mem_tail hx)]; exact d1), if_neg (by omega), if_pos (.inr (by rw [List.any_cons, decide_eq_true (show lo + bw < lo + bw + T by omega)]; rfl))]
  · show 0 ≤ bw + T ∧ bw + T ≤ 1000000
    omega
  · show -1000000 ≤ lo + bw + T ∧ lo + bw + T ≤ 1000000
    omega
  · exact ⟨h2, by show (List.replicate M.length lo).length = M.length; simp⟩
theorem Rise.ok64 {M : List Int} {z : Int} (h : Rise M z) : ∀ x ∈ M, i64ok x := by
  intro x hx
  obtain ⟨j, hj⟩ := List.getElem?_of_mem hx
  have hjl := lt_of_get hj
  have := h.ok j hjl
  unfold monthOk at this
  rw [List.getD_eq_getElem?_getD, hj] at this
  simp only [Option.getD_some, Bool.and_eq_true, decide_eq_true_eq] at this
  unfold i64ok
  omega
theorem lim_pv {w : World} {B : Nat} {M : List Int} {z T lo bw : Int} {ma sa : Option Addr} {k mc sc : Nat} (hk : M.length = k) (hk6 : k ≤ 6) (hR : Rise M z) (hM : RowI w B 3 (.slice ma k mc) M) (hS : RowI w B 2 (.slice sa k sc) (List.replicate k lo)) (hT : 1 ≤ T ∧ T ≤ 1000) (hlo : -900000 ≤ lo ∧ lo ≤ 0) (hbw : 1 ≤ bw ∧ bw ≤ 91000) :
    PV w (limP M (List.replicate k lo) T lo (lo + bw) bw ma mc sa sc) := by
  refine ⟨by show 2 ≤ 1000; omega, hM.ints hR.ok64, hS.ints fun x hx => ?_, ?_, ?_, ?_, ?_, ?_, ?_⟩
  · rw [List.eq_of_mem_replicate hx]
    unfold i64ok; omega
  · show M.length ≤ 1000000
    omega
  · show (List.replicate k lo).length ≤ 1000000
    rw [List.length_replicate]; omega
  all_goals unfold i64ok limP; simp only; omega

theorem append_row64 {w : World} {ops : Array Oper} {rest : List Oper} {o : Oper} {a : Act} {Q : Exit → Act → World → Prop} (hgd : o.guard = none) (s x : Operand)
    (ho : o.op = .call { callee := .builtin .append, args := #[s, x], argTypes := #[23, 23] })
    (B g0 : Nat) (hs : a.eval s = .slice (some ⟨g0, 0, none⟩) 0 0) (hown : RowI w B 2 (.slice (some ⟨g0, 0, none⟩) 0 0) [])
    (sa : Option Addr) (c : Nat) (M : List Int) (hx : a.eval x = .slice sa M.length c) (hI : Ints w sa M) (h0 : 0 < M.length) (hle : M.length ≤ 1000000) (hB : B ≤ w.heap.size)
    (h : ∀ g' cap w', RowI w' B 2 (.slice (some ⟨g', 0, none⟩) M.length cap) M → w.grownBy w' (some g0) → wpList Try.prog ops Q rest (a.put o.dst (.slice (some ⟨g', 0, none⟩) M.length cap)) w') : wpList Try.prog ops Q (o :: rest) a w := by
  obtain ⟨i0, hi, hz0, hz1, hz2⟩ := info_parts info_int64
  obtain ⟨x0, hx0⟩ : ∃ x, M[0]? = some x := ⟨_, List.getElem?_eq_getElem h0⟩
  obtain ⟨_, b, off, rfl, _, _⟩ := hI 0 x0 hx0
  refine wpList_append_own_at w hgd s x 23 ho B 2 i0 _ 1 8 Try.underlying23 hi hz0 hz1 hz2 rfl (by omega) (.slice (some ⟨g0, 0, none⟩) 0 0) 0 [] hs hown ⟨b, off, none⟩ M.length c (M.map (Value.int .i64)) hx (by simp) ?_ ?_ (by unfold maxLen; omega) (by omega) hB ?_
  · intro j u hj
    rw [List.getElem?_map, Option.map_eq_some_iff] at hj
    obtain ⟨y, hy, rfl⟩ := hj
    obtain ⟨_, b2, off2, he, _, hc⟩ := hI j y hy
    injection he with he
    injection he with h1 h2
    subst h1
    subst h2
    rw [add_at]; exact hc
  · intro u hu
    rw [List.mem_map] at hu
    obtain ⟨y, _, rfl⟩ := hu
    rfl
  · intro v' w' h1 h2 h3 h4
    rw [Nat.zero_add, List.nil_append] at h1
    obtain ⟨g', cap, hv⟩ : ∃ g' cap, v' = .slice (some ⟨g', 0, none⟩) M.length cap := by
      rcases h1.2 with ⟨_, h0'⟩ | ⟨g', cap, _, hv, _⟩
      · omega
      · exact ⟨g', cap, hv⟩
    subst hv
    exact h g' cap w' h1 h2
theorem ints_ok {w : World} {a : Option Addr} {L : List Int} (h : Ints w a L) : ∀ x ∈ L, i64ok x := fun x hx => by
  obtain ⟨j, hj⟩ := List.getElem?_of_mem hx
  exact (h j x hj).1
/-- a row's first cell stored -/
theorem RowI.set0 {w : World} {B g c : Nat} {t : TypeId} {L : List Int} (h : RowI w B t (.slice (some ⟨g, 0, none⟩) L.length c) L) (h0 : 0 < L.length) (hok : ∀ x ∈ L, i64ok x) (y : Int) (hy : i64ok y) :
    (∃ v, w.cell? ⟨g, 0, none⟩ = some v) ∧ w.frozen? ⟨g, 0, none⟩ = false ∧ B ≤ g ∧ g < w.heap.size ∧ Ints (w.setCell ⟨g, 0, none⟩ (.int .i64 y)) (some ⟨g, 0, none⟩) (y :: L.tail) := by
  have hI := h.ints hok
  have hlt := own_lt h g rfl
  have hb := own_base h g rfl
  obtain ⟨cs, hcs⟩ := own_tyd h g rfl
  have hblk : Blk w g t cs := hcs
  obtain ⟨x0, hx0⟩ : ∃ x, L[0]? = some x := ⟨_, List.getElem?_eq_getElem h0⟩
  have hcell : ∀ (j : Nat) (x : Int), L[j]? = some x → w.cell? ⟨g, j, none⟩ = some (.int .i64 x) := by
    intro j x hj
    obtain ⟨_, b, off, he, _, hc⟩ := hI j x hj
    injection he with he
    injection he with h1 h2
    subst h1
    subst h2
    rw [Nat.zero_add] at hc
    exact hc
  refine ⟨⟨_, hcell 0 x0 hx0⟩, hblk.frozen 0, hb, hlt, fun j x hj => ?_⟩
  have hset := hblk.set_ 0 (.int .i64 y)
  cases j with
  | zero =>
    have hxy : y = x := by simpa using hj
    subst hxy
    refine ⟨hy, g, 0, rfl, hset.lt, ?_⟩
    rw [hset.cell]
    have hc0 := hcell 0 x0 hx0
    rw [hblk.cell] at hc0
    have hsz : 0 < cs.size := (Array.getElem?_eq_some_iff.1 hc0).1
    simp [hsz]
  | succ j =>
    have hj' : L[j + 1]? = some x := by
      rw [List.getElem?_cons_succ, List.getElem?_tail] at hj
      exact hj
    refine ⟨hok x (List.mem_of_getElem? hj'), g, 0, rfl, hset.lt, ?_⟩
    rw [Nat.zero_add, hset.cell]
    have hc0 := hcell (j + 1) x hj'
    rw [hblk.cell] at hc0
    rw [Array.getElem?_setIfInBounds_ne (by omega)]
    exact hc0
end Go.Proofs.Ytjjddlfbadahhaa
