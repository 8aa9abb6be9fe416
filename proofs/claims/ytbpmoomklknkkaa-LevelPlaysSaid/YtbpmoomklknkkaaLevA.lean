/- The arena's calls over queues as lists: New, Open, Push. -/
import Derived.Test.YtbpmoomklknkkaaLevP2
namespace Go.Proofs.Ytbpmoomklknkkaa
open Go.RowKit

/-! ### what the calls do to queues that are lists -/
def findL : List Ent → Nat → Nat → Option (Nat × Ent)
  | [], _, _ => none
  | e :: L, i, j => if e.slot = i then some (j, e) else findL L i (j + 1)
def findQ : List (List Ent) → Nat → Nat → Option (Nat × Nat × Ent)
  | [], _, _ => none
  | L :: A, i, n => match findL L i 0 with
    | some (j, e) => some (n, j, e)
    | none => findQ A i (n + 1)
/-- where a slot's order stands: its queue, its place, and it -/
def findA (A : List (List Ent)) (i : Int) : Option (Nat × Nat × Ent) := if i < 0 then none else findQ A i.toNat 0
theorem findL_some : ∀ (L : List Ent) (i j0 j : Nat) (e : Ent), findL L i j0 = some (j, e) → j0 ≤ j ∧ L[j - j0]? = some e ∧ e.slot = i := by
  intro L
  induction L with
  | nil => intro i j0 j e h; cases h
  | cons a L ih =>
    intro i j0 j e h
    unfold findL at h
    split at h
    · rename_i ha
      injection h with h; injection h with h1 h2
      subst h1; subst h2
      exact ⟨Nat.le_refl _, by simp, ha⟩
    · obtain ⟨h1, h2, h3⟩ := ih i (j0 + 1) j e h
      exact ⟨by omega, by rw [show j - j0 = j - (j0 + 1) + 1 by omega]; simpa using h2, h3⟩
theorem findL_none : ∀ (L : List Ent) (i j0 : Nat), findL L i j0 = none → ∀ (j : Nat) (e : Ent), L[j]? = some e → e.slot ≠ i := by
  intro L
  induction L with
  | nil => intro i j0 _ j e h; simp at h
  | cons a L ih =>
    intro i j0 h j e he
    unfold findL at h
    split at h
    · cases h
    · rename_i ha
      cases j with
      | zero => simp at he; subst he; exact ha
      | succ j => simp at he; exact ih i (j0 + 1) h j e he
theorem findQ_some : ∀ (A : List (List Ent)) (i n0 n j : Nat) (e : Ent), findQ A i n0 = some (n, j, e) → n0 ≤ n ∧ ∃ L, A[n - n0]? = some L ∧ L[j]? = some e ∧ e.slot = i := by
  intro A
  induction A with
  | nil => intro i n0 n j e h; cases h
  | cons L A ih =>
    intro i n0 n j e h
    unfold findQ at h
    split at h
    · rename_i j' e' hl
      injection h with h; injection h with h1 h2; injection h2 with h2 h3
      subst h1; subst h2; subst h3
      have := findL_some L i 0 _ _ hl
      exact ⟨Nat.le_refl _, L, by simp, this.2.1, this.2.2⟩
    · obtain ⟨h1, L', h2, h3⟩ := ih i (n0 + 1) n j e h
      exact ⟨by omega, L', by rw [show n - n0 = n - (n0 + 1) + 1 by omega]; simpa using h2, h3⟩
theorem findQ_none : ∀ (A : List (List Ent)) (i n0 : Nat), findQ A i n0 = none → ∀ (n j : Nat) (L : List Ent) (e : Ent), A[n]? = some L → L[j]? = some e → e.slot ≠ i := by
  intro A
  induction A with
  | nil => intro i n0 _ n j L e h; simp at h
  | cons L A ih =>
    intro i n0 h n j L' e hn he
    unfold findQ at h
    split at h
    · cases h
    · rename_i hl
      cases n with
      | zero => simp at hn; subst hn; exact findL_none L i 0 hl j e he
      | succ n => simp at hn; exact ih i (n0 + 1) h n j L' e hn he
theorem findA_some {A : List (List Ent)} {i : Int} {n j : Nat} {e : Ent} (h : findA A i = some (n, j, e)) : ∃ L, A[n]? = some L ∧ L[j]? = some e ∧ i = (e.slot : Int) := by
  unfold findA at h
  split at h
  · cases h
  · obtain ⟨_, L, h1, h2, h3⟩ := findQ_some A _ 0 n j e h
    exact ⟨L, by simpa using h1, h2, by omega⟩
theorem findA_none {A : List (List Ent)} {i : Int} (h : findA A i = none) : ∀ (n j : Nat) (L : List Ent) (e : Ent), A[n]? = some L → L[j]? = some e → i ≠ (e.slot : Int) := by
  intro n j L e h1 h2 h3
  subst h3
  unfold findA at h
  rw [if_neg (by omega)] at h
  exact findQ_none A _ 0 h n j L e h1 h2 (by simp)

def leastFree (room : Nat) (A : List (List Ent)) : Option Nat := (List.range room).find? (fun i => (findA A (i : Int)).isNone)
theorem least_some {room : Nat} {A : List (List Ent)} {r : Nat} (h : leastFree room A = some r) : r < room ∧ findA A r = none ∧ ∀ i, i < r → (findA A (i : Int)).isSome = true := by
  unfold leastFree at h
  have h1 := List.mem_of_find?_eq_some h
  have h2 := List.find?_some h
  rw [List.find?_eq_some_iff_append] at h
  obtain ⟨_, xs, ys, hab, hall⟩ := h
  refine ⟨by simpa using h1, by simpa using h2, fun i hi => ?_⟩
  have hlen : xs.length = r := by
    have h5 : (List.range room)[xs.length]? = some r := by rw [hab]; simp
    have h6 := lt_of_get h5
    rw [List.getElem?_range (by simpa using h6)] at h5
    injection h5
  have hi2 : i ∈ xs := by
    have h7 : (List.range room)[i]? = xs[i]? := by rw [hab, List.getElem?_append_left (by omega)]
    have h8 : i < room := by have := List.mem_range.1 h1; omega
    rw [List.getElem?_range h8] at h7
    exact List.mem_of_getElem? h7.symm
  have := hall i hi2
  simpa [Option.isSome_iff_ne_none] using this
theorem least_none {room : Nat} {A : List (List Ent)} (h : leastFree room A = none) : ∀ i, i < room → (findA A (i : Int)).isSome = true := by
  unfold leastFree at h
  rw [List.find?_eq_none] at h
  intro i hi
  have := h i (List.mem_range.2 hi)
  simpa [Option.isSome_iff_ne_none] using this

/-- a push: the queues behind it, the slot, the refusal -/
def pushA (room : Nat) (A : List (List Ent)) (n id qty : Int) (top : Bool) : List (List Ent) × Int × Int :=
  if n < 0 ∨ (A.length : Int) ≤ n then (A, 0, 26) else if qty < 1 ∨ 1000000 < qty then (A, 0, 24) else
    match leastFree room A with
    | none => (A, 0, 13)
    | some r => (A.set n.toNat (A.getD n.toNat [] ++ [⟨r, id, qty, top⟩]), r, 0)
def takeA (A : List (List Ent)) (i qty : Int) : List (List Ent) × Int :=
  match findA A i with
  | none => (A, 26)
  | some (n, j, e) => if qty < 1 ∨ e.qty < qty then (A, 24) else if e.qty = qty then (A.set n ((A.getD n []).eraseIdx j), 0) else (A.set n ((A.getD n []).set j { e with qty := e.qty - qty }), 0)
def topA (A : List (List Ent)) (i : Int) (t : Bool) : List (List Ent) × Int :=
  match findA A i with
  | none => (A, 26)
  | some (n, j, e) => (A.set n ((A.getD n []).set j { e with top := t }), 0)

/-- in this world the queues A lie in an arena of so much room -/
def LA (w : World) (pb sb : Nat) (qa : Option Addr) (room : Nat) (A : List (List Ent)) : Prop :=
  ∃ S qc Q F, ArenaC w pb sb S qa qc Q F ∧ Rep A S Q F ∧ S.length = room
/-- the blocks that an arena's call may turn -/
def LF (pb sb : Nat) (qa : Option Addr) (g : Nat) : Prop := g = pb ∨ g = sb ∨ qa = some ⟨g, 0, none⟩

section
variable {w : World} {pb sb : Nat} {qa : Option Addr} {room : Nat} {A : List (List Ent)}

theorem la_new (n : Nat) (w : World) (hn : 1 ≤ n) (hn2 : n ≤ 4096) :
    Calls Try.prog 9 #[.int .i64 n] w fun e w' => e = .returned (.tuple #[.pointer (some ⟨w.heap.size + 1, 0, none⟩), .int .i64 0]) ∧ LA w' (w.heap.size + 1) w.heap.size none n [] ∧ Keeps (fun _ => False) w w' :=
  (new_yes n w hn hn2).mono fun _ _ ⟨h1, h2, h3⟩ => ⟨h1, ⟨_, _, _, _, h2, Rep.new n, by simp⟩, h3⟩

theorem LA.keep {F : Nat → Prop} {w' : World} (h : LA w pb sb qa room A) (hk : Keeps F w w') (h1 : ¬ F pb) (h2 : ¬ F sb) (h3 : ∀ g, qa = some ⟨g, 0, none⟩ → ¬ F g) : LA w' pb sb qa room A := by
  obtain ⟨S, qc, Q, F', hc, hr, hl⟩ := h
  refine ⟨S, qc, Q, F', ⟨hc.hp.keeps hk h1, hc.hs.keeps hk h2, ⟨hc.hq.1, ?_⟩, hc.room, hc.many⟩, hr, hl⟩
  rcases hc.hq.2 with h2 | ⟨g, cap, cur, hv, hb, hh, r⟩
  · exact .inl h2
  · have hlt : g < w.heap.size := by
      rcases Nat.lt_or_ge g w.heap.size with hlt | hge
      · exact hlt
      · rw [Array.getElem?_eq_none hge] at hh; cases hh
    refine .inr ⟨g, cap, cur, hv, hb, (hk.block g hlt (h3 g ?_)).trans hh, r⟩
    injection hv with e1
theorem LA.below {w' : World} (h : LA w pb sb qa room A) (hb : Below w.heap.size w w') : LA w' pb sb qa room A :=
  h.keep (Below.keeps (F := fun _ => False) hb) (fun x => x) (fun x => x) (fun _ _ x => x)
theorem LA.lt (h : LA w pb sb qa room A) : pb < w.heap.size ∧ sb < w.heap.size ∧ ∀ g, qa = some ⟨g, 0, none⟩ → g < w.heap.size := by
  obtain ⟨S, qc, Q, F', hc, hr, hl⟩ := h
  refine ⟨hc.hp.lt, hc.hs.lt, fun g hg => ?_⟩
  rcases hc.hq.2 with ⟨h2, _⟩ | ⟨g', cap, cur, hv, hb, hh, r⟩
  · injection h2 with e1; rw [hg] at e1; cases e1
  · injection hv with e1
    rw [hg] at e1
    have : g = g' := by injection e1 with e1; injection e1
    subst this
    rcases Nat.lt_or_ge g w.heap.size with hlt | hge
    · exact hlt
    · rw [Array.getElem?_eq_none hge] at hh; cases hh

theorem LA.row (h : LA w pb sb qa room A) (hA : 0 < A.length) : ∃ qb, qa = some ⟨qb, 0, none⟩ := by
  obtain ⟨S, qc, Q, F', hc, hr, hl⟩ := h
  obtain ⟨qb, h1, _⟩ := hc.que 0 (by rw [hr.len]; exact hA)
  exact ⟨qb, h1⟩

theorem la_open (h : LA w pb sb qa room A) (hm : A.length ≤ 1000000) :
    Calls Try.prog 10 #[.pointer (some ⟨pb, 0, none⟩)] w fun e w' => e = .returned (.int .i64 A.length) ∧ (∃ qb, (qa = some ⟨qb, 0, none⟩ ∨ w.heap.size ≤ qb) ∧ LA w' pb sb (some ⟨qb, 0, none⟩) room (A ++ [[]])) ∧ Keeps (LF pb sb qa) w w' := by
  obtain ⟨S, qc, Q, F', hc, hr, hl⟩ := h
  have hlen := hr.len
  refine (open_any hc (by omega)).mono ?_
  rintro e w' ⟨rfl, ⟨qb, qc', h1, h2⟩, hk⟩
  refine ⟨by rw [hlen], ⟨qb, h1, ⟨S, qc', _, F', h2, hr.open_, hl⟩⟩, hk.more fun k hk => ?_⟩
  rcases hk with hk | hk
  · exact .inl hk
  · exact .inr (.inr hk)

theorem getD_of {α : Type} {A : List (List α)} {n : Nat} {L : List α} (h : A[n]? = some L) : A.getD n [] = L := by
  rw [List.getD_eq_getElem?_getD, h]; rfl
theorem get_of {α : Type} {A : List α} {n : Nat} {x : α} (h : A[n]? = some x) : ∃ hn : n < A.length, A[n]'hn = x := by
  have hl := lt_of_get h
  refine ⟨hl, ?_⟩
  rw [List.getElem?_eq_getElem hl] at h
  injection h
theorem Rep.used {S : List Slt} {Q : List Que} {F : Int} (h : Rep A S Q F) (i : Nat) (hi : i < S.length) : (S[i]'hi).used = (findA A (i : Int)).isSome := by
  cases hf : findA A (i : Int) with
  | none =>
    cases hu : (S[i]'hi).used with
    | false => rfl
    | true =>
      obtain ⟨n, j, L, e, h1, h2, h3⟩ := h.un i _ (List.getElem?_eq_getElem hi) hu
      exact absurd (by omega) (findA_none hf n j L e h1 h2)
  | some x =>
    obtain ⟨n, j, e⟩ := x
    obtain ⟨L, h1, h2, h3⟩ := findA_some hf
    have := h.at_ n j L e h1 h2
    have hie : i = e.slot := by omega
    subst hie
    rw [List.getElem?_eq_getElem hi] at this
    injection this with this
    rw [this]
    rfl

set_option maxHeartbeats 1000000 in
theorem la_push (h : LA w pb sb qa room A) (n id qty : Int) (top : Bool) :
    Calls Try.prog 13 #[.pointer (some ⟨pb, 0, none⟩), .int .i64 n, .int .i64 id, .int .i64 qty, .bool top] w fun e w' => e = .returned (.tuple #[.int .i64 (pushA room A n id qty top).2.1, .int .i64 (pushA room A n id qty top).2.2]) ∧ LA w' pb sb qa room (pushA room A n id qty top).1 ∧ Keeps (LF pb sb qa) w w' := by
  have h0 := h
  obtain ⟨S, qc, Q, F, hc, hr, hl⟩ := h
  have hlen := hr.len
  have hroom := hc.room
  have hFr := hr.room
  unfold pushA
  by_cases hn : n < 0 ∨ (A.length : Int) ≤ n
  · rw [if_pos hn]
    refine (push_none hc n id qty top (by omega)).mono ?_
    rintro e w' ⟨rfl, rfl⟩
    exact ⟨rfl, h0, Keeps.refl _ _⟩
  · rw [if_neg hn]
    by_cases hq : qty < 1 ∨ 1000000 < qty
    · rw [if_pos hq]
      refine (push_qty hc n id qty top (by omega) hq).mono ?_
      rintro e w' ⟨rfl, rfl⟩
      exact ⟨rfl, h0, Keeps.refl _ _⟩
    · rw [if_neg hq]
      obtain ⟨n, rfl⟩ := Int.eq_ofNat_of_zero_le (show 0 ≤ n by omega)
      have hnl : n < A.length := by omega
      obtain ⟨L, hL⟩ : ∃ L, A[n]? = some L := ⟨_, List.getElem?_eq_getElem hnl⟩
      cases hlf : leastFree room A with
      | none =>
        have hall := least_none hlf
        have hF : F = 0 := by
          rw [hr.free]
          have : S.countP (fun s => !s.used) = 0 := by
            rw [List.countP_eq_zero]
            intro s hs
            obtain ⟨i, hi, rfl⟩ := List.getElem_of_mem hs
            rw [hr.used i hi, hall i (by omega)]
            simp
          omega
        refine (push_full hc n id qty top (by omega) (by omega) (by omega) hF).mono ?_
        rintro e w' ⟨rfl, rfl⟩
        exact ⟨rfl, h0, Keeps.refl _ _⟩
      | some r =>
        obtain ⟨hr1, hr2, hr3⟩ := least_some hlf
        have hrl : r < S.length := by omega
        have hru : (S[r]'hrl).used = false := by rw [hr.used r hrl, hr2]; rfl
        have hfree : ∀ j (hj : j < S.length), j < r → (S[j]'hj).used = true := fun j hj hjr => by rw [hr.used j hj]; exact hr3 j hjr
        have hF : 1 ≤ F ∧ F ≤ 4096 := by
          refine ⟨?_, by omega⟩
          rw [hr.free]
          have : 0 < S.countP (fun s => !s.used) := by
            rw [List.countP_pos_iff]
            exact ⟨_, List.getElem_mem hrl, by rw [hru]; rfl⟩
          omega
        obtain ⟨hqn, hqe⟩ := get_of (getq hL hr.qs)
        have hqt := qtys_le L fun j e he => hr.qty n j L e hL he
        have hsh := hr.short hL
        obtain ⟨qb, rfl⟩ := h0.row (by omega)
        show Calls Try.prog 13 #[.pointer (some ⟨pb, 0, none⟩), .int .i64 (n : Int), .int .i64 id, .int .i64 qty, .bool top] w _
        simp only [Int.toNat_natCast, getD_of hL]
        have hsum : ∀ (x : Int), (queOf (L ++ [⟨r, id, qty, top⟩])) = ⟨if L.length = 0 then r else sl L 0, r, qtys L + qty, L.length + 1⟩ := by
          intro _
          unfold queOf
          rw [qtys_app, sl_app, show (L ++ [(⟨r, id, qty, top⟩ : Ent)]).length = L.length + 1 by simp, pv_succ, sl_app, if_neg (Nat.lt_irrefl _), if_pos rfl]
          by_cases h0 : L.length = 0
          · rw [if_neg (by omega), if_pos (by omega), if_pos h0]; simp
          · rw [if_pos (by omega), if_neg h0]; simp
        have kk : ∀ w', Keeps (fun g => g = pb ∨ g = sb ∨ g = qb) w w' → Keeps (LF pb sb (some ⟨qb, 0, none⟩)) w w' := fun w' hk => hk.more fun g hg => by
          rcases hg with hg | hg | hg
          · exact .inl hg
          · exact .inr (.inl hg)
          · exact .inr (.inr (by rw [hg]))
        by_cases hL0 : L.length = 0
        · have hpv : pv L L.length = -1 := by rw [hL0]; rfl
          refine (push_first hc n r _ hqn hqe id qty top (by omega) (by omega) hF hfree hrl hru hpv ?_ ?_).mono ?_
          · show 0 ≤ qtys L ∧ qtys L ≤ 4096000000; omega
          · show (0 : Int) ≤ L.length ∧ (L.length : Int) ≤ 4096; omega
          rintro e w' ⟨rfl, hc', hk⟩
          refine ⟨rfl, ⟨_, _, _, _, hc', ?_, by simp; exact hl⟩, kk _ hk⟩
          have := hr.push (S' := S.set r (Slt.mk_ r id qty top n (-1))) hL (List.getElem?_eq_getElem hrl) hru ⟨r, id, qty, top⟩ rfl ⟨(show 1 ≤ qty by omega), (show qty ≤ 1000000 by omega)⟩ (by simp) (by
            intro k
            rw [hpv, if_neg (by omega : ¬ ((k : Int) = -1)), List.getElem?_set]
            by_cases hk : k = r
            · subst hk
              rw [if_pos rfl, if_pos rfl, if_pos hrl]
              unfold sltOf Slt.mk_
              rw [pv_app _ _ _ (Nat.le_refl _), hpv, sl_app, if_neg (by omega), if_neg (by omega)]
            · rw [if_neg (fun x => hk x.symm), if_neg hk])
          rw [hsum 0, if_pos hL0] at this
          exact this
        · obtain ⟨l, hl1⟩ : ∃ l, L[L.length - 1]? = some l := ⟨_, List.getElem?_eq_getElem (by omega)⟩
          have hpv : pv L L.length = l.slot := by
            rw [show L.length = L.length - 1 + 1 by omega, pv_succ, sl_some hl1]
          have hls := hr.at_ n _ L l hL hl1
          obtain ⟨hll, hle⟩ := get_of hls
          have hlr : l.slot ≠ r := by
            intro hx
            have : (S[l.slot]'hll).used = true := by rw [hle]; rfl
            subst hx
            rw [hru] at this
            cases this
          refine (push_next hc n r l.slot _ hll hlr hqn hqe id qty top (by omega) (by omega) hF hfree hrl hru hpv ?_ ?_).mono ?_
          · show 0 ≤ qtys L ∧ qtys L ≤ 4096000000; omega
          · show (0 : Int) ≤ L.length ∧ (L.length : Int) ≤ 4096; omega
          rintro e w' ⟨rfl, hc', hk⟩
          refine ⟨rfl, ⟨_, _, _, _, hc', ?_, by simp; exact hl⟩, kk _ hk⟩
          have := hr.push (S' := (S.set r (Slt.mk_ r id qty top n l.slot)).set l.slot ((S[l.slot]'hll).setBk r)) hL (List.getElem?_eq_getElem hrl) hru ⟨r, id, qty, top⟩ rfl ⟨(show 1 ≤ qty by omega), (show qty ≤ 1000000 by omega)⟩ (by simp) (by
            intro k
            rw [hpv, List.getElem?_set, List.getElem?_set]
            by_cases hk : k = r
            · subst hk
              rw [if_neg hlr, if_pos rfl, if_pos rfl, if_pos hrl]
              unfold sltOf Slt.mk_
              rw [pv_app _ _ _ (Nat.le_refl _), hpv, sl_app, if_neg (by omega), if_neg (by omega)]
            · rw [if_neg hk]
              by_cases hkl : l.slot = k
              · subst hkl
                rw [if_pos rfl, if_pos rfl, if_pos (by simpa using hll), List.getElem?_eq_getElem hll]
                rfl
              · rw [if_neg hkl, if_neg (by omega : ¬ ((k : Int) = (l.slot : Int))), if_neg (fun x => hk x.symm)])
          rw [hsum 0, if_neg hL0] at this
          exact this
end
end Go.Proofs.Ytbpmoomklknkkaa
