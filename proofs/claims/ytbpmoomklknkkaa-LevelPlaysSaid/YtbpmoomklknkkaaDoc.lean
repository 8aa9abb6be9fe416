/- The document's arena in memory: which slots are used, and rows of orders in a row. No walk. -/
import Derived.Test.YtbpmoomklknkkaaOrd2
namespace Go.Proofs.Ytbpmoomklknkkaa
open Go.RowKit

/-- the type of a block of cells -/
def Tyd (w : World) (g : Nat) (t : TypeId) : Prop := ∃ cs, w.heap[g]? = some (.cells cs t (0, 0))
theorem Tyd.ne {w : World} {g g' : Nat} {t t' : TypeId} (h : Tyd w g t) (h' : Tyd w g' t') (hne : t ≠ t') : g ≠ g' := by
  rintro rfl
  obtain ⟨cs, h⟩ := h
  obtain ⟨cs', h'⟩ := h'
  rw [h] at h'
  injection h' with h'
  injection h' with _ h'
  exact hne h'
theorem Tyd.lt {w : World} {g : Nat} {t : TypeId} (h : Tyd w g t) : g < w.heap.size := by
  obtain ⟨cs, h⟩ := h
  rcases Nat.lt_or_ge g w.heap.size with hlt | hge
  · exact hlt
  · rw [Array.getElem?_eq_none hge] at h; cases h
theorem own_tyd {w : World} {B : Nat} {t : TypeId} {size n : Nat} {v : Value} {xs : List Value} (h : w.ownsRow B t size v n xs) : ∀ g, v.ownBlock = some g → Tyd w g t := by
  intro g hg
  rcases h.2 with ⟨rfl, h0⟩ | ⟨g', cap, cur, rfl, hb, hh, _⟩
  · cases hg
  · have : g' = g := by simpa [Value.ownBlock] using hg
    subst this
    exact ⟨_, hh⟩
theorem Blk.tyd {w : World} {g : Nat} {t : TypeId} {cs : Array Value} (h : Blk w g t cs) : Tyd w g t := ⟨_, h⟩

theorem Keeps.cell {F : Nat → Prop} {w w1 : World} (h : Keeps F w w1) (p : Addr) (hp : p.block < w.heap.size) (hF : ¬ F p.block) : w1.cell? p = w.cell? p := by
  unfold World.cell?
  rw [h.block _ hp hF]
theorem Keeps.frozen {F : Nat → Prop} {w w1 : World} (h : Keeps F w w1) (p : Addr) (hp : p.block < w.heap.size) (hF : ¬ F p.block) : w1.frozen? p = w.frozen? p := by
  unfold World.frozen?
  rw [h.block _ hp hF]
def RowD (w : World) (B : Nat) (v : Value) (L : List Ent) : Prop := w.ownsRow B 77 4 v L.length (L.flatMap Ent.cells)
section
variable {w w' : World} {B : Nat} {v : Value} {L : List Ent}
theorem RowD.at_ (h : RowD w B v L) (j : Nat) (e : Ent) (hj : L[j]? = some e) : ∃ g cap, v = .slice (some ⟨g, 0, none⟩) L.length cap ∧ g < w.heap.size ∧ EntAt w g (j * 4) e := by
  have hl := own_lt h
  rcases h.2 with ⟨hv, h0⟩ | ⟨g, cap, cur, hv, hb, hh, r⟩
  · have := lt_of_get hj; omega
  · subst hv
    have hg := hl g rfl
    refine ⟨g, cap, rfl, hg, ?_⟩
    have hjl := lt_of_get hj
    obtain ⟨_, hje⟩ := get_of hj
    have key : ∀ k, k < 4 → w.cell? ⟨g, j * 4 + k, none⟩ = e.cells[k]? := by
      intro k hk
      rw [h.cellAt (j * 4 + k) (by omega), fm_get Ent.cells 4 Ent.len L j k hjl hk, hje]
    exact ⟨key 0 (by omega), key 1 (by omega), key 2 (by omega), key 3 (by omega)⟩
theorem RowD.rd (h : RowD w B v L) : ∃ a c, v = .slice a L.length c ∧ (a = none → c = 0) ∧ Rd w a L := by
  obtain ⟨a, c, hv⟩ := own_form h
  have hac : a = none → c = 0 := by
    rintro rfl
    rcases h.2 with ⟨h2, _⟩ | ⟨g, cap, cur, h2, _⟩
    · rw [hv] at h2; injection h2
    · rw [hv] at h2; injection h2 with h2; cases h2
  refine ⟨a, c, hv, hac, fun j e hj => ?_⟩
  obtain ⟨g, cap, h1, h2, h3⟩ := h.at_ j e hj
  rw [hv] at h1
  injection h1 with h1
  exact ⟨g, 0, h1, h2, by rw [Nat.zero_add]; exact h3⟩
theorem RowD.rd0 {g c : Nat} (h : RowD w B (.slice (some ⟨g, 0, none⟩) L.length c) L) : Rd w (some ⟨g, 0, none⟩) L := by
  obtain ⟨a, c', hv, _, hr⟩ := h.rd
  injection hv with h1
  rw [h1]; exact hr
/-- an order's place in a row is stored to -/
theorem RowD.set_ {c : Nat} {g : Nat} (h : RowD w B (.slice (some ⟨g, 0, none⟩) L.length c) L) (m : Nat) (e e' : Ent) (hm : L[m]? = some e) (k : Nat) (hk : k < 4) (u : Value) (he : e'.cells = e.cells.set k u) :
    RowD (w.setCell ⟨g, m * 4 + k, none⟩ u) B (.slice (some ⟨g, 0, none⟩) L.length c) (L.set m e') := by
  obtain ⟨hl, hee⟩ := get_of hm
  unfold RowD at h
  have h1 := (World.ownsRow.stored h (m * 4 + k) u).1
  rw [fm_set Ent.cells 4 Ent.len u e' L m k hl hk (by rw [hee]; exact he)] at h1
  unfold RowD
  rw [List.length_set]
  exact h1
end

/-! ### the arena -/
def vd (A : List (List Ent)) (V : Nat → Option Addr × Nat) (i : Nat) : Value := .slice (V i).1 (A.getD i []).length (V i).2
def qcs (A : List (List Ent)) (V : Nat → Option Addr × Nat) : List Value := (List.range A.length).map (vd A V)
theorem qcs_len (A : List (List Ent)) (V : Nat → Option Addr × Nat) : (qcs A V).length = A.length := by simp [qcs]
theorem qcs_get {A : List (List Ent)} {V : Nat → Option Addr × Nat} {i : Nat} (h : i < A.length) : (qcs A V)[i]? = some (vd A V i) := by
  unfold qcs
  rw [List.getElem?_map, List.getElem?_range h]; rfl
theorem getD_set_self {A : List (List Ent)} {n : Nat} (hn : n < A.length) (L : List Ent) : (A.set n L).getD n [] = L := by
  rw [List.getD_eq_getElem?_getD, List.getElem?_set_self hn]; rfl
theorem getD_set_ne {A : List (List Ent)} {n i : Nat} (hn : i ≠ n) (L : List Ent) : (A.set n L).getD i [] = A.getD i [] := by
  rw [List.getD_eq_getElem?_getD, List.getD_eq_getElem?_getD, List.getElem?_set_ne (Ne.symm hn)]
theorem vd_self {A : List (List Ent)} {V : Nat → Option Addr × Nat} {n : Nat} (hn : n < A.length) (L : List Ent) (a : Option Addr) (c : Nat) : vd (A.set n L) (upd V n (a, c)) n = .slice a L.length c := by
  unfold vd; rw [upd_self, getD_set_self hn]
theorem vd_ne {A : List (List Ent)} {V : Nat → Option Addr × Nat} {n i : Nat} (hn : i ≠ n) (L : List Ent) (x : Option Addr × Nat) : vd (A.set n L) (upd V n x) i = vd A V i := by
  unfold vd; rw [upd_ne _ _ hn, getD_set_ne hn]
theorem qcs_set {A : List (List Ent)} {V : Nat → Option Addr × Nat} {n : Nat} (hn : n < A.length) (L : List Ent) (a : Option Addr) (c : Nat) : (qcs A V).set n (.slice a L.length c) = qcs (A.set n L) (upd V n (a, c)) := by
  apply List.ext_getElem?
  intro i
  rw [List.getElem?_set, qcs_len]
  by_cases hin : n = i
  · subst hin
    rw [if_pos rfl, if_pos hn, qcs_get (by simpa using hn), vd_self hn]
  · rw [if_neg hin]
    by_cases hi : i < A.length
    · rw [qcs_get hi, qcs_get (by simpa using hi), vd_ne (Ne.symm hin)]
    · rw [List.getElem?_eq_none (by rw [qcs_len]; omega), List.getElem?_eq_none (by rw [qcs_len, List.length_set]; omega)]
theorem getD_app_lt {A : List (List Ent)} {i : Nat} (hi : i < A.length) (L : List Ent) : (A ++ [L]).getD i [] = A.getD i [] := by
  rw [List.getD_eq_getElem?_getD, List.getD_eq_getElem?_getD, List.getElem?_append_left hi]
theorem getD_app_eq (A : List (List Ent)) (L : List Ent) : (A ++ [L]).getD A.length [] = L := by
  rw [List.getD_eq_getElem?_getD, List.getElem?_append_right (Nat.le_refl _), Nat.sub_self]; rfl
theorem vd_app_lt {A : List (List Ent)} {V : Nat → Option Addr × Nat} {i : Nat} (hi : i < A.length) (L : List Ent) (x : Option Addr × Nat) : vd (A ++ [L]) (upd V A.length x) i = vd A V i := by
  unfold vd; rw [upd_ne _ _ (by omega), getD_app_lt hi]
theorem vd_app_eq (A : List (List Ent)) (V : Nat → Option Addr × Nat) (L : List Ent) (a : Option Addr) (c : Nat) : vd (A ++ [L]) (upd V A.length (a, c)) A.length = .slice a L.length c := by
  unfold vd; rw [upd_self, getD_app_eq]
theorem qcs_open (A : List (List Ent)) (V : Nat → Option Addr × Nat) : qcs A V ++ [.slice none 0 0] = qcs (A ++ [[]]) (upd V A.length (none, 0)) := by
  apply List.ext_getElem?
  intro i
  by_cases hi : i < A.length
  · rw [List.getElem?_append_left (by rw [qcs_len]; exact hi), qcs_get hi, qcs_get (by simp; omega), vd_app_lt hi]
  · by_cases hi2 : i = A.length
    · subst hi2
      rw [List.getElem?_append_right (by rw [qcs_len]; omega), qcs_len, qcs_get (by simp), vd_app_eq]
      simp
    · rw [List.getElem?_eq_none (by simp [qcs_len]; omega), List.getElem?_eq_none (by rw [qcs_len]; simp; omega)]

/-- in this world the document's arena lies from B on: the slots that it takes for used are U's, the orders are A's -/
structure RA (w : World) (B pb ub : Nat) (qa : Option Addr) (qk room : Nat) (U A : List (List Ent)) (V : Nat → Option Addr × Nat) : Prop where
  hp : Blk w pb 70 #[.slice (some ⟨ub, 0, none⟩) room room, .slice qa A.length qk]
  hu : Blk w ub 4 (usedC room U)
  hq : w.ownsRow B 75 1 (.slice qa A.length qk) A.length (qcs A V)
  row : ∀ i, i < A.length → RowD w B (vd A V i) (A.getD i [])
  apart : ∀ i j, i < A.length → j < A.length → i ≠ j → ∀ g, (vd A V i).ownBlock = some g → (vd A V j).ownBlock ≠ some g
  bp : B ≤ pb
  bu : B ≤ ub
/-- the blocks that its calls may turn -/
def RF (pb ub : Nat) (qa : Option Addr) (A : List (List Ent)) (V : Nat → Option Addr × Nat) (g : Nat) : Prop := g = pb ∨ g = ub ∨ qa = some ⟨g, 0, none⟩ ∨ ∃ i, i < A.length ∧ (vd A V i).ownBlock = some g
def LTy (t : TypeId) : Prop := t = 56 ∨ t = 62 ∨ t = 58
def RTy (t : TypeId) : Prop := t = 70 ∨ t = 4 ∨ t = 75 ∨ t = 77

section
variable {w w' : World} {B pb ub : Nat} {qa : Option Addr} {qb qk room : Nat} {U A : List (List Ent)} {V : Nat → Option Addr × Nat}
theorem RA.ty (h : RA w B pb ub qa qk room U A V) : ∀ g, RF pb ub qa A V g → ∃ t, Tyd w g t ∧ RTy t := by
  rintro g (rfl | rfl | rfl | ⟨i, hi, hg⟩)
  · exact ⟨_, h.hp.tyd, .inl rfl⟩
  · exact ⟨_, h.hu.tyd, .inr (.inl rfl)⟩
  · exact ⟨_, own_tyd h.hq g rfl, .inr (.inr (.inl rfl))⟩
  · exact ⟨_, own_tyd (h.row i hi) g hg, .inr (.inr (.inr rfl))⟩
theorem RA.ge (h : RA w B pb ub qa qk room U A V) : ∀ g, RF pb ub qa A V g → B ≤ g := by
  rintro g (rfl | rfl | rfl | ⟨i, hi, hg⟩)
  · exact h.bp
  · exact h.bu
  · exact own_base h.hq g rfl
  · exact own_base (h.row i hi) g hg
theorem RA.lt (h : RA w B pb ub qa qk room U A V) : ∀ g, RF pb ub qa A V g → g < w.heap.size := by
  intro g hg
  obtain ⟨t, ht, _⟩ := h.ty g hg
  exact ht.lt
theorem qa_of {qa : Option Addr} {n c g : Nat} {w : World} {B : Nat} {t : TypeId} {size m : Nat} {xs : List Value} (h : w.ownsRow B t size (.slice qa n c) m xs) (hg : (Value.slice qa n c).ownBlock = some g) : qa = some ⟨g, 0, none⟩ := by
  rcases h.2 with ⟨hv, _⟩ | ⟨g', cap', _, hv, _⟩
  · rw [hv] at hg; cases hg
  · rw [hv] at hg
    have e : g' = g := by simpa [Value.ownBlock] using hg
    injection hv with e1
    rw [e1, e]
theorem RA.keep (h : RA w B pb ub qa qk room U A V) {F : Nat → Prop} (hk : Keeps F w w') (hF : ∀ g, RF pb ub qa A V g → ¬ F g) : RA w' B pb ub qa qk room U A V :=
  ⟨h.hp.keeps hk (hF _ (.inl rfl)), h.hu.keeps hk (hF _ (.inr (.inl rfl))), own_keep h.hq hk (fun g hg => hF g (.inr (.inr (.inl (qa_of h.hq hg))))), fun i hi => own_keep (h.row i hi) hk (fun g hg => hF g (.inr (.inr (.inr ⟨i, hi, hg⟩)))), h.apart, h.bp, h.bu⟩
theorem RA.below (h : RA w B pb ub qa qk room U A V) (hb : Below w.heap.size w w') : RA w' B pb ub qa qk room U A V := h.keep (Below.keeps (F := fun _ => False) hb) (fun _ _ x => x)
theorem LA.ty {pb sb : Nat} {qa : Option Addr} (h : LA w pb sb qa room A) : ∀ g, LF pb sb qa g → ∃ t, Tyd w g t ∧ LTy t := by
  obtain ⟨S, qc, Q, F, hc, hr, _⟩ := h
  rintro g (rfl | rfl | rfl)
  · exact ⟨_, hc.hp.tyd, .inl rfl⟩
  · exact ⟨_, hc.hs.tyd, .inr (.inl rfl)⟩
  · exact ⟨_, own_tyd hc.hq g rfl, .inr (.inr rfl)⟩
theorem ty_apart {t : TypeId} (h : LTy t) (h' : RTy t) : False := by
  rcases h with rfl | rfl | rfl <;> (rcases h' with h' | h' | h' | h' <;> exact absurd h' (by decide))
theorem sep {pb' sb' : Nat} {qa' : Option Addr} {room' : Nat} {A' : List (List Ent)} (hl : LA w pb' sb' qa' room' A') (h : RA w B pb ub qa qk room U A V) : ∀ g, LF pb' sb' qa' g → RF pb ub qa A V g → False := by
  intro g h1 h2
  obtain ⟨t, ⟨cs, h3⟩, h4⟩ := hl.ty g h1
  obtain ⟨t', ⟨cs', h5⟩, h6⟩ := h.ty g h2
  rw [h3] at h5
  injection h5 with h5
  injection h5 with _ h5
  subst h5
  exact ty_apart h4 h6

theorem RA.c0 (h : RA w B pb ub qa qk room U A V) : w.cell? ⟨pb, 0, none⟩ = some (.slice (some ⟨ub, 0, none⟩) room room) := by rw [h.hp.cell]; rfl
theorem RA.c1 (h : RA w B pb ub qa qk room U A V) : w.cell? ⟨pb, 1, none⟩ = some (.slice qa A.length qk) := by rw [h.hp.cell]; rfl
theorem RA.cu (h : RA w B pb ub qa qk room U A V) {i : Nat} (hi : i < room) : w.cell? ⟨ub, i, none⟩ = some (.bool (tk U i)) := by rw [h.hu.cell, usedC_get hi]
theorem RA.qrow (h : RA w B pb ub qa qk room U A V) (hA : 0 < A.length) : ∃ qb, qa = some ⟨qb, 0, none⟩ := by
  rcases h.hq.2 with ⟨_, h0⟩ | ⟨g, cap, cur, hv, _⟩
  · omega
  · injection hv with hv; exact ⟨g, hv⟩
theorem RA.cq (h : RA w B pb ub (some ⟨qb, 0, none⟩) qk room U A V) {i : Nat} (hi : i < A.length) : w.cell? ⟨qb, i, none⟩ = some (vd A V i) := by
  have := h.hq.cellAt i (by omega)
  rw [this, qcs_get hi]
theorem RA.fq (h : RA w B pb ub (some ⟨qb, 0, none⟩) qk room U A V) (i : Nat) : w.frozen? ⟨qb, i, none⟩ = false := World.ownsRow.frozenAt h.hq i

/-- a slot's flag is another -/
theorem RA.use {T : List (List Ent)} (h : RA w B pb ub qa qk room U A V) {i : Nat} {b : Bool} (ht : ∀ k, tk T k = if k = i then b else tk U k) : RA (w.setCell ⟨ub, i, none⟩ (.bool b)) B pb ub qa qk room T A V := by
  have hk : Keeps (fun g => g = ub) w (w.setCell ⟨ub, i, none⟩ (.bool b)) := (Keeps.refl (fun g => g = ub) w).setCell (p := ⟨ub, i, none⟩) (fun _ => rfl) _
  refine ⟨h.hp.keeps hk (h.hp.tyd.ne h.hu.tyd (by decide)), ?_, own_keep h.hq hk (fun g hg => (own_tyd h.hq g hg).ne h.hu.tyd (by decide)), fun j hj => own_keep (h.row j hj) hk (fun g hg => (own_tyd (h.row j hj) g hg).ne h.hu.tyd (by decide)), h.apart, h.bp, h.bu⟩
  have := h.hu.set_ i (.bool b)
  rwa [usedC_set ht] at this

/-- one row is another, which is its own or new -/
theorem RA.row_new (h : RA w B pb ub (some ⟨qb, 0, none⟩) qk room U A V) {n : Nat} (hn : n < A.length) {a : Option Addr} {c : Nat} {L : List Ent} {r : Option Nat} (hg : w.grownBy w' r) (hr : r = none ∨ r = (vd A V n).ownBlock ∨ ∃ x, r = some x ∧ w.heap.size ≤ x)
    (hv : RowD w' B (.slice a L.length c) L) (hb : (Value.slice a L.length c).ownBlock = (vd A V n).ownBlock ∨ (Value.slice a L.length c).ownBlock = none ∨ ∃ g, (Value.slice a L.length c).ownBlock = some g ∧ w.heap.size ≤ g) :
    RA (w'.setCell ⟨qb, n, none⟩ (.slice a L.length c)) B pb ub (some ⟨qb, 0, none⟩) qk room U (A.set n L) (upd V n (a, c)) := by
  have hkp : Keeps (fun g => r = some g) w w' := grown_keeps hg
  have tq := own_tyd h.hq qb rfl
  have hno : ∀ g t, Tyd w g t → t ≠ 77 → ¬ r = some g := by
    intro g t ht hne hg2
    rcases hr with hr | hr | ⟨x, hr, hx⟩
    · rw [hr] at hg2; cases hg2
    · rw [hr] at hg2; exact ht.ne (own_tyd (h.row n hn) g hg2) hne rfl
    · rw [hr] at hg2; injection hg2 with hg2; have := ht.lt; omega
  have hrow : ∀ i, i < A.length → i ≠ n → ∀ g, (vd A V i).ownBlock = some g → ¬ r = some g := by
    intro i hi hin g hg1 hg2
    rcases hr with hr | hr | ⟨x, hr, hx⟩
    · rw [hr] at hg2; cases hg2
    · rw [hr] at hg2; exact h.apart i n hi hn hin g hg1 hg2
    · rw [hr] at hg2; injection hg2 with hg2
      have := own_lt (h.row i hi) g hg1; omega
  have hp' := h.hp.keeps hkp (hno _ _ h.hp.tyd (by decide))
  have hu' := h.hu.keeps hkp (hno _ _ h.hu.tyd (by decide))
  have hq' := own_keep h.hq hkp (fun g hg => hno g _ (own_tyd h.hq g hg) (by decide))
  have tq' := own_tyd hq' qb rfl
  have hk2 : Keeps (fun g => g = qb) w' (w'.setCell ⟨qb, n, none⟩ (.slice a L.length c)) := (Keeps.refl (fun g => g = qb) w').setCell (p := ⟨qb, n, none⟩) (fun _ => rfl) _
  refine ⟨?_, hu'.keeps hk2 (hu'.tyd.ne tq' (by decide)), ?_, ?_, ?_, h.bp, h.bu⟩
  · rw [List.length_set]
    exact hp'.keeps hk2 (hp'.tyd.ne tq' (by decide))
  · have h1 := (World.ownsRow.stored hq' n (.slice a L.length c)).1
    rw [qcs_set hn] at h1
    rw [List.length_set]
    exact h1
  · intro i hi
    rw [List.length_set] at hi
    by_cases hin : i = n
    · subst hin
      rw [vd_self hn, getD_set_self hn]
      exact own_keep hv hk2 (fun g hg => (own_tyd hv g hg).ne tq' (by decide))
    · rw [vd_ne hin, getD_set_ne hin]
      have h1 := own_keep (h.row i hi) hkp (hrow i hi hin)
      exact own_keep h1 hk2 (fun g hg => (own_tyd h1 g hg).ne tq' (by decide))
  · have key : ∀ i, i < A.length → i ≠ n → ∀ g, (vd A V i).ownBlock = some g → (Value.slice a L.length c).ownBlock ≠ some g := by
      intro i hi hik g h1 h2
      rcases hb with hb | hb | ⟨x, hb, hx⟩
      · rw [hb] at h2; exact h.apart i n hi hn hik g h1 h2
      · rw [hb] at h2; cases h2
      · rw [hb] at h2; injection h2 with h2
        have := own_lt (h.row i hi) g h1; omega
    intro i j hi hj hij g h1 h2
    rw [List.length_set] at hi hj
    by_cases hik : i = n
    · subst hik
      rw [vd_self hn] at h1
      rw [vd_ne (Ne.symm hij)] at h2
      exact key j hj (Ne.symm hij) g h2 h1
    · rw [vd_ne hik] at h1
      by_cases hjk : j = n
      · subst hjk
        rw [vd_self hn] at h2
        exact key i hi hik g h1 h2
      · rw [vd_ne hjk] at h2
        exact h.apart i j hi hj hij g h1 h2
/-- what such a step leaves alone -/
theorem RA.row_keeps (_ : RA w B pb ub (some ⟨qb, 0, none⟩) qk room U A V) {n : Nat} (hn : n < A.length) {r : Option Nat} (hg : w.grownBy w' r) (hr : r = none ∨ r = (vd A V n).ownBlock ∨ ∃ x, r = some x ∧ w.heap.size ≤ x) (u : Value) :
    Keeps (RF pb ub (some ⟨qb, 0, none⟩) A V) w (w'.setCell ⟨qb, n, none⟩ u) := by
  have h1 : Keeps (RF pb ub (some ⟨qb, 0, none⟩) A V) w w' := (Keeps.refl _ w).step (grown_keeps hg) (by
    intro i hi hri
    rcases hr with hr | hr | ⟨x, hr, hx⟩
    · rw [hr] at hri; cases hri
    · rw [hr] at hri; exact .inr (.inr (.inr ⟨n, hn, hri⟩))
    · rw [hr] at hri; injection hri with hri; omega)
  exact h1.setCell (p := ⟨qb, n, none⟩) (fun _ => .inr (.inr (.inl rfl))) _

/-- an order's cell in a row is another -/
theorem RA.ent (h : RA w B pb ub qa qk room U A V) {n g m k : Nat} {e e' : Ent} {L : List Ent} (hL : A[n]? = some L) (hg : (V n).1 = some ⟨g, 0, none⟩) (hm : L[m]? = some e) (hk : k < 4) (u : Value) (he : e'.cells = e.cells.set k u) :
    RA (w.setCell ⟨g, m * 4 + k, none⟩ u) B pb ub qa qk room U (A.set n (L.set m e')) V ∧ Keeps (RF pb ub qa A V) w (w.setCell ⟨g, m * 4 + k, none⟩ u) := by
  have hn := lt_of_get hL
  have hLd := getD_of hL
  have hob : (vd A V n).ownBlock = some g := by unfold vd; rw [hg]; rfl
  have hkp : Keeps (fun y => y = g) w (w.setCell ⟨g, m * 4 + k, none⟩ u) := (Keeps.refl (fun y => y = g) w).setCell (p := ⟨g, m * 4 + k, none⟩) (fun _ => rfl) _
  have tg := own_tyd (h.row n hn) g hob
  have ev : ∀ i, vd (A.set n (L.set m e')) V i = vd A V i := by
    intro i
    unfold vd
    by_cases hi : i = n
    · subst hi; rw [getD_set_self hn, hLd, List.length_set]
    · rw [getD_set_ne hi]
  have eq : qcs (A.set n (L.set m e')) V = qcs A V := by
    unfold qcs
    rw [List.length_set]
    exact List.map_congr_left (fun i _ => ev i)
  refine ⟨⟨?_, h.hu.keeps hkp (h.hu.tyd.ne tg (by decide)), ?_, ?_, ?_, h.bp, h.bu⟩, (Keeps.refl _ w).setCell (p := ⟨g, m * 4 + k, none⟩) (fun _ => .inr (.inr (.inr ⟨n, hn, hob⟩))) _⟩
  · rw [List.length_set]; exact h.hp.keeps hkp (h.hp.tyd.ne tg (by decide))
  · rw [List.length_set, eq]; exact own_keep h.hq hkp (fun y hy => (own_tyd h.hq y hy).ne tg (by decide))
  · intro i hi
    rw [List.length_set] at hi
    rw [ev]
    by_cases hin : i = n
    · subst hin
      rw [getD_set_self hn]
      have h2 := h.row i hi
      rw [hLd] at h2
      unfold vd at h2 ⊢
      rw [hg, hLd] at h2 ⊢
      have h3 := RowD.set_ h2 m e e' hm k hk u he
      exact h3
    · rw [getD_set_ne hin]
      exact own_keep (h.row i hi) hkp (fun y hy e => h.apart i n hi hn hin y hy (by rw [hob, e]))
  · intro i j hi hj hij y h1 h2
    rw [List.length_set] at hi hj
    rw [ev] at h1 h2
    exact h.apart i j hi hj hij y h1 h2
end
end Go.Proofs.Ytbpmoomklknkkaa
