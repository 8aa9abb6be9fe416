/- Rows of orders that a call owns, or reads; the walk of cornhillbook.Same at orders. -/
import Derived.Test.YtbpmoomklknkkaaAsks
import Derived.Maps.AppendAt
import Derived.Laws.AppendOwnNone
import Derived.StillTailTactics
namespace Go.Proofs.Ytbpmoomklknkkaa
open Go.RowKit

/-- the four cells of an order -/
def EntAt (w : World) (b o : Nat) (e : Ent) : Prop :=
  w.cell? ⟨b, o, none⟩ = some (.int .i64 e.slot) ∧ w.cell? ⟨b, o + 1, none⟩ = some (.int .i64 e.id) ∧ w.cell? ⟨b, o + 2, none⟩ = some (.int .i64 e.qty) ∧ w.cell? ⟨b, o + 3, none⟩ = some (.bool e.top)
/-- a slice that reads as a list of orders -/
def Rd (w : World) (a : Option Addr) (L : List Ent) : Prop := ∀ j e, L[j]? = some e → ∃ b off, a = some ⟨b, off, none⟩ ∧ b < w.heap.size ∧ EntAt w b (off + j * 4) e
/-- a row of the call's own that holds a list of orders -/
def RowV (w : World) (B : Nat) (v : Value) (L : List Ent) : Prop := w.ownsRow B 33 4 v L.length (L.flatMap Ent.cells)
theorem Ent.len (e : Ent) : e.cells.length = 4 := rfl
theorem EntAt.below {w w' : World} {b o : Nat} {e : Ent} (h : EntAt w b o e) (hb : Below w.heap.size w w') (hl : b < w.heap.size) : EntAt w' b o e := by
  obtain ⟨h0, h1, h2, h3⟩ := h
  have e : ∀ o, w'.cell? ⟨b, o, none⟩ = w.cell? ⟨b, o, none⟩ := fun o => hb.cell (p := ⟨b, o, none⟩) hl
  exact ⟨(e _).trans h0, (e _).trans h1, (e _).trans h2, (e _).trans h3⟩
theorem Rd.below {w w' : World} {a : Option Addr} {L : List Ent} (h : Rd w a L) (hb : Below w.heap.size w w') : Rd w' a L := by
  intro j e hj
  obtain ⟨b, off, h1, h2, h3⟩ := h j e hj
  exact ⟨b, off, h1, Nat.lt_of_lt_of_le h2 hb.size, h3.below hb h2⟩
section
variable {w w' : World} {B : Nat} {v : Value} {L : List Ent}
theorem RowV.form (h : RowV w B v L) : ∃ a c, v = .slice a L.length c := own_form h
theorem own_lt {w : World} {B : Nat} {t : TypeId} {size n : Nat} {v : Value} {xs : List Value} (h : w.ownsRow B t size v n xs) : ∀ g, v.ownBlock = some g → g < w.heap.size := by
  intro g hg
  rcases h.2 with ⟨rfl, h0⟩ | ⟨g', cap, cur, rfl, hb, hh, _⟩
  · cases hg
  · have : g' = g := by simpa [Value.ownBlock] using hg
    subst this
    rcases Nat.lt_or_ge g' w.heap.size with hlt | hge
    · exact hlt
    · rw [Array.getElem?_eq_none hge] at hh; cases hh
theorem own_keep {w w' : World} {B : Nat} {t : TypeId} {size n : Nat} {v : Value} {xs : List Value} {F : Nat → Prop} (h : w.ownsRow B t size v n xs) (hk : Keeps F w w') (hf : ∀ g, v.ownBlock = some g → ¬ F g) : w'.ownsRow B t size v n xs := by
  have hl := own_lt h
  refine ⟨h.1, ?_⟩
  rcases h.2 with h2 | ⟨g, cap, cur, hv, hb, hh, r⟩
  · exact .inl h2
  · have hg : v.ownBlock = some g := by rw [hv]; rfl
    exact .inr ⟨g, cap, cur, hv, hb, (hk.block g (hl g hg) (hf g hg)).trans hh, r⟩
theorem own_below {w w' : World} {B : Nat} {t : TypeId} {size n : Nat} {v : Value} {xs : List Value} (h : w.ownsRow B t size v n xs) (hb : Below w.heap.size w w') : w'.ownsRow B t size v n xs :=
  own_keep h (Below.keeps (F := fun _ => False) hb) fun _ _ x => x
theorem RowV.at_ (h : RowV w B v L) (j : Nat) (e : Ent) (hj : L[j]? = some e) : ∃ g cap, v = .slice (some ⟨g, 0, none⟩) L.length cap ∧ g < w.heap.size ∧ EntAt w g (j * 4) e := by
  have hl := own_lt h
  rcases h.2 with ⟨hv, h0⟩ | ⟨g, cap, cur, hv, hb, hh, r⟩
  · have := lt_of_get hj; omega
  · subst hv
    have hg := hl g rfl
    refine ⟨g, cap, rfl, hg, ?_⟩
    have hjl := lt_of_get hj
    obtain ⟨_, hje⟩ := get_of hj
    have key : ∀ k, k < 4 → w.cell? ⟨g, j * 4 + k, none⟩ = e.cells[k]? := by
      intro k hk
      rw [h.cellAt (j * 4 + k) (by omega), fm_get Ent.cells 4 Ent.len L j k hjl hk, hje]
    exact ⟨key 0 (by omega), key 1 (by omega), key 2 (by omega), key 3 (by omega)⟩
theorem RowV.rd (h : RowV w B v L) : ∃ a c, v = .slice a L.length c ∧ (a = none → c = 0) ∧ Rd w a L := by
  obtain ⟨a, c, hv⟩ := h.form
  have hac : a = none → c = 0 := by
    rintro rfl
    rcases h.2 with ⟨h2, _⟩ | ⟨g, cap, cur, h2, _⟩
    · rw [hv] at h2; injection h2
    · rw [hv] at h2; injection h2 with h2; cases h2
  refine ⟨a, c, hv, hac, fun j e hj => ?_⟩
  obtain ⟨g, cap, h1, h2, h3⟩ := h.at_ j e hj
  rw [hv] at h1
  injection h1 with h1
  exact ⟨g, 0, h1, h2, by rw [Nat.zero_add]; exact h3⟩
theorem LA.ne {pb sb : Nat} {qa : Option Addr} {room : Nat} {A : List (List Ent)} (hl : LA w pb sb qa room A) (h : RowV w B v L) : ∀ g, v.ownBlock = some g → ¬ LF pb sb qa g := by
  obtain ⟨S, qc, Q, F, hc, hr, _⟩ := hl
  have h1 := own_ne h hc.hp (by decide)
  have h2 := own_ne h hc.hs (by decide)
  rintro g hg (rfl | rfl | hq)
  · exact h1 hg
  · exact h2 hg
  · rcases hc.hq.2 with ⟨hv, _⟩ | ⟨g', cap', cur', hv, _, hh', _⟩
    · injection hv with e1; rw [hq] at e1; cases e1
    · injection hv with e1
      rw [hq] at e1
      have : g = g' := by injection e1 with e1; injection e1
      subst this
      rcases h.2 with ⟨hv2, _⟩ | ⟨g2, cap2, cur2, hv2, _, hh2, _⟩
      · rw [hv2] at hg; cases hg
      · rw [hv2] at hg
        have : g2 = g := by simpa [Value.ownBlock] using hg
        subst this
        rw [hh2] at hh'
        injection hh' with hh'
        injection hh' with _ ht
        exact absurd ht (by decide)
end

theorem Ent.one (L : List Ent) : ∀ u ∈ L.flatMap Ent.cells, u.oneCell' = true := by
  intro u hu
  rw [List.mem_flatMap] at hu
  obtain ⟨e, _, hu⟩ := hu
  simp only [Ent.cells, List.mem_cons, List.not_mem_nil, or_false] at hu
  rcases hu with rfl | rfl | rfl | rfl <;> rfl
theorem Rd.cells {w : World} {b off : Nat} {L : List Ent} (h : Rd w (some ⟨b, off, none⟩) L) : ∀ j u, (L.flatMap Ent.cells)[j]? = some u → w.cell? ((⟨b, off, none⟩ : Addr).add j) = some u := by
  intro j u hu
  have hj := lt_of_get hu
  rw [fm_length Ent.cells 4 Ent.len] at hj
  have hi : j / 4 < L.length := by omega
  have h1 := fm_get Ent.cells 4 Ent.len L (j / 4) (j % 4) hi (by omega)
  rw [show j / 4 * 4 + j % 4 = j by omega, hu] at h1
  obtain ⟨b', off', he, _, h2⟩ := h (j / 4) _ (List.getElem?_eq_getElem hi)
  have e1 : b = b' ∧ off = off' := by injection he with he; injection he with x y; exact ⟨x, y⟩
  obtain ⟨rfl, rfl⟩ := e1
  rw [add_at, show off + j = off + j / 4 * 4 + j % 4 by omega, h1]
  generalize L[j / 4] = e at h2 ⊢
  obtain ⟨c0, c1, c2, c3⟩ := h2
  have hr : j % 4 = 0 ∨ j % 4 = 1 ∨ j % 4 = 2 ∨ j % 4 = 3 := by omega
  rcases hr with hr | hr | hr | hr <;> rw [hr]
  · exact c0
  · exact c1
  · exact c2
  · exact c3
/-- append of orders that are read, none of them too -/
theorem wpList_append_ents {w : World} {ops : Array Oper} {rest : List Oper} {o : Oper} {a : Act} {Q : Exit → Act → World → Prop} (hgd : o.guard = none) (s x : Operand)
    (ho : o.op = .call { callee := .builtin .append, args := #[s, x], argTypes := #[42, 42] })
    (B : Nat) (v : Value) (L : List Ent) (hs : a.eval s = v) (hown : RowV w B v L) (A : Option Addr) (c : Nat) (M : List Ent) (hx : a.eval x = .slice A M.length c) (hac : A = none → c = 0) (hr : Rd w A M)
    (hle : L.length + M.length ≤ 1000000) (hbase : B ≤ w.heap.size)
    (h : ∀ v' w', RowV w' B v' (L ++ M) → w.grownBy w' v.ownBlock → (v'.ownBlock = v.ownBlock ∨ v'.ownBlock = some w.heap.size) → wpList Try.prog ops Q rest (a.put o.dst v') w') : wpList Try.prog ops Q (o :: rest) a w := by
  obtain ⟨i0, hi, hz0, hz1, hz2⟩ := info_parts info_ent
  rcases A with _ | ad
  · have hM : M = [] := by
      cases M with
      | nil => rfl
      | cons e M => obtain ⟨b, off, h1, _⟩ := hr 0 e rfl; cases h1
    subst hM
    have hc := hac rfl
    subst hc
    refine wpList_append_own_none hgd s x 42 ho B 33 i0 4 Try.underlying42 hi v L.length _ hs hown hx ?_
    exact h v w (by rw [List.append_nil]; exact hown) (World.grownBy.refl w _) (.inl rfl)
  · have hnews : ∀ j u, (M.flatMap Ent.cells)[j]? = some u → w.cell? (ad.add j) = some u := by
      cases M with
      | nil => intro j u hu; simp at hu
      | cons e M =>
        obtain ⟨b, off, h1, _⟩ := hr 0 e rfl
        injection h1 with h1
        subst h1
        exact hr.cells
    refine wpList_append_own_at w hgd s x 42 ho B 33 i0 _ 4 32 Try.underlying42 hi hz0 hz1 hz2 rfl (by omega) v L.length _ hs hown ad M.length c (M.flatMap Ent.cells) hx (by rw [fm_length Ent.cells 4 Ent.len]) hnews (Ent.one M) (by unfold maxLen; omega) (by omega) hbase ?_
    intro v' w' h1 h2 _ h4
    refine h v' w' ?_ h2 h4
    unfold RowV
    rw [List.length_append, List.flatMap_append]
    exact h1
theorem Below.drewN_of (w : World) (n : Nat) : Below w.heap.size w (w.drewN n) := ⟨rfl, rfl, rfl, Nat.le_refl _, fun _ _ => rfl⟩
set_option maxHeartbeats 600000 in
theorem same_any (a b : Option Addr) (c d : Nat) (L : List Ent) (w : World) (ha : Rd w a L) (hb : Rd w b L) (hL : L.length ≤ 1000000) :
    Calls Try.prog 19 #[.slice a L.length c, .slice b L.length d] w fun e w' => e = .returned (.bool true) ∧ Below w.heap.size w w' := by
  go_enter Try.func19, Try.ntmps19
  go_wp2
  go_loopw [5] (fun i w' => ∃ k : Nat, i = .int .i64 k ∧ k ≤ L.length ∧ Below w.heap.size w w') (fun i _ => L.length - (intOf i).toNat)
  case atStart => exact ⟨0, rfl, by omega, Below.refl _ _⟩
  case round =>
    obtain ⟨k, rfl, hk, hbw⟩ := hrel
    by_cases hkl : k < L.length
    · obtain ⟨e, he⟩ : ∃ e, L[k]? = some e := ⟨_, List.getElem?_eq_getElem hkl⟩
      obtain ⟨b1, o1, rfl, hl1, h1⟩ := ha k e he
      obtain ⟨b2, o2, rfl, hl2, h2⟩ := hb k e he
      obtain ⟨x0, x1, x2, x3⟩ := h1.below hbw hl1
      obtain ⟨y0, y1, y2, y3⟩ := h2.below hbw hl2
      have HE := Lib.hid he
      clear he h1 h2
      go_wp2
      go_quiet (fail)
      go_wp2_with fail
      go_roundw
      case rel => exact ⟨k + 1, by go_num, by omega, hbw.trans ((Below.drewN_of wr nq).mono hbw.size)⟩
      case measure => simp [intOf]; omega
    · go_wp2
      go_ret
      exact ⟨rfl, hbw⟩
theorem same_two (a b : Option Addr) (c d : Nat) (L M : List Ent) (w : World) (h : M = L) (ha : Rd w a L) (hb : Rd w b M) (hL : L.length ≤ 1000000) :
    Calls Try.prog 19 #[.slice a L.length c, .slice b M.length d] w fun e w' => e = .returned (.bool true) ∧ Below w.heap.size w w' := by
  subst h
  exact same_any a b c d M w ha hb hL
end Go.Proofs.Ytbpmoomklknkkaa
