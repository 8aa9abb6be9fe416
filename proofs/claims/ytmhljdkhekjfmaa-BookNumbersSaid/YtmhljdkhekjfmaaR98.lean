/- The document's Fill, whole; both books in one world. -/
import Derived.Test.YtmhljdkhekjfmaaR96
namespace Go.Proofs.Ytmhljdkhekjfmaa
open Go.RowKit

section
variable {W w w' : World} {pb pw : Nat} {L : List Od}
/-- what the document's Add does -/
def AddRef : Prop := ∀ (W w : World) (pw : Nat) (L : List Od), RB W w pw L → L.length ≤ 250 → ∀ (id side price qty : Int),
    Calls Try.prog 36 #[.pointer (some ⟨pw, 0, none⟩), .int .i64 id, .int .i64 side, .int .i64 price, .int .i64 qty] w fun e w' => e = .returned (.int .i64 (refAdd L id side price qty).2) ∧ RB W w' pw (refAdd L id side price qty).1 ∧ Keeps (fun g => g = pw) w w'
theorem fill_ref (h : RB W w pw L) (hl : L.length ≤ 250) (hn : (L.map Od.id).Nodup) (hq : ∀ o ∈ L, 1 ≤ o.qty ∧ o.qty ≤ 1000000) (id qty : Int) :
    Calls Try.prog 37 #[.pointer (some ⟨pw, 0, none⟩), .int .i64 id, .int .i64 qty] w fun e w' => e = .returned (.int .i64 (refFill L id qty).2) ∧ RB W w' pw (refFill L id qty).1 ∧ Keeps (fun g => g = pw) w w' := by
  cases hf : L.find? (fun o => o.id == id) with
  | none =>
    rw [refFill_none hf]
    exact (fill_ref_none h hl id qty hf).mono fun _ _ ⟨h1, h2⟩ => ⟨h1, h2 ▸ h, h2 ▸ Keeps.refl _ _⟩
  | some o =>
    by_cases hb : qty < 1 ∨ o.qty < qty
    · rw [refFill_some hf, if_pos hb]
      exact (fill_ref_qty h hl id qty hf hb).mono fun _ _ ⟨h1, h2⟩ => ⟨h1, h2 ▸ h, h2 ▸ Keeps.refl _ _⟩
    · have hc : (refFill L id qty).2 = 0 := by
        rw [refFill_some hf, if_neg hb]
        split <;> rfl
      rw [hc]
      exact fill_ref_good h hl hn id qty hf (by omega) (hq o (List.mem_of_find?_eq_some hf)).2 _ rfl
theorem OB.keep1 (h : OB W w pb L) (hk : Keeps (fun g => g = pw) w w') {t : TypeId} (hp : Tyd w pw t) (hn : nbT t = true) (hW : W.heap.size ≤ pw) : OB W w' pb L := by
  obtain ⟨d, h1, h2, h3⟩ := h
  refine ⟨d, h1.keep hk (fun k hkk e => ?_), h2, h3.trans (hk.below (fun g hg => by rw [hg]; exact hW) h3.size)⟩
  subst e
  exact h1.bk.fb hkk ⟨t, hp, hn⟩
theorem RB.fb (h : RB W w pw L) (hk : Keeps (Fb w) w w') (hb : Below W.heap.size W w') : RB W w' pw L := by
  obtain ⟨⟨a, c, h1, h2⟩, h3, _⟩ := h
  exact ⟨⟨a, c, h1.fb hk (by decide), h2.fb hk (by decide)⟩, h3, hb⟩
theorem RB.tyd (h : RB W w pw L) : Tyd w pw 50 := by
  obtain ⟨⟨a, c, h1, _⟩, _⟩ := h
  exact h1.tyd
/-- both books hold the same -/
structure PR (W w : World) (pb pw : Nat) (L : List Od) : Prop where
  ob : OB W w pb L
  rb : RB W w pw L
theorem PR.below (h : PR W w pb pw L) (hb : Below w.heap.size w w') : PR W w' pb pw L := ⟨h.ob.below hb, h.rb.below hb⟩
theorem PR.two {w1 : World} {L' : List Od} (h : PR W w pb pw L) (h1 : OB W w1 pb L') (hk : Keeps (Fb w) w w1) : RB W w1 pw L ∧ ∀ w', RB W w' pw L' → Keeps (fun g => g = pw) w1 w' → PR W w' pb pw L' := by
  have hr := h.rb.fb hk h1.bel
  exact ⟨hr, fun w' h2 h3 => ⟨h1.keep1 h3 hr.tyd (by decide) h.rb.base, h2⟩⟩
theorem pr_new (h : OB W w pb []) : PR W (w.alloc (.cells #[.slice none 0 0] 50)) pb w.heap.size [] := by
  have hb := Below.allocN w (.cells #[.slice none 0 0] 50)
  exact ⟨h.below hb, ⟨none, 0, Blk.new _ _ _, Lay.Row.nil _ _⟩, h.bel.size, h.bel.trans (hb.mono h.bel.size)⟩
end
end Go.Proofs.Ytmhljdkhekjfmaa
