/- The document's Add, whole. -/
import Derived.Test.YtmhljdkhekjfmaaR95
import Derived.Test.YtmhljdkhekjfmaaR98
namespace Go.Proofs.Ytmhljdkhekjfmaa
open Go.RowKit

section
variable {W w w' : World} {pw : Nat} {L : List Od}
theorem add_ref (h : RB W w pw L) (hl : L.length ≤ 250) (id side price qty : Int) :
    Calls Try.prog 36 #[.pointer (some ⟨pw, 0, none⟩), .int .i64 id, .int .i64 side, .int .i64 price, .int .i64 qty] w fun e w' => e = .returned (.int .i64 (refAdd L id side price qty).2) ∧ RB W w' pw (refAdd L id side price qty).1 ∧ Keeps (fun g => g = pw) w w' := by
  cases hb : isB side with
  | false =>
    rw [refAdd_side hb]
    exact (add_ref_no w pw id side price qty hb).mono fun _ _ ⟨h1, h2⟩ => ⟨h1, h2 ▸ h, h2 ▸ Keeps.refl _ _⟩
  | true =>
    have hs : side = 1 ∨ side = 2 := by
      unfold isB at hb
      simpa using hb
    by_cases hq : qty < 1 ∨ 1000000 < qty
    · rw [refAdd_qty hb hq]
      exact (add_ref_qty w pw id side price qty hs hq).mono fun _ _ ⟨h1, h2⟩ => ⟨h1, h2 ▸ h, h2 ▸ Keeps.refl _ _⟩
    · have hq' : 1 ≤ qty ∧ qty ≤ 1000000 := by omega
      cases ht : (L.find? (fun o => o.id == id)).isSome with
      | true =>
        rw [show refAdd L id side price qty = (L, 25) by unfold refAdd; rw [hb, if_neg (by simp), if_neg hq, if_pos ht]]
        exact (add_ref_taken h hl id side price qty hs hq' ht).mono fun _ _ ⟨h1, h2⟩ => ⟨h1, h2 ▸ h, h2 ▸ Keeps.refl _ _⟩
      | false =>
        by_cases hf : 250 ≤ L.length
        · rw [show refAdd L id side price qty = (L, 13) by unfold refAdd; rw [hb, if_neg (by simp), if_neg hq, ht, if_neg (by simp), if_pos hf]]
          exact (add_ref_full h (by omega) id side price qty hs hq' ht).mono fun _ _ ⟨h1, h2⟩ => ⟨h1, h2 ▸ h, h2 ▸ Keeps.refl _ _⟩
        · have he : refAdd L id side price qty = ((if refTop L side price = true then L.map (untop side) else L).take (refPos L side price) ++ [⟨id, side, price, qty, refTop L side price⟩] ++ (if refTop L side price = true then L.map (untop side) else L).drop (refPos L side price), 0) := by
            unfold refAdd; rw [hb, if_neg (by simp), if_neg hq, ht, if_neg (by simp), if_neg hf]
          rw [he]
          exact add_ref_good h (by omega) id side price qty hs hq' ht _ rfl
end
theorem add_ref_all : AddRef := fun _ _ _ _ h hl id side price qty => add_ref h hl id side price qty
end Go.Proofs.Ytmhljdkhekjfmaa
