/- Walks of the document's ParseSpread, and of parsed. -/
import Derived.Test.YtjkdhldhmdfhkaaSpread
namespace Go.Proofs.Ytjkdhldhmdfhkaa
open Go.RowKit

theorem pspread_none (s : ByteArray) (h : postB s = ⟨#[]⟩) : pspreadS s = (⟨#[]⟩, 0, 0, 12) := by
  unfold pspreadS
  rw [h, parse_short ⟨#[]⟩ (by show 0 < 4; omega)]
  unfold joinS
  rw [if_pos (.inr (.inl (by show (12 : Int) ≠ 0; omega)))]

theorem no_more {s : ByteArray} {k : Nat} (hk : k < s.size) (h : ∀ j (hj : j < s.size), j < k → s[j]'hj ≠ 45) (h1 : s[k]'hk ≠ 45) : ∀ j (hj : j < s.size), j < k + 1 → s[j]'hj ≠ 45 := by
  intro j hj hlt
  by_cases e : j = k
  · subst e; exact h1
  · exact h j hj (by omega)

set_option maxHeartbeats 1000000 in
theorem rpspread_any (s : ByteArray) (w : World) (hs : s.size ≤ 1000) :
    Calls Try.prog 22 #[.string s] w fun e w' => e = .returned (.tuple #[.string (pspreadS s).1, .int .i64 (pspreadS s).2.1, .int .i64 (pspreadS s).2.2.1, .int .i64 (pspreadS s).2.2.2]) ∧ Below w.heap.size w w' := by
  go_enter Try.func22, Try.ntmps22
  go_wp2
  go_loop [6] (fun i => ∃ k : Nat, i = .int .i64 k ∧ k ≤ s.size ∧ (∀ j (hj : j < s.size), j < k → s[j]'hj ≠ 45)) (fun i => s.size - (intOf i).toNat)
  case atStart => exact ⟨0, rfl, by omega, fun j hj h => by omega⟩
  case round =>
    obtain ⟨k, rfl, hk, hno⟩ := hrel
    have HNO := Lib.hid hno
    clear hno
    by_cases hlt : k < s.size
    · by_cases h45 : s[k]'hlt = 45
      · have hcut := preB_at s k hlt HNO.out h45
        have hu : (s[k]'hlt).toNat = 45 := by rw [h45]; rfl
        clear h45
        have hz1 := preB_size s
        have hz2 := postB_size s
        have hr : pspreadS s = joinS (parseS (preB s)) (parseS (postB s)) := rfl
        have hx := joinS_cases (parseS (preB s)) (parseS (postB s))
        rw [← hr] at hx
        clear hr
        have HP1 : ∀ w, Calls Try.prog 21 #[.string (preB s)] w fun e w' => e = .returned (.tuple #[.string (parseS (preB s)).1, .int .i64 (parseS (preB s)).2.1, .int .i64 (parseS (preB s)).2.2]) ∧ Below w.heap.size w w' := fun w => rparse_any _ w (by unfold maxLen; omega)
        have HP2 : ∀ w, Calls Try.prog 21 #[.string (postB s)] w fun e w' => e = .returned (.tuple #[.string (parseS (postB s)).1, .int .i64 (parseS (postB s)).2.1, .int .i64 (parseS (postB s)).2.2]) ∧ Below w.heap.size w w' := fun w => rparse_any _ w (by unfold maxLen; omega)
        have hb1 := parseS_bd (preB s)
        have hb2 := parseS_bd (postB s)
        generalize parseS (preB s) = X at *
        generalize parseS (postB s) = Y at *
        obtain ⟨px, mx, ex⟩ := X
        obtain ⟨py, my, ey⟩ := Y
        simp only [] at hx HP1 HP2 hb1 hb2
        rw [hcut.1] at HP1
        rw [hcut.2] at HP2
        have H1 := Lib.hid HP1
        have H2 := Lib.hid HP2
        clear HP1 HP2 hcut hz1 hz2
        rcases hx with ⟨h1, hj⟩ | ⟨h1, h2, hj⟩ | ⟨h1, h2, h3, hj⟩ | ⟨h1, h2, h3, h4, hj⟩ | ⟨h1, h2, h3, h4, hj⟩
        · have HR := Lib.hid hj
          clear hj
          have b1 : (ex != 0) = true := by simpa using h1
          clear h1
          go_wp2_with fail
          refine (H1.out _).mono ?_
          rintro e w2 ⟨rfl, hw2⟩
          go_wp2_with fail
          refine (H2.out _).mono ?_
          rintro e w3 ⟨rfl, hw3⟩
          go_wp2_with fail
          rw [HR.out]
          exact bodyPost_ret (v := .tuple #[.string ⟨#[]⟩, .int .i64 0, .int .i64 0, .int .i64 12]) (by simp [results, Try.results22, go_sem]) rfl ⟨rfl, hw2.trans (hw3.mono hw2.size)⟩
        · have HR := Lib.hid hj
          clear hj
          have b1 : (ex != 0) = false := by simpa using h1
          have b2 : (ey != 0) = true := by simpa using h2
          clear h1 h2
          go_wp2_with fail
          refine (H1.out _).mono ?_
          rintro e w2 ⟨rfl, hw2⟩
          go_wp2_with fail
          refine (H2.out _).mono ?_
          rintro e w3 ⟨rfl, hw3⟩
          go_wp2_with fail
          rw [HR.out]
          exact bodyPost_ret (v := .tuple #[.string ⟨#[]⟩, .int .i64 0, .int .i64 0, .int .i64 12]) (by simp [results, Try.results22, go_sem]) rfl ⟨rfl, hw2.trans (hw3.mono hw2.size)⟩
        · have HR := Lib.hid hj
          clear hj
          have b1 : (ex != 0) = false := by simpa using h1
          have b2 : (ey != 0) = false := by simpa using h2
          have b3 : (px.toList == py.toList) = false := tl_ne h3
          clear h1 h2 h3
          go_wp2_with fail
          refine (H1.out _).mono ?_
          rintro e w2 ⟨rfl, hw2⟩
          go_wp2_with fail
          refine (H2.out _).mono ?_
          rintro e w3 ⟨rfl, hw3⟩
          go_wp2_with fail
          rw [HR.out]
          exact bodyPost_ret (v := .tuple #[.string ⟨#[]⟩, .int .i64 0, .int .i64 0, .int .i64 12]) (by simp [results, Try.results22, go_sem]) rfl ⟨rfl, hw2.trans (hw3.mono hw2.size)⟩
        · have HR := Lib.hid hj
          clear hj
          have b1 : (ex != 0) = false := by simpa using h1
          have b2 : (ey != 0) = false := by simpa using h2
          have b3 : (px.toList == py.toList) = true := by rw [h3]; simp
          have b4 : decide (my ≤ mx) = true := decide_eq_true h4
          clear h1 h2 h3
          go_wp2_with fail
          refine (H1.out _).mono ?_
          rintro e w2 ⟨rfl, hw2⟩
          go_wp2_with fail
          refine (H2.out _).mono ?_
          rintro e w3 ⟨rfl, hw3⟩
          go_wp2_with fail
          rw [HR.out]
          exact bodyPost_ret (v := .tuple #[.string ⟨#[]⟩, .int .i64 0, .int .i64 0, .int .i64 12]) (by simp [results, Try.results22, go_sem]) rfl ⟨rfl, hw2.trans (hw3.mono hw2.size)⟩
        · have HR := Lib.hid hj
          clear hj
          have b1 : (ex != 0) = false := by simpa using h1
          have b2 : (ey != 0) = false := by simpa using h2
          have b3 : (px.toList == py.toList) = true := by rw [h3]; simp
          have b4 : decide (my ≤ mx) = false := decide_eq_false h4
          clear h1 h2 h3
          go_wp2_with fail
          refine (H1.out _).mono ?_
          rintro e w2 ⟨rfl, hw2⟩
          go_wp2_with fail
          refine (H2.out _).mono ?_
          rintro e w3 ⟨rfl, hw3⟩
          go_wp2_with fail
          rw [HR.out]
          exact bodyPost_ret (v := .tuple #[.string px, .int .i64 mx, .int .i64 my, .int .i64 0]) (by simp [results, Try.results22, go_sem]) rfl ⟨rfl, hw2.trans (hw3.mono hw2.size)⟩
      · have hu : (((s[k]'hlt).toNat : Int) != 45) = true := by
          rw [bne_iff_ne]
          intro h
          exact h45 (UInt8.toNat_inj.1 (by show (s[k]'hlt).toNat = 45; omega))
        go_wp2
        go_round
        case rel => exact ⟨k + 1, by go_num, by omega, no_more hlt HNO.out h45⟩
        case measure => simp [intOf]; omega
    · have HR := Lib.hid (pspread_none s (postB_none s fun j hj => HNO.out j hj (by omega)))
      go_wp2
      rw [HR.out]
      exact bodyPost_ret (v := .tuple #[.string ⟨#[]⟩, .int .i64 0, .int .i64 0, .int .i64 12]) (by simp [results, Try.results22, go_sem]) rfl ⟨rfl, Below.refl _ _⟩

set_option maxHeartbeats 1000000 in
theorem parsed_any (s : ByteArray) (w : World) (hs : s.size ≤ 1000) (hm : MaxL w) :
    Calls Try.prog 16 #[.string s] w fun e w' => e = .returned (.bool true) ∧ Below w.heap.size w w' := by
  have hsm : s.size ≤ maxLen := by unfold maxLen; omega
  have hb := parseS_bd s
  go_enter Try.func16, Try.ntmps16
  go_wp2_with fail
  refine (parse_any s _ hsm).mono ?_
  rintro e w1 ⟨rfl, h1⟩
  go_wp2_with fail
  refine (rparse_any s _ hsm).mono ?_
  rintro e w2 ⟨rfl, h2⟩
  have hw2 : Below w.heap.size w w2 := h1.trans (h2.mono h1.size)
  go_wp2_with fail
  refine (pspread_any s _ hs (hm.below hw2 hm.lt)).mono ?_
  rintro e w3 ⟨rfl, h3⟩
  go_wp2_with fail
  refine (rpspread_any s _ hs).mono ?_
  rintro e w4 ⟨rfl, h4⟩
  have hw4 : Below w.heap.size w w4 := hw2.trans ((h3.trans (h4.mono h3.size)).mono hw2.size)
  go_wp2_with fail
  refine (product_any s _ hsm).mono ?_
  rintro e w5 ⟨rfl, h5⟩
  go_wp2_with fail
  refine (rproduct_any s _ hsm).mono ?_
  rintro e w6 ⟨rfl, h6⟩
  go_wp2_with fail
  go_ret
  exact ⟨by simp, hw4.trans ((h5.trans (h6.mono h5.size)).mono hw4.size)⟩
end Go.Proofs.Ytjkdhldhmdfhkaa
