/- For every text and month cornhilllaw3.SymbolMonths returns true: the walks of few, known and the law. -/
import Derived.Test.YtjkdhldhmdfhkaaParse
namespace Go.Proofs.Ytjkdhldhmdfhkaa
open Go.RowKit

/-- a text cut at 60 bytes -/
def fewS (s : ByteArray) : ByteArray := if 60 < s.size then s.extract 0 60 else s
theorem fewS_le (s : ByteArray) : (fewS s).size ≤ 60 := by
  unfold fewS
  split
  · simp; omega
  · omega

set_option maxHeartbeats 400000 in
theorem few_any (s : ByteArray) (w : World) (hs : s.size ≤ maxLen) :
    Calls Try.prog 9 #[.string s] w fun e w' => e = .returned (.string (fewS s)) ∧ w = w' := by
  unfold maxLen at hs
  by_cases h : 60 < s.size
  · have HF : Hid (fewS s = s.extract 0 60) := if_pos h
    go_enter Try.func9, Try.ntmps9
    go_wp2
    go_ret
    rw [HF.out]
    exact ⟨rfl, rfl⟩
  · have HF : Hid (fewS s = s) := if_neg h
    go_enter Try.func9, Try.ntmps9
    go_wp2
    go_ret
    rw [HF.out]
    exact ⟨rfl, rfl⟩

theorem known_1 : prodB ⟨#[67, 76]⟩ = true := by decide +kernel
theorem known_2 : codeB ⟨#[67, 76]⟩ 323 = ⟨#[67, 76, 90, 50, 54]⟩ := by decide +kernel
theorem known_3 : parseS ⟨#[206, 169, 70, 48, 48]⟩ = (⟨#[206, 169]⟩, 0, 0) := by decide +kernel
theorem known_4 : parseS ⟨#[67, 76, 65, 50, 54]⟩ = (⟨#[]⟩, 0, 12) := by decide +kernel

set_option maxHeartbeats 400000 in
theorem known_any (w : World) :
    Calls Try.prog 11 #[] w fun e w' => e = .returned (.bool true) ∧ Below w.heap.size w w' := by
  go_enter Try.func11, Try.ntmps11
  go_wp2_with fail
  refine (code_ok ⟨#[67, 76]⟩ 323 _ (by decide) known_1 (by omega)).mono ?_
  rintro e w1 ⟨rfl, hb1⟩
  rw [known_2]
  go_wp2_with fail
  refine (parse_any ⟨#[206, 169, 70, 48, 48]⟩ _ (by decide)).mono ?_
  rintro e w2 ⟨rfl, hb2⟩
  rw [known_3]
  go_wp2_with fail
  refine (parse_any ⟨#[67, 76, 65, 50, 54]⟩ _ (by decide)).mono ?_
  rintro e w3 ⟨rfl, hb3⟩
  rw [known_4]
  go_wp2_with fail
  go_ret
  exact ⟨rfl, hb1.trans ((hb2.trans (hb3.mono hb2.size)).mono hb1.size)⟩

theorem code_okI (s : ByteArray) (m : Int) (w : World) (hs : s.size + 3 ≤ maxLen) (hp : prodB s = true) (h0 : 0 ≤ m) (hm : m ≤ 1199) :
    Calls Try.prog 12 #[.string s, .int .i64 m] w fun e w' => e = .returned (.tuple #[.string (codeB s m.toNat), .int .i64 0]) ∧ Below w.heap.size w w' := by
  obtain ⟨k, rfl⟩ := Int.eq_ofNat_of_zero_le h0
  exact code_ok s k w hs hp (by omega)

def lastL (i : Nat) : Nat := if i = 0 then 0 else (letterB.getD (i - 1) 0).toNat
theorem lastL_lt : ∀ i, i < 12 → lastL i < lastL (i + 1) ∧ lastL (i + 1) < 256 := by decide
theorem codeB_size (q : ByteArray) (m : Nat) : (codeB q m).size = q.size + 3 := by simp [codeB]; rfl
theorem app_get (q t : ByteArray) (h : q.size < (q ++ t).size) (h0 : 0 < t.size) : (q ++ t)[q.size]'h = t[0]'h0 := by
  rw [ByteArray.getElem_append_right (Nat.le_refl _)]
  simp
theorem codeB_get (q : ByteArray) (m i : Nat) (hm : m % 12 = i) (h : q.size < (codeB q m).size) : ((codeB q m)[q.size]'h).toNat = lastL (i + 1) := by
  have : (codeB q m)[q.size]'h = letterB.getD (m % 12) 0 := app_get q _ h (by show 0 < 3; omega)
  rw [this, hm]
  simp [lastL]
theorem codeB_tail (q : ByteArray) (m : Nat) : ((codeB q m).extract (q.size + 1) (codeB q m).size).data.toList = [UInt8.ofNat (48 + m / 12 / 10), UInt8.ofNat (48 + m / 12 % 10)] := by
  rw [codeB_size]
  unfold codeB
  simp
theorem codeB_years (q : ByteArray) (m : Nat) (hm : m ≤ 1187) : (codeB q m).extract (q.size + 1) (codeB q m).size ≠ (codeB q (m + 12)).extract (q.size + 1) (codeB q (m + 12)).size := by
  intro h
  have h1 := congrArg (fun b : ByteArray => b.data.toList) h
  simp only [codeB_tail] at h1
  have e : (m + 12) / 12 = m / 12 + 1 := by omega
  rw [e] at h1
  have hy : m / 12 < 99 := by omega
  revert h1
  generalize m / 12 = y at hy
  revert y
  decide


theorem tl_ne {a b : ByteArray} (h : a ≠ b) : (a.toList == b.toList) = false := by
  rw [beq_eq_false_iff_ne, ByteArray.toList_eq, ByteArray.toList_eq]
  intro h1
  exact h (ByteArray.ext (Array.toList_inj.1 h1))
theorem months_facts (q : ByteArray) (f i : Nat) (hf : f % 12 = 0) (hf2 : f ≤ 1164) (hi : i < 12) : ∃ a b : ByteArray, Hid (codeB q (f + i) = a) ∧ Hid (codeB q (f + i + 12) = b) ∧ a.size = q.size + 3 ∧ b.size = q.size + 3 ∧
    (∀ h : q.size < a.size, (a[q.size]'h).toNat = lastL (i + 1)) ∧ (∀ h : q.size < b.size, (b[q.size]'h).toNat = lastL (i + 1)) ∧ ((a.extract (q.size + 1) (q.size + 3)).toList == (b.extract (q.size + 1) (q.size + 3)).toList) = false := by
  refine ⟨_, _, rfl, rfl, codeB_size _ _, codeB_size _ _, fun h => codeB_get q _ i (by omega) h, fun h => codeB_get q _ i (by omega) h, ?_⟩
  have := codeB_years q (f + i) (by omega)
  rw [codeB_size, codeB_size] at this
  exact tl_ne this

set_option maxRecDepth 100000 in
set_option maxHeartbeats 600000 in
theorem months_any (p : ByteArray) (month : Int) (w : World) (hs : p.size ≤ maxLen) (hm0 : -9223372036854775808 ≤ month) (hm1 : month ≤ 9223372036854775807) :
    Calls Try.prog 3 #[.string p, .int .i64 month] w fun e w' => e = .returned (.bool true) ∧ Below w.heap.size w w' := by
  have hq := fewS_le p
  have hq1 : (fewS p).size ≤ maxLen := by unfold maxLen; omega
  cases hp : prodB (fewS p) with
  | false =>
    have HP := Lib.hid hp
    clear hp
    go_enter Try.func3, Try.ntmps3
    go_wp2_with (first | (go_at_call 9; refine (few_any _ _ hs).mono ?_; rintro e w1 ⟨rfl, rfl⟩) | (go_at_call 10; refine (product_any _ _ hq1).mono ?_; rintro e w2 ⟨rfl, hb2⟩; rw [HP.out]) | (go_at_call 11; refine (known_any _).mono ?_; rintro e w3 ⟨rfl, hb3⟩))
    go_ret
    exact ⟨rfl, hb2.trans (hb3.mono hb2.size)⟩
  | true =>
    have HP := Lib.hid hp
    clear hp
    generalize hqe : fewS p = q at *
    have HQ := Lib.hid hqe
    clear hqe
    have hk : ∃ k : Nat, (month = -(k : Int) - 1 ∨ month = (k : Int)) ∧ (k : Int) ≤ 9223372036854775807 := by
      by_cases h : month < 0
      · exact ⟨(-(month + 1)).toNat, .inl (by omega), by omega⟩
      · exact ⟨month.toNat, .inr (by omega), by omega⟩
    obtain ⟨k, hk, hkm⟩ := hk
    clear hm0 hm1
    obtain ⟨g, hg⟩ : ∃ g : Nat, (k : Int) % 1176 = (g : Int) := ⟨k % 1176, by omega⟩
    have hg2 : g < 1176 := by omega
    obtain ⟨f, hf⟩ : ∃ f : Nat, (g : Int) - (g : Int) % 12 = (f : Int) := ⟨g - g % 12, by omega⟩
    have hf12 : f % 12 = 0 ∧ f ≤ 1164 := by omega
    have HF12 := Lib.hid hf12.1
    have hf2 := hf12.2
    clear hf12
    have d1 : decide (-(k : Int) - 1 < 0) = true := decide_eq_true (by omega)
    have d2 : decide ((k : Int) < 0) = false := decide_eq_false (by omega)
    rcases hk with rfl | rfl
    all_goals
      go_enter Try.func3, Try.ntmps3
      go_wp2_with (first | (go_at_call 9; refine (few_any _ _ hs).mono ?_; rintro e w1 ⟨rfl, rfl⟩; rw [HQ.out]) | (go_at_call 10; refine (product_any _ _ hq1).mono ?_; rintro e w2 ⟨rfl, hb2⟩; rw [HP.out]))
      clear hf hkm hg hg2
      go_loopw [6, 7, 8, 9, 10, 11] (fun l i _ _ _ _ w' => ∃ i' : Nat, i' ≤ 12 ∧ i = .int .i64 i' ∧ l = .int .u8 (lastL i') ∧ Below w2.heap.size w2 w') (fun _ i _ _ _ _ _ => 12 - (intOf i).toNat)
      case atStart => exact ⟨0, by omega, rfl, rfl, Below.refl _ _⟩
      case round =>
        obtain ⟨i, hi, rfl, rfl, hbw⟩ := hrel
        by_cases hlt : i < 12
        · have hL := lastL_lt i hlt
          obtain ⟨a, b, Ha, Hb, ha, hb, hag', hbg', hne⟩ := months_facts q f i HF12.out hf2 hlt
          have hag := hag' (by omega)
          have hbg := hbg' (by omega)
          clear hag' hbg'
          go_wp2_with fail
          refine (code_okI q _ _ (by unfold maxLen; omega) HP.out (by omega) (by omega)).mono ?_
          rintro e w3 ⟨rfl, hb3⟩
          rw [show ((f : Int) + i).toNat = f + i from by omega, Ha.out]
          go_wp2_with fail
          refine (code_okI q _ _ (by unfold maxLen; omega) HP.out (by omega) (by omega)).mono ?_
          rintro e w4 ⟨rfl, hb4⟩
          rw [show ((f : Int) + i + 12).toNat = f + i + 12 from by omega, Hb.out]
          generalize lastL i = L0 at *
          generalize hL1 : lastL (i + 1) = L1 at *
          have HL1 := Lib.hid hL1
          clear hL1
          go_wp2_with fail
          have i1 : (q.size : Int) < (q.size : Int) + 3 := by omega
          have i2 : (q.size : Int) + 1 ≤ (q.size : Int) + 3 := by omega
          have i3 : (0 : Int) ≤ (q.size : Int) + 1 := by omega
          have b1 : decide (L1 ≤ L0) = false := by simp; omega
          go_quiet (fail)
          go_wp2
          go_roundw
          case rel =>
            have hbe := hbw.trans ((hb3.trans ((below_drewN hb4 nq).mono hb3.size)).mono hbw.size)
            exact ⟨i + 1, by omega, by go_num, by rw [HL1.out], hbe⟩
          case measure => simp [intOf]; omega
        · go_wp2_with (go_at_call 11; refine (known_any _).mono ?_; rintro e w3 ⟨rfl, hb3⟩)
          go_ret
          exact ⟨rfl, hb2.trans ((hbw.trans (hb3.mono hbw.size)).mono hb2.size)⟩
end Go.Proofs.Ytjkdhldhmdfhkaa
