/- The walk of cornhilllaw3.SymbolTells. -/
import Derived.Test.YtjkdhldhmdfhkaaParsed
namespace Go.Proofs.Ytjkdhldhmdfhkaa
open Go.RowKit

theorem spreadS_size (s : ByteArray) (n f : Int) : (spreadS s n f).1.size ≤ 2 * s.size + 7 := by
  have hA := codeS_size s n
  have hB := codeS_size s f
  unfold spreadS
  split
  · show 0 ≤ _; omega
  · split
    · show 0 ≤ _; omega
    · split
      · show 0 ≤ _; omega
      · show ((codeS s n).1 ++ (⟨#[45]⟩ : ByteArray) ++ (codeS s f).1).size ≤ _
        rw [ByteArray.size_append, ByteArray.size_append]
        have : ByteArray.size ⟨#[45]⟩ = 1 := rfl
        omega

set_option maxRecDepth 100000 in
set_option maxHeartbeats 1000000 in
theorem tells_any (p s : ByteArray) (near far : Int) (w : World) (hp : p.size ≤ maxLen) (hs : s.size ≤ maxLen) (_hn0 : -9223372036854775808 ≤ near) (_hn1 : near ≤ 9223372036854775807) (_hf0 : -9223372036854775808 ≤ far) (_hf1 : far ≤ 9223372036854775807) (hm : MaxL w) :
    Calls Try.prog 6 #[.string p, .string s, .int .i64 near, .int .i64 far] w fun e w' => e = .returned (.bool true) ∧ Below w.heap.size w w' := by
  have hp1 := fewS_le p
  have hs1 := fewS_le s
  have HF1 : ∀ w, Calls Try.prog 9 #[.string p] w fun e w' => e = .returned (.string (fewS p)) ∧ w = w' := fun w => few_any p w hp
  have HF2 : ∀ w, Calls Try.prog 9 #[.string s] w fun e w' => e = .returned (.string (fewS s)) ∧ w = w' := fun w => few_any s w hs
  generalize fewS p = q at *
  generalize fewS s = r at *
  have H1 := Lib.hid HF1
  have H2 := Lib.hid HF2
  clear HF1 HF2
  have hq3 : q.size + 3 ≤ maxLen := by unfold maxLen; omega
  have hcz := codeS_size q near
  have hsz := spreadS_size q near far
  have H3 := Lib.hid fun w => code_any q near w hq3
  have H4 := Lib.hid fun w => rcode_any q near w hq3
  have H5 := Lib.hid fun w => spread_any q near far w (by omega)
  have H6 := Lib.hid fun w => rspread_any q near far w (by omega)
  generalize codeS q near = A at *
  generalize spreadS q near far = B at *
  obtain ⟨a, ea⟩ := A
  obtain ⟨b, eb⟩ := B
  simp only [] at hcz hsz H3 H4 H5 H6
  clear hq3
  go_enter Try.func6, Try.ntmps6
  go_wp2_with fail
  refine (H1.out _).mono ?_
  rintro e w1 ⟨rfl, rfl⟩
  go_wp2_with fail
  refine (H2.out _).mono ?_
  rintro e w1 ⟨rfl, rfl⟩
  go_wp2_with fail
  refine (H3.out _).mono ?_
  rintro e w1 ⟨rfl, h1⟩
  go_wp2_with fail
  refine (H4.out _).mono ?_
  rintro e w2 ⟨rfl, h2⟩
  have k2 : Below w.heap.size w w2 := h1.trans (h2.mono h1.size)
  clear h1 h2
  go_wp2_with fail
  refine (H5.out _).mono ?_
  rintro e w3 ⟨rfl, h3⟩
  have k3 : Below w.heap.size w w3 := k2.trans (h3.mono k2.size)
  clear h3 k2
  go_wp2_with fail
  refine (H6.out _).mono ?_
  rintro e w4 ⟨rfl, h4⟩
  have k4 : Below w.heap.size w w4 := k3.trans (h4.mono k3.size)
  clear h4 k3
  go_wp2_with fail
  refine (parsed_any r _ (by omega) (hm.below k4 hm.lt)).mono ?_
  rintro e w5 ⟨rfl, h5⟩
  have k5 : Below w.heap.size w w5 := k4.trans (h5.mono k4.size)
  clear h5 k4
  go_wp2_with fail
  refine (parsed_any q _ (by omega) (hm.below k5 hm.lt)).mono ?_
  rintro e w6 ⟨rfl, h6⟩
  have k6 : Below w.heap.size w w6 := k5.trans (h6.mono k5.size)
  clear h6 k5
  go_wp2_with fail
  refine (parsed_any a _ (by omega) (hm.below k6 hm.lt)).mono ?_
  rintro e w7 ⟨rfl, h7⟩
  have k7 : Below w.heap.size w w7 := k6.trans (h7.mono k6.size)
  clear h7 k6
  go_wp2_with fail
  refine (parsed_any b _ (by omega) (hm.below k7 hm.lt)).mono ?_
  rintro e w8 ⟨rfl, h8⟩
  have k8 : Below w.heap.size w w8 := k7.trans (h8.mono k7.size)
  clear h8 k7
  go_wp2_with fail
  refine (parsed_any _ _ (by rw [ByteArray.size_append, ByteArray.size_append]; have : ByteArray.size ⟨#[45]⟩ = 1 := rfl; omega) (hm.below k8 hm.lt)).mono ?_
  rintro e w9 ⟨rfl, h9⟩
  have k9 : Below w.heap.size w w9 := k8.trans (h9.mono k8.size)
  clear h9 k8
  go_wp2_with fail
  refine (known_any _).mono ?_
  rintro e w10 ⟨rfl, h10⟩
  go_wp2_with fail
  go_ret
  exact ⟨by simp, k9.trans (h10.mono k9.size)⟩
end Go.Proofs.Ytjkdhldhmdfhkaa
