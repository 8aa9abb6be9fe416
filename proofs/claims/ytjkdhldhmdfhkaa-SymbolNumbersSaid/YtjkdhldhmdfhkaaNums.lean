/- The walk of cornhilllaw3.SymbolNumbers. -/
import Derived.Test.YtjkdhldhmdfhkaaTells
import Derived.Deep.LoopGhost
namespace Go.Proofs.Ytjkdhldhmdfhkaa
open Go.RowKit

def numsA : List ByteArray := [⟨#[65]⟩, ⟨#[65, 66, 67, 68]⟩, ⟨#[65, 66, 67, 68, 69]⟩, ⟨#[]⟩, ⟨#[97]⟩, ⟨#[206, 145]⟩, ⟨#[206, 145, 206, 169, 206, 163, 206, 161]⟩, ⟨#[206, 170]⟩, ⟨#[206, 162]⟩, ⟨#[65, 49]⟩]
def numsB : List ByteArray := [⟨#[]⟩, ⟨#[70, 48, 48]⟩, ⟨#[65, 70, 48]⟩, ⟨#[65, 70, 48, 48, 48]⟩, ⟨#[65, 73, 48, 48]⟩, ⟨#[65, 102, 48, 48]⟩, ⟨#[65, 70, 120, 120]⟩, ⟨#[65, 32, 70, 48, 48]⟩, ⟨#[65, 70, 48, 48, 45, 65, 71, 48, 48]⟩, ⟨#[65, 71, 48, 48, 45, 65, 70, 48, 48]⟩, ⟨#[65, 70, 48, 48, 45, 65, 70, 48, 48]⟩, ⟨#[65, 70, 48, 48, 45, 66, 71, 48, 48]⟩, ⟨#[65, 70, 48, 48, 45, 65, 71, 48, 48, 45, 65, 72, 48, 48]⟩, ⟨#[45]⟩, ⟨#[65, 70, 48, 48, 45]⟩, ⟨#[45, 65, 70, 48, 48]⟩, ⟨#[65, 66, 67, 68, 69, 70, 48, 48]⟩, ⟨#[65, 70, 70, 48, 48]⟩, ⟨#[206, 169, 206, 169, 206, 169, 206, 169, 90, 57, 57]⟩, ⟨#[206, 169, 206, 169, 206, 169, 206, 169, 206, 169, 90, 57, 57]⟩, ⟨#[206, 169, 70, 48, 48, 45, 206, 169, 90, 57, 57]⟩, ⟨#[255, 70, 48, 48]⟩]

theorem str_cells (w : World) (L : List ByteArray) (t : TypeId) (hL : L.all (fun s => decide (s.size ≤ 20)) = true) : ∀ i, i < L.length → ∃ s : ByteArray, s.size ≤ 20 ∧ (w.alloc (.cells (L.map Value.string).toArray t)).cell? ⟨w.heap.size, i, none⟩ = some (.string s) := by
  intro i hi
  have h := List.all_eq_true.1 hL (L[i]'hi) (List.getElem_mem hi)
  refine ⟨L[i]'hi, of_decide_eq_true h, ?_⟩
  simp

/-- a world in which a row of short texts lies -/
def Strs (b n : Nat) (w : World) : Prop := b < w.heap.size ∧ ∀ i, i < n → ∃ s : ByteArray, s.size ≤ 20 ∧ w.cell? ⟨b, i, none⟩ = some (.string s)
theorem Strs.below {b n : Nat} {w w' : World} (h : Strs b n w) (hb : Below w.heap.size w w') : Strs b n w' :=
  ⟨Nat.lt_of_lt_of_le h.1 hb.size, fun i hi => by
    obtain ⟨s, h1, h2⟩ := h.2 i hi
    exact ⟨s, h1, by rw [hb.cell (p := ⟨b, i, none⟩) h.1]; exact h2⟩⟩

set_option maxRecDepth 100000 in
set_option maxHeartbeats 1000000 in
theorem nums_any (w : World) (hm : MaxL w) :
    Calls Try.prog 5 #[] w fun e w' => e = .returned (.bool true) ∧ Below w.heap.size w w' := by
  go_enter Try.func5, Try.ntmps5
  go_wp2
  go_loopw [1] (fun m w' => ∃ M : Int, m = .int .i64 M ∧ -1 ≤ M ∧ M ≤ 1208 ∧ Below w.heap.size w w') (fun m _ => (1210 - intOf m).toNat)
  case atStart => exact ⟨-1, rfl, by omega, by omega, Below.refl _ _⟩
  case round =>
    obtain ⟨M, rfl, h0, h1, hbw⟩ := hrel
    obtain ⟨wo, rfl⟩ : ∃ wo : World, wo = wr := ⟨_, rfl⟩
    by_cases hlt : M < 1202
    · go_wp2
      go_loopw [20] (fun i w' => ∃ k : Nat, i = .int .i64 k ∧ k ≤ 10 ∧ Strs wo.heap.size 10 w' ∧ Below w.heap.size w w') (fun i _ => 10 - (intOf i).toNat)
      case atStart => exact ⟨0, rfl, by omega, ⟨by simp, str_cells wo numsA 9 (by decide)⟩, hbw.alloc hbw.size _⟩
      case round =>
        obtain ⟨k, rfl, hk, hst, hbk⟩ := hrel
        by_cases hk10 : k < 10
        · obtain ⟨s, hs, hcell⟩ := hst.2 k hk10
          have HST := Lib.hid hst
          have HBK := Lib.hid hbk
          clear hst hbk hbw
          have hcz := codeS_size s M
          have hsz := spreadS_size s M 600
          have H3 := Lib.hid fun w => code_any s M w (by unfold maxLen; omega)
          have H4 := Lib.hid fun w => rcode_any s M w (by unfold maxLen; omega)
          have H5 := Lib.hid fun w => spread_any s M 600 w (by omega)
          have H6 := Lib.hid fun w => rspread_any s M 600 w (by omega)
          generalize codeS s M = A at *
          generalize spreadS s M 600 = B at *
          obtain ⟨a, ea⟩ := A
          obtain ⟨b, eb⟩ := B
          simp only [] at hcz hsz H3 H4 H5 H6
          go_wp2_with fail
          refine (H3.out _).mono ?_
          rintro e w1 ⟨rfl, h1⟩
          go_wp2_with fail
          refine (H4.out _).mono ?_
          rintro e w2 ⟨rfl, h2⟩
          have k2 := h1.trans (h2.mono h1.size)
          clear h1 h2
          go_wp2_with fail
          refine (H5.out _).mono ?_
          rintro e w3 ⟨rfl, h3⟩
          have k3 := k2.trans (h3.mono k2.size)
          clear h3 k2
          go_wp2_with fail
          refine (H6.out _).mono ?_
          rintro e w4 ⟨rfl, h4⟩
          have k4 := k3.trans (h4.mono k3.size)
          clear h4 k3
          have hm4 : MaxL w4 := (hm.below HBK.out hm.lt).below k4 (hm.below HBK.out hm.lt).lt
          go_wp2_with fail
          refine (parsed_any a _ (by omega) hm4).mono ?_
          rintro e w5 ⟨rfl, h5⟩
          have hm5 := hm4.below h5 hm4.lt
          have k5 := k4.trans (h5.mono k4.size)
          clear h5 k4
          go_wp2_with fail
          refine (parsed_any b _ (by omega) hm5).mono ?_
          rintro e w6 ⟨rfl, h6⟩
          have k6 := k5.trans (h6.mono k5.size)
          clear h6 k5
          go_wp2_with fail
          go_roundw
          case rel => exact ⟨k + 1, by go_num, by omega, HST.out.below k6, HBK.out.trans (k6.mono HBK.out.size)⟩
          case measure => simp [intOf]; omega
        · clear hst
          have HBK := Lib.hid hbk
          clear hbk hbw
          go_wp2
          go_roundw
          case rel => exact ⟨M + 7, rfl, by omega, by omega, HBK.out⟩
          case measure => simp [intOf]; omega
    · go_wp2
      go_loopw [79] (fun i w' => ∃ k : Nat, i = .int .i64 k ∧ k ≤ 22 ∧ Strs wo.heap.size 22 w' ∧ Below w.heap.size w w') (fun i _ => 22 - (intOf i).toNat)
      case atStart => exact ⟨0, rfl, by omega, ⟨by simp, str_cells wo numsB 9 (by decide)⟩, hbw.alloc hbw.size _⟩
      case round =>
        obtain ⟨k, rfl, hk, hst, hbk⟩ := hrel
        by_cases hk10 : k < 22
        · obtain ⟨s, hs, hcell⟩ := hst.2 k hk10
          have HST := Lib.hid hst
          have HBK := Lib.hid hbk
          clear hst hbk hbw
          go_wp2_with fail
          refine (parsed_any s _ (by omega) (hm.below HBK.out hm.lt)).mono ?_
          rintro e w1 ⟨rfl, h1⟩
          go_wp2_with fail
          go_roundw
          case rel => exact ⟨k + 1, by go_num, by omega, HST.out.below h1, HBK.out.trans (h1.mono HBK.out.size)⟩
          case measure => simp [intOf]; omega
        · clear hst
          have HBK := Lib.hid hbk
          clear hbk hbw
          go_wp2_with fail
          refine (known_any _).mono ?_
          rintro e w1 ⟨rfl, h1⟩
          go_wp2_with fail
          go_ret
          exact ⟨rfl, HBK.out.trans (h1.mono HBK.out.size)⟩
end Go.Proofs.Ytjkdhldhmdfhkaa
