/- Walks of symbol.Code. -/
import Derived.Test.YtjjddlfbadahhaaSym
import Derived.BigRegion
import Derived.Outline
namespace Go.Proofs.Ytjjddlfbadahhaa
open Go.RowKit

def letterB : List UInt8 := [70, 71, 72, 74, 75, 77, 78, 81, 85, 86, 88, 90]
/-- a month's name -/
def codeB (p : ByteArray) (m : Nat) : ByteArray := p ++ ⟨#[letterB.getD (m % 12) 0, UInt8.ofNat (48 + m / 12 / 10), UInt8.ofNat (48 + m / 12 % 10)]⟩

theorem codeB_eq (s : ByteArray) (m : Nat) : codeB s m = s ++ (⟨#[70, 71, 72, 74, 75, 77, 78, 81, 85, 86, 88, 90]⟩ : ByteArray).extract (m % 12) (m % 12 + 1) ++ ⟨#[48 + UInt8.ofNat (m / 12 / 10), 48 + UInt8.ofNat (m / 12 % 10)]⟩ := by
  unfold codeB
  have h : m % 12 < 12 := Nat.mod_lt _ (by omega)
  generalize m % 12 = k at *
  apply ByteArray.ext
  have hk : k = 0 ∨ k = 1 ∨ k = 2 ∨ k = 3 ∨ k = 4 ∨ k = 5 ∨ k = 6 ∨ k = 7 ∨ k = 8 ∨ k = 9 ∨ k = 10 ∨ k = 11 := by omega
  rcases hk with rfl | rfl | rfl | rfl | rfl | rfl | rfl | rfl | rfl | rfl | rfl | rfl <;>
    simp [letterB]

set_option maxHeartbeats 400000 in
theorem code_bad (s : ByteArray) (m : Int) (w : World) (hs : s.size ≤ maxLen) (hp : prodB s = false) :
    Calls Try.prog 45 #[.string s, .int .i64 m] w fun e w' => e = .returned (.tuple #[.string ⟨#[]⟩, .int .i64 12]) ∧ Below w.heap.size w w' := by
  have HP := Lib.hid hp
  clear hp
  go_enter Try.func45, Try.ntmps45
  go_wp2_with (go_at_call 31; refine (product_any _ _ hs).mono ?_; rintro e w1 ⟨rfl, hb1⟩; rw [HP.out])
  go_ret2
  exact ⟨rfl, hb1⟩

set_option maxHeartbeats 400000 in
theorem code_out (s : ByteArray) (m : Int) (w : World) (hs : s.size ≤ maxLen) (hp : prodB s = true) (hm : m < 0 ∨ 1199 < m) :
    Calls Try.prog 45 #[.string s, .int .i64 m] w fun e w' => e = .returned (.tuple #[.string ⟨#[]⟩, .int .i64 1]) ∧ Below w.heap.size w w' := by
  have HP := Lib.hid hp
  clear hp
  rcases hm with hm | hm
  · go_enter Try.func45, Try.ntmps45
    go_wp2_with (go_at_call 31; refine (product_any _ _ hs).mono ?_; rintro e w1 ⟨rfl, hb1⟩; rw [HP.out])
    go_ret2
    exact ⟨rfl, hb1⟩
  · have hm0 : ¬ m < 0 := by omega
    go_enter Try.func45, Try.ntmps45
    go_wp2_with (go_at_call 31; refine (product_any _ _ hs).mono ?_; rintro e w1 ⟨rfl, hb1⟩; rw [HP.out])
    go_ret2
    exact ⟨rfl, hb1⟩

theorem conv2 (w1 : World) (x y : Int) : Sem.run Try.prog (convert 68 9 (.slice (some ⟨w1.heap.size, 0, none⟩) 2 2)) ((w1.alloc (.cells #[.int .u8 x, .int .u8 y] 5)).drew) =
    .ok (.string ⟨#[UInt8.ofNat x.toNat, UInt8.ofNat y.toNat]⟩) ((w1.alloc (.cells #[.int .u8 x, .int .u8 y] 5)).drew) := by
  rw [run_convert_bytes_string _ _ _ 5 _ _ _ Try.underlying68 Try.underlying5 Try.underlying9]
  rw [run_bytesToString _ _ _ _ [x, y]]
  · rfl
  · have h := run_loadCells_list (P := Try.prog) ((w1.alloc (.cells #[.int .u8 x, .int .u8 y] 5)).drew) ⟨w1.heap.size, 0, none⟩ [.int .u8 x, .int .u8 y] (by
      intro j v hj
      match j with
      | 0 => simpa [Addr.add, World.cell?_alloc_past] using hj
      | 1 => simpa [Addr.add, World.cell?_alloc_past] using hj
      | j + 2 => simp at hj)
    simpa using h

set_option maxHeartbeats 1000000 in
theorem code_ok (s : ByteArray) (m : Nat) (w : World) (hs : s.size + 3 ≤ maxLen) (hp : prodB s = true) (hm : m ≤ 1199) :
    Calls Try.prog 45 #[.string s, .int .i64 m] w fun e w' => e = .returned (.tuple #[.string (codeB s m), .int .i64 0]) ∧ Below w.heap.size w w' := by
  have HP := Lib.hid hp
  clear hp
  unfold maxLen at hs
  go_enter Try.func45, Try.ntmps45
  go_wp2_with (go_at_call 31; refine (product_any _ _ (by unfold maxLen; omega)).mono ?_; rintro e w1 ⟨rfl, hb1⟩; rw [HP.out])
  have hcv := conv2 w1
  go_region
  go_wp2
  go_ret2
  refine ⟨?_, ?_⟩
  · rw [codeB_eq s m]
    rfl
  · exact (hb1.drew.alloc hb1.size _)
end Go.Proofs.Ytjjddlfbadahhaa
