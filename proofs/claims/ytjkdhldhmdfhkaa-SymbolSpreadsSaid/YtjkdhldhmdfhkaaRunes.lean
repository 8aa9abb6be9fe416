/- For every text cornhilllaw3.SymbolRunes returns true: the walk of the law. -/
import Derived.Test.YtjkdhldhmdfhkaaMonths
import Derived.Deep.LoopGhost
namespace Go.Proofs.Ytjkdhldhmdfhkaa
open Go.RowKit

set_option maxRecDepth 10000 in
theorem decode_big (s : ByteArray) (h : 224 ≤ (s.get! 0).toNat) : 937 < (Utf8.decode s 0).1 := by
  have e1 : ¬ (s.get! 0).toNat < 128 := by omega
  have e2 : ¬ ((s.get! 0).toNat / 32 = 6) := by have := (s.get! 0).toNat_lt; omega
  have hr : 937 < Utf8.runeError := by decide
  simp only [Utf8.decode, Nat.zero_add]
  rw [if_neg e1]
  split
  · rename_i hh
    simp [e2] at hh
  · split
    · split
      · rename_i hh
        simp only [Bool.and_eq_true, decide_eq_true_eq] at hh
        exact Nat.lt_of_lt_of_le (by decide) hh.1
      · exact hr
    · split
      · split
        · rename_i hh
          simp only [Bool.and_eq_true, decide_eq_true_eq] at hh
          exact Nat.lt_of_lt_of_le (by decide) hh.1
        · exact hr
      · exact hr

set_option maxRecDepth 10000 in
theorem decode_two (s : ByteArray) (r : Nat) (h1 : ¬ r < 128) (h2 : r < 2048) (hz : s.size = 2) (g0 : (s.get! 0).toNat = 192 + r / 64) (g1 : (s.get! 1).toNat = 128 + r % 64) : Utf8.decode s 0 = (r, 2) := by
  have e1 : ¬ 192 + r / 64 < 128 := by omega
  have e2 : ((192 + r / 64) / 32 == 6) = true := by simp; omega
  have e3 : ((128 + r % 64) / 64 == 2) = true := by simp; omega
  have e4 : (192 + r / 64) % 32 * 64 + (128 + r % 64) % 64 = r := by omega
  simp only [Utf8.decode, Nat.zero_add]
  have c1 : ((s.get! 0).toNat / 32 == 6 && (decide (1 < s.size) && (s.get! 1).toNat / 64 == 2)) = true := by
    rw [g0, g1, hz, e2, e3]
    rfl
  have c2 : (s.get! 0).toNat % 32 * 64 + (s.get! 1).toNat % 64 = r := by rw [g0, g1]; exact e4
  rw [if_neg (by rw [g0]; exact e1), if_pos c1, if_pos (by rw [c2]; omega), c2]

theorem runesAt_one (s : ByteArray) (h : 0 < s.size) (hw : (Utf8.decode s 0).2 = s.size) : runesAt s 0 = [(0, (Utf8.decode s 0).1)] := by
  rw [runesAt_cons s 0 h, hw, runesAt_end s _ (by omega)]

theorem size_nil (s : ByteArray) (h : ¬ 0 < s.size) : s.data.toList = [] := by
  apply List.eq_nil_of_length_eq_zero
  rw [Array.length_toList]
  show s.size = 0
  omega

theorem toList_ne (s : ByteArray) (h : 0 < s.size) : s.toList.isEmpty = false := by
  rw [ByteArray.toList_eq]
  cases hl : s.data.toList with
  | nil =>
    have : s.data.toList.length = s.size := by simp
    rw [hl] at this
    simp at this
    omega
  | cons a l => rfl

theorem prodB_one (s : ByteArray) (h : 0 < s.size) (hw : (Utf8.decode s 0).2 = s.size) : prodB s = great (Utf8.decode s 0).1 := by
  unfold prodB
  rw [runesAt_one s h hw, toList_ne s h]
  simp

theorem prodB_big (s : ByteArray) (h : 0 < s.size) (hw : 937 < (Utf8.decode s 0).1) : prodB s = false := by
  unfold prodB
  rw [runesAt_cons s 0 h]
  have : great (Utf8.decode s 0).1 = false := by
    unfold great
    simp only [Bool.or_eq_false_iff, Bool.and_eq_false_iff, decide_eq_false_iff_not, bne_eq_false_iff_eq]
    omega
  simp [this]

theorem valid_lt (c : Nat) (h : c < 2048) : Utf8.valid (c : Int) = true := by
  unfold Utf8.valid
  simp
  omega

theorem prodB_encode (r : Nat) : prodB (Utf8.encode (r : Int)) = great r := by
  by_cases h1 : r < 128
  · have e : Utf8.encode (r : Int) = ⟨#[UInt8.ofNat r]⟩ := by
      simp [Utf8.encode, valid_lt r (by omega), h1]
    have hd : Utf8.decode ⟨#[UInt8.ofNat r]⟩ 0 = (r, 1) := by
      have hn : (UInt8.ofNat r).toNat = r := by simp; omega
      rw [decode_ascii ⟨#[UInt8.ofNat r]⟩ 0 (by show 0 < 1; omega) (by show (UInt8.ofNat r).toNat < 128; omega)]
      show ((UInt8.ofNat r).toNat, 1) = (r, 1)
      rw [hn]
    rw [e, prodB_one _ (by show 0 < 1; omega) (by rw [hd]; rfl), hd]
  · by_cases h2 : r < 2048
    · have e : Utf8.encode (r : Int) = ⟨#[UInt8.ofNat (192 + r / 64), UInt8.ofNat (128 + r % 64)]⟩ := by
        simp [Utf8.encode, valid_lt r (by omega), h1, h2]
      have hd : Utf8.decode ⟨#[UInt8.ofNat (192 + r / 64), UInt8.ofNat (128 + r % 64)]⟩ 0 = (r, 2) := by
        refine decode_two _ r h1 h2 rfl ?_ ?_
        · show (UInt8.ofNat (192 + r / 64)).toNat = _
          simp; omega
        · show (UInt8.ofNat (128 + r % 64)).toNat = _
          simp; omega
      rw [e, prodB_one _ (by show 0 < 2; omega) (by rw [hd]; rfl), hd]
    · have hg : great r = false := by
        unfold great
        simp only [Bool.or_eq_false_iff, Bool.and_eq_false_iff, decide_eq_false_iff_not, bne_eq_false_iff_eq]
        omega
      rw [hg]
      have hb : 0 < (Utf8.encode (r : Int)).size ∧ 224 ≤ ((Utf8.encode (r : Int)).get! 0).toNat := by
        have hc : ∃ c, 2048 ≤ c ∧ c ≤ 1114111 ∧ (if Utf8.valid (r : Int) then (r : Int).toNat else Utf8.runeError) = c := by
          by_cases hv : Utf8.valid (r : Int) = true
          · refine ⟨r, by omega, ?_, by simp [hv]⟩
            unfold Utf8.valid at hv
            simp at hv
            omega
          · exact ⟨65533, by omega, by omega, by simp [hv, Utf8.runeError]⟩
        obtain ⟨c, hc1, hc2, hc3⟩ := hc
        unfold Utf8.encode
        simp only [hc3]
        rw [if_neg (by omega), if_neg (by omega)]
        split
        · refine ⟨by show 0 < 3; omega, ?_⟩
          show 224 ≤ (UInt8.ofNat (224 + c / 4096)).toNat
          simp; omega
        · refine ⟨by show 0 < 4; omega, ?_⟩
          show 224 ≤ (UInt8.ofNat (240 + c / 262144)).toNat
          simp; omega
      exact prodB_big _ hb.1 (decode_big _ hb.2)

theorem iterAt_heap {w : World} {k : Nat} {o : Obj} (hk : w.heap[k]? = some o) (s : ByteArray) (p : Nat) : (w.iterAt k s p).heap[k]? = some (.stringIter s p) := by
  have hlt : k < w.heap.size := (Array.getElem?_eq_some_iff.1 hk).1
  simp [World.iterAt, hlt]
theorem iterAt_size (w : World) (k : Nat) (s : ByteArray) (p : Nat) : (w.iterAt k s p).heap.size = w.heap.size := by
  simp [World.iterAt]
theorem below_iterAt {B : Nat} {a w : World} (h : Below B a w) {k : Nat} (hk : B ≤ k) (s : ByteArray) (p : Nat) : Below B a (w.iterAt k s p) :=
  h.trans ⟨rfl, rfl, rfl, by simp [World.iterAt], fun i hi => by simp [World.iterAt, Array.getElem?_setIfInBounds]; omega⟩
theorem iterPos_at {w : World} {k : Nat} {s : ByteArray} {p : Nat} (h : w.heap[k]? = some (.stringIter s p)) : w.iterPos k = p := by
  simp [World.iterPos, h]
theorem encode_size (r : Int) : (Utf8.encode r).size ≤ 4 := by
  unfold Utf8.encode
  simp only []
  generalize (if Utf8.valid r = true then r.toNat else Utf8.runeError) = c
  split
  · show 1 ≤ 4; omega
  · split
    · show 2 ≤ 4; omega
    · split
      · show 3 ≤ 4; omega
      · show 4 ≤ 4; omega

theorem runes_one (s : ByteArray) : decide ((1 : Int) ≤ ((runesAt s 0).length : Int)) = !s.toList.isEmpty := by
  by_cases h : 0 < s.size
  · rw [toList_ne s h, runesAt_cons s 0 h, decide_eq_true (by rw [List.length_cons]; omega)]
    rfl
  · rw [runesAt_end s 0 h, ByteArray.toList_eq]
    rw [size_nil s h]
    rfl

set_option maxRecDepth 100000 in
set_option maxHeartbeats 1000000 in
theorem runes_any (p : ByteArray) (w : World) (hs : p.size ≤ maxLen) :
    Calls Try.prog 4 #[.string p] w fun e w' => e = .returned (.bool true) ∧ Below w.heap.size w w' := by
  have hq := fewS_le p
  have hq1 : (fewS p).size ≤ maxLen := by unfold maxLen; omega
  have hrl := runesAt_len (fewS p) 0
  generalize hqe : fewS p = s at *
  have HQ := Lib.hid hqe
  clear hqe
  go_enter Try.func4, Try.ntmps4
  go_wp2_with (go_at_call 9; refine (few_any _ _ hs).mono ?_; rintro e w1 ⟨rfl, rfl⟩; rw [HQ.out])
  go_loopw [3, 4] (fun n g w' => ∃ (pos k : Nat) (G : Bool), w'.heap[w.heap.size]? = some (.stringIter s pos) ∧ Below w.heap.size w w' ∧ n = .int .i64 k ∧ g = .bool G ∧ k + (runesAt s pos).length = (runesAt s 0).length ∧ (G && (runesAt s pos).all (fun x => great x.2)) = (runesAt s 0).all (fun x => great x.2)) (fun _ _ w' => s.size - w'.iterPos w.heap.size)
  case atStart => exact ⟨0, 0, true, World.iter_heap _ _ _, (Below.refl _ _).alloc (Nat.le_refl _) _, rfl, rfl, by simp, by simp⟩
  case round =>
    obtain ⟨pos, k, G, hit, hbw, rfl, rfl, hk, hg⟩ := hrel
    have HG := Lib.hid hg
    clear hg
    have HB := Lib.hid hbw
    have HPM := Lib.hid (iterPos_at hit)
    by_cases hp : pos < s.size
    · have hnx : ∀ ty, (Instr.next (.pointer (some ⟨w.heap.size, 0, none⟩)) true ty).run Try.prog wr = _ := fun ty => Lib.run_next_any_at wr w.heap.size s pos ty hit hp
      have hwd := width_pos s pos hp
      have hrb := decode_le s pos
      have hcs := runesAt_cons s pos hp
      rw [hcs, List.length_cons] at hk
      have HG2 : Hid ((G && (great (Utf8.decode s pos).1 && (runesAt s (pos + (Utf8.decode s pos).2)).all (fun x => great x.2))) = (runesAt s 0).all (fun x => great x.2)) := by
        have := HG.out
        rw [hcs, List.all_cons] at this
        exact this
      clear HG hcs
      have hk2 : k + 1 ≤ 60 := by omega
      have HK := Lib.hid hk
      clear hk
      have hi2 := iterAt_heap hit s (pos + (Utf8.decode s pos).2)
      have hb2 := below_iterAt hbw (Nat.le_refl _) s (pos + (Utf8.decode s pos).2)
      have HI2 := Lib.hid hi2
      have HB2 := Lib.hid hb2
      have hsz := iterAt_size wr w.heap.size s (pos + (Utf8.decode s pos).2)
      have hwz : w.heap.size < wr.heap.size := (Array.getElem?_eq_some_iff.1 hit).1
      have HSZ : Hid (w.heap.size < (wr.iterAt w.heap.size s (pos + (Utf8.decode s pos).2)).heap.size) := by show _ < _; omega
      clear hi2 hb2 hbw hit hsz hwz
      have hpe := prodB_encode (Utf8.decode s pos).1
      have HES : Hid ((Utf8.encode ((Utf8.decode s pos).1 : Int)).size ≤ maxLen) := Nat.le_trans (encode_size _) (by unfold maxLen; omega)
      generalize (Utf8.decode s pos).1 = r at *
      rcases great_cases r with h | h | h | h | h | h
      all_goals
        obtain ⟨g1, b1, b2, b3, b4, b5, g3⟩ := h
        rw [g3] at hpe HG2
        have HPE := Lib.hid hpe
        clear hpe g3
        cases G
      all_goals
        go_wp2_with fail
        have hes := HES.out
        have hpe := HPE.out
        clear HES HPE
        generalize Utf8.encode (r : Int) = u at *
        refine (product_any _ _ hes).mono ?_
        rintro e w3 ⟨rfl, hb3⟩
        rw [hpe]
        clear hpe hes
        go_wp2_with fail
        go_roundw
        case rel =>
          have hb3' : Below (w.heap.size + 1) _ w3 := hb3.mono (by have := HSZ.out; omega)
          refine ⟨pos + (Utf8.decode s pos).2, k + 1, _, (hb3'.block _ (by omega)).trans HI2.out, HB2.out.trans (hb3'.mono (by omega)), by go_num, rfl, by have := HK.out; omega, ?_⟩
          rw [← HG2.out]
          simp
        case measure =>
          have hb3' : Below (w.heap.size + 1) _ w3 := hb3.mono (by have := HSZ.out; omega)
          rw [HPM.out, iterPos_at ((hb3'.block _ (by omega)).trans HI2.out)]
          omega
    · have hnx : ∀ ty, (Instr.next (.pointer (some ⟨w.heap.size, 0, none⟩)) true ty).run Try.prog wr = _ := fun ty => Lib.run_next_end_at wr w.heap.size s pos ty hit hp
      rw [runesAt_end s pos hp, List.length_nil] at hk
      have HG2 : Hid (G = (runesAt s 0).all (fun x => great x.2)) := by
        have := HG.out
        rw [runesAt_end s pos hp] at this
        simp at this
        exact this
      obtain rfl : k = (runesAt s 0).length := by omega
      clear HG hbw hit HPM
      have hcond : Hid (prodB s = (G && !s.toList.isEmpty && decide (((runesAt s 0).length : Int) ≤ 4))) := by
        show prodB s = _
        unfold prodB
        rw [← HG2.out]
      have hone : Hid (decide ((1 : Int) ≤ ((runesAt s 0).length : Int)) = !s.toList.isEmpty) := runes_one s
      clear HG2
      have hbk := HB.out
      cases hpr : prodB s with
      | false =>
        have HP := Lib.hid hpr
        have hc : Hid ((G && decide ((1 : Int) ≤ ((runesAt s 0).length : Int)) && decide (((runesAt s 0).length : Int) ≤ 4)) = false) := by
          show _ = false
          rw [hone.out, ← hcond.out, hpr]
        clear hpr hcond hone hbk
        go_wp2_with fail
        refine (code_bad s 0 _ hq1 HP.out).mono ?_
        rintro e w2 ⟨rfl, hb2⟩
        go_wp2_with fail
        refine (product_any _ _ hq1).mono ?_
        rintro e w3 ⟨rfl, hb3⟩
        rw [HP.out]
        have hc1 := hc.out
        clear hc hk hrl
        generalize ((runesAt s 0).length : Int) = n at *
        have hcs : G = false ∨ (G = true ∧ n < 1) ∨ (G = true ∧ 1 ≤ n ∧ 4 < n) := by
          cases G
          · exact .inl rfl
          · simp at hc1
            by_cases h1 : n < 1
            · exact .inr (.inl ⟨rfl, h1⟩)
            · exact .inr (.inr ⟨rfl, by omega, hc1 (by omega)⟩)
        clear hc1
        rcases hcs with rfl | ⟨rfl, hn⟩ | ⟨rfl, hn, hn4⟩
        · go_wp2_with (first | (go_at_call 10; refine (product_any _ _ hq1).mono ?_; rintro e w4 ⟨rfl, hb4⟩; rw [HP.out]) | (go_at_call 11; refine (known_any _).mono ?_; rintro e w5 ⟨rfl, hb5⟩))
          go_ret
          exact ⟨rfl, HB.out.trans (((hb2.trans (hb3.mono hb2.size)).trans ((hb4.trans (hb5.mono hb4.size)).mono (Nat.le_trans hb2.size hb3.size))).mono HB.out.size)⟩
        · have b1 : decide (1 ≤ n) = false := decide_eq_false (by omega)
          go_wp2_with (first | (go_at_call 10; refine (product_any _ _ hq1).mono ?_; rintro e w4 ⟨rfl, hb4⟩; rw [HP.out]) | (go_at_call 11; refine (known_any _).mono ?_; rintro e w5 ⟨rfl, hb5⟩))
          go_ret
          exact ⟨rfl, HB.out.trans (((hb2.trans (hb3.mono hb2.size)).trans ((hb4.trans (hb5.mono hb4.size)).mono (Nat.le_trans hb2.size hb3.size))).mono HB.out.size)⟩
        · have b1 : decide (n ≤ 4) = false := decide_eq_false (by omega)
          go_wp2_with (first | (go_at_call 10; refine (product_any _ _ hq1).mono ?_; rintro e w4 ⟨rfl, hb4⟩; rw [HP.out]) | (go_at_call 11; refine (known_any _).mono ?_; rintro e w5 ⟨rfl, hb5⟩))
          go_ret
          exact ⟨rfl, HB.out.trans (((hb2.trans (hb3.mono hb2.size)).trans ((hb4.trans (hb5.mono hb4.size)).mono (Nat.le_trans hb2.size hb3.size))).mono HB.out.size)⟩
      | true =>
        have HP := Lib.hid hpr
        have hc : G = true ∧ ((1 : Int) ≤ ((runesAt s 0).length : Int)) ∧ (((runesAt s 0).length : Int) ≤ 4) := by
          have h1 := hcond.out
          rw [← hone.out, hpr] at h1
          simpa [and_assoc] using h1.symm
        clear hpr hcond hone hbk hk hrl
        obtain ⟨rfl, hn, hn4⟩ := hc
        generalize ((runesAt s 0).length : Int) = n at *
        go_wp2_with fail
        refine (code_okI s 0 _ (by unfold maxLen; omega) HP.out (by omega) (by omega)).mono ?_
        rintro e w2 ⟨rfl, hb2⟩
        generalize codeB s (Int.toNat 0) = c at *
        go_wp2_with fail
        refine (product_any _ _ hq1).mono ?_
        rintro e w3 ⟨rfl, hb3⟩
        rw [HP.out]
        have b1 : decide (n ≤ 4) = true := decide_eq_true (by omega)
        have b2 : decide (1 ≤ n) = true := decide_eq_true (by omega)
        go_wp2_with (first | (go_at_call 10; refine (product_any _ _ hq1).mono ?_; rintro e w4 ⟨rfl, hb4⟩; rw [HP.out]) | (go_at_call 11; refine (known_any _).mono ?_; rintro e w5 ⟨rfl, hb5⟩))
        go_ret
        exact ⟨rfl, HB.out.trans (((hb2.trans (hb3.mono hb2.size)).trans ((hb4.trans (hb5.mono hb4.size)).mono (Nat.le_trans hb2.size hb3.size))).mono HB.out.size)⟩
end Go.Proofs.Ytjkdhldhmdfhkaa
