/- Walk of symbol.Parse. -/
import Derived.Test.YtjkdhldhmdfhkaaCode
import Derived.Test.YtjkdhldhmdfhkaaShelf
import Derived.BigQuiet
namespace Go.Proofs.Ytjkdhldhmdfhkaa
open Go.RowKit

theorem cutAt_le (s : ByteArray) (n : Int) : cutAt s n ≤ s.size := by
  have aux : ∀ (f p : Nat) (k : Nat) (x : Nat × Nat), (rs s f p)[k]? = some x → x.1 ≤ s.size := by
    intro f
    induction f with
    | zero => intro p k x h; simp [rs] at h
    | succ f ih =>
      intro p k x h
      by_cases hp : p < s.size
      · simp only [rs, hp, if_true] at h
        cases k with
        | zero => simp at h; subst h; show p ≤ s.size; omega
        | succ k => simp at h; exact ih _ _ _ h
      · rw [rs_end s _ p hp] at h; simp at h
  unfold cutAt
  cases h : (runesAt s 0)[n.toNat]? with
  | none => exact Nat.le_refl _
  | some x => exact aux _ _ _ _ h

theorem get!_extract (s : ByteArray) (c i : Nat) (hc : c ≤ s.size) : (s.extract c s.size).get! i = s.get! (c + i) := by
  show (s.extract c s.size).data[i]! = s.data[c + i]!
  rw [getElem!_def, getElem!_def]
  have : (s.extract c s.size).data[i]? = s.data[c + i]? := by
    simp only [ByteArray.data_extract, Array.getElem?_extract]
    by_cases h : i < min s.size s.data.size - c
    · rw [if_pos h]
    · rw [if_neg h]
      have : s.data.size = s.size := rfl
      rw [Array.getElem?_eq_none (by omega)]
  rw [this]

theorem decode_rest (s : ByteArray) (c i : Nat) (hc : c ≤ s.size) : Utf8.decode (s.extract c s.size) i = Utf8.decode s (c + i) := by
  have hz : (s.extract c s.size).size = s.size - c := by simp
  have hlt : ∀ k, (i + k < s.size - c) = (c + i + k < s.size) := fun k => by apply propext; omega
  simp only [Utf8.decode, get!_extract s c _ hc, hz, hlt, Nat.add_assoc]

theorem runes_rest (s : ByteArray) (c : Nat) (hc : c ≤ s.size) : ∀ (f i : Nat), (rs (s.extract c s.size) f i).length = (rs s f (c + i)).length := by
  have hz : (s.extract c s.size).size = s.size - c := by simp
  intro f
  induction f with
  | zero => intro i; rfl
  | succ f ih =>
    intro i
    simp only [rs, hz]
    by_cases h : i < s.size - c
    · rw [if_pos h, if_pos (by omega), List.length_cons, List.length_cons, ih, decode_rest s c i hc, Nat.add_assoc]
    · rw [if_neg h, if_neg (by omega)]

theorem rs_drop (s : ByteArray) : ∀ (f p k : Nat) (x : Nat × Nat), s.size ≤ p + f → (rs s f p)[k]? = some x → (rs s f p).drop k = runesAt s x.1 := by
  intro f
  induction f with
  | zero => intro p k x _ h; simp [rs] at h
  | succ f ih =>
    intro p k x hf h
    by_cases hp : p < s.size
    · have hw := width_pos s p hp
      cases k with
      | zero =>
        simp only [rs, hp, if_true] at h
        simp at h
        subst h
        rw [List.drop_zero]
        exact rs_fuel s _ _ _ hf (by show s.size ≤ p + (s.size - p); omega)
      | succ k =>
        simp only [rs, hp, if_true] at h ⊢
        simp at h
        simpa using ih _ k x (by omega) h
    · rw [rs_end s _ p hp] at h; simp at h

/-- behind the first n runes there are so many less -/
theorem rest_len (s : ByteArray) (n : Int) : (runesAt (s.extract (cutAt s n) s.size) 0).length = (runesAt s 0).length - n.toNat := by
  have hc := cutAt_le s n
  have h1 : (runesAt (s.extract (cutAt s n) s.size) 0).length = (runesAt s (cutAt s n)).length := by
    unfold runesAt
    rw [runes_rest s _ hc]
    simp
  rw [h1]
  unfold cutAt
  cases h : (runesAt s 0)[n.toNat]? with
  | none =>
    have := List.getElem?_eq_none_iff.1 h
    rw [runesAt_end s s.size (by omega)]
    simp; omega
  | some x =>
    have := rs_drop s _ 0 n.toNat x (by omega) h
    show (runesAt s x.1).length = _
    rw [← this]
    unfold runesAt
    simp

/-- a round of Parse's loop: the month, the year's number, how many digits -/
def pstep (st : Int × Int × Int) (x : Nat × Nat) : Int × Int × Int :=
  if x.1 = 0 then ((if 90 < x.2 then -1 else Lib.indexByte letterB (UInt8.ofNat x.2)), st.2.1, st.2.2)
  else if 48 ≤ x.2 ∧ x.2 ≤ 57 then (st.1, 10 * st.2.1 + ((x.2 : Int) - 48), st.2.2 + 1) else st
def pfold (s : ByteArray) : Int × Int × Int := (runesAt s 0).foldl pstep (-1, 0, 0)
def ybd (k : Nat) (y d : Int) : Prop := 0 ≤ y ∧ y < 10 ^ k ∧ 0 ≤ d ∧ d ≤ k
theorem ybd_step {k : Nat} {y d : Int} (h : ybd k y d) (c : Int) (h0 : 0 ≤ c) (h1 : c ≤ 9) : ybd (k + 1) (10 * y + c) (d + 1) := by
  obtain ⟨a, b, e, f⟩ := h
  refine ⟨by omega, ?_, by omega, by omega⟩
  rw [Int.pow_succ]
  omega
theorem ybd_keep {k : Nat} {y d : Int} (h : ybd k y d) : ybd (k + 1) y d := by
  obtain ⟨a, b, e, f⟩ := h
  refine ⟨a, ?_, e, by omega⟩
  rw [Int.pow_succ]
  omega
theorem ybd_100 {k : Nat} {y d : Int} (h : ybd k y d) (hk : k ≤ 3) : 0 ≤ y ∧ y ≤ 1000 ∧ 0 ≤ d ∧ d ≤ 3 := by
  obtain ⟨a, b, e, f⟩ := h
  refine ⟨a, ?_, e, by omega⟩
  have hk' : k = 0 ∨ k = 1 ∨ k = 2 ∨ k = 3 := by omega
  rcases hk' with rfl | rfl | rfl | rfl <;> simp at b <;> omega

theorem indexByte_bd (l : List UInt8) (c : UInt8) : -1 ≤ Lib.indexByte l c ∧ Lib.indexByte l c < l.length := by
  induction l with
  | nil => simp [Lib.indexByte]
  | cons b l ih =>
    simp only [Lib.indexByte, List.length_cons]
    split
    · omega
    · split
      · omega
      · omega

/-- what Parse answers -/
def parseS (s : ByteArray) : ByteArray × Int × Int :=
  let n : Int := (runesAt s 0).length - 3
  let p := s.extract 0 (cutAt s n)
  let st := pfold (s.extract (cutAt s n) s.size)
  if n < 1 ∨ prodB p = false ∨ st.1 < 0 ∨ st.2.2 ≠ 2 then (⟨#[]⟩, 0, 12) else (p, 12 * st.2.1 + st.1, 0)

set_option maxHeartbeats 2000000 in
theorem parse_any (s : ByteArray) (w : World) (hs : s.size ≤ maxLen) :
    Calls Try.prog 17 #[.string s] w fun e w' => e = .returned (.tuple #[.string (parseS s).1, .int .i64 (parseS s).2.1, .int .i64 (parseS s).2.2]) ∧ Below w.heap.size w w' := by
  have hl := runesAt_len s 0
  have hs1 : s.size ≤ 9223372036854775807 := by unfold maxLen at hs; omega
  have hcl := cutAt_le s ((runesAt s 0).length - 3)
  have hmin : min (cutAt s ((runesAt s 0).length - 3)) s.size = cutAt s ((runesAt s 0).length - 3) := by omega
  go_enter Try.func17, Try.ntmps17
  go_wp2_with (first | (go_at_call 19; refine (count_any _ _ hs).mono ?_; rintro e w1 ⟨rfl, hb1⟩) | (go_at_call 23; refine (cut_any _ _ _ (by omega) (by omega)).mono ?_; rintro e w2 ⟨rfl, hb2⟩))
  have hps : (s.extract 0 (cutAt s ((runesAt s 0).length - 3))).size ≤ maxLen := by simp; omega
  have hrl := rest_len s ((runesAt s 0).length - 3)
  have hfin : parseS s = (let n : Int := (runesAt s 0).length - 3
  let p := s.extract 0 (cutAt s n)
  let st := pfold (s.extract (cutAt s n) s.size)
  if n < 1 ∨ prodB p = false ∨ st.1 < 0 ∨ st.2.2 ≠ 2 then (⟨#[]⟩, 0, 12) else (p, 12 * st.2.1 + st.1, 0)) := rfl
  simp only [] at hfin
  generalize s.extract 0 (cutAt s ((runesAt s 0).length - 3)) = p at *
  generalize s.extract (cutAt s ((runesAt s 0).length - 3)) s.size = q at *
  generalize hn : ((runesAt s 0).length : Int) - 3 = n at *
  have hq : (runesAt q 0).length ≤ 3 := by omega
  have hnb : -3 ≤ n ∧ n ≤ 9223372036854775807 := by omega
  have hb : Below w.heap.size w w2 := hb1.trans (hb2.mono hb1.size)
  clear hrl hmin hcl hn hl hb1 hb2
  have HF := Lib.hid hfin
  clear hfin
  go_loopw [7, 8, 9, 10, 11] (fun m y d _ _ w' => ∃ (pos k : Nat) (M Y D : Int), w' = w2.iter q pos ∧ m = .int .i64 M ∧ y = .int .i64 Y ∧ d = .int .i64 D ∧ pfold q = (runesAt q pos).foldl pstep (M, Y, D) ∧ ybd k Y D ∧ k + (runesAt q pos).length ≤ 3 ∧ -1 ≤ M ∧ M ≤ 12) (fun _ _ _ _ _ w' => q.size - w'.iterPos w2.heap.size)
  case atStart => exact ⟨0, 0, -1, 0, 0, rfl, rfl, rfl, rfl, rfl, ⟨by omega, by simp, by omega, by omega⟩, by omega, by omega, by omega⟩
  case round =>
    obtain ⟨pos, k, M, Y, D, rfl, rfl, rfl, rfl, hc, hy, hk, hM1, hM2⟩ := hrel
    have hy3 := ybd_100 hy (by omega)
    have HC := Lib.hid hc
    have HY := Lib.hid hy
    clear hc hy
    by_cases hp : pos < q.size
    · have hnx : ∀ ty, (Instr.next (.pointer (some ⟨w2.heap.size, 0, none⟩)) true ty).run Try.prog (w2.iter q pos) = _ := fun ty => run_next_any w2 q pos ty hp
      have hwd := width_pos q pos hp
      have hcs := runesAt_cons q pos hp
      rw [hcs, List.length_cons] at hk
      have HC2 : Hid (pfold q = (runesAt q (pos + (Utf8.decode q pos).2)).foldl pstep (pstep (M, Y, D) (pos, (Utf8.decode q pos).1))) := by
        have := HC.out
        rw [hcs, List.foldl_cons] at this
        exact this
      clear HC hcs
      have hrb := decode_le q pos
      generalize (Utf8.decode q pos).1 = r at *
      by_cases hp0 : pos = 0
      · subst hp0
        simp only [Nat.zero_add] at hk HC2 hnx
        by_cases hr : 90 < r
        · go_wp2_with (go_at_call 24; refine (Try.strings_IndexByte _ _ _).mono ?_; rintro e w1 ⟨rfl, hw1⟩; subst hw1)
          go_roundw
          case rel => exact ⟨_, k + 1, -1, Y, D, rfl, rfl, rfl, rfl, by simpa [pstep, hr] using HC2.out, ybd_keep HY.out, by omega, by omega, by omega⟩
          case measure =>
            simp
            omega
        · go_wp2_with (go_at_call 24; refine (Try.strings_IndexByte _ _ _).mono ?_; rintro e w1 ⟨rfl, hw1⟩; subst hw1)
          go_roundw
          case rel =>
            have hib := indexByte_bd letterB (UInt8.ofNat r)
            exact ⟨_, k + 1, Lib.indexByte letterB (UInt8.ofNat r), Y, D, rfl, rfl, rfl, rfl, by simpa [pstep, hr] using HC2.out, ybd_keep HY.out, by omega, hib.1, by have := hib.2; simp [letterB] at this; simp [letterB]; omega⟩
          case measure =>
            simp
            omega
      · have hpb : ((pos : Int) == 0) = false := by simp; omega
        by_cases hr : 48 ≤ r ∧ r ≤ 57
        · obtain ⟨h1, h2⟩ := hr
          go_wp2
          go_roundw
          case rel => exact ⟨_, k + 1, M, 10 * Y + ((r : Int) - 48), D + 1, rfl, rfl, by go_num, by go_num, by simpa [pstep, hp0, h1, h2] using HC2.out, ybd_step HY.out _ (by omega) (by omega), by omega, by omega, by omega⟩
          case measure =>
            simp
            omega
        · rcases Nat.lt_or_ge r 48 with h1 | h1
          · have hs : ¬ (48 ≤ r ∧ r ≤ 57) := hr
            go_wp2
            go_roundw
            case rel => exact ⟨_, k + 1, M, Y, D, rfl, rfl, rfl, rfl, by simpa [pstep, hp0, hs] using HC2.out, ybd_keep HY.out, by omega, by omega, by omega⟩
            case measure =>
              simp
              omega
          · have h2 : 57 < r := by omega
            have h3 : decide ((r : Int) ≤ 57) = false := by simp; omega
            go_wp2
            go_roundw
            case rel => exact ⟨_, k + 1, M, Y, D, rfl, rfl, rfl, rfl, by simpa [pstep, hp0, hr] using HC2.out, ybd_keep HY.out, by omega, by omega, by omega⟩
            case measure =>
              simp
              omega
    · have hnx : ∀ ty, (Instr.next (.pointer (some ⟨w2.heap.size, 0, none⟩)) true ty).run Try.prog (w2.iter q pos) = _ := fun ty => run_next_end w2 q pos ty hp
      have HE : Hid (pfold q = (M, Y, D)) := by
        have := HC.out
        rwa [runesAt_end q pos hp] at this
      clear HC
      by_cases hbad : n < 1 ∨ prodB p = false ∨ M < 0 ∨ D ≠ 2
      · have HR : Hid (parseS s = (⟨#[]⟩, 0, 12)) := by
          have := HF.out
          rw [HE.out] at this
          rwa [if_pos hbad] at this
        clear HF HE
        by_cases h1 : n < 1
        · clear hbad
          have b1 : decide (n < 1) = true := by simpa using h1
          go_wp2_with (go_at_call 10; refine (product_any _ _ hps).mono ?_; rintro e w1 ⟨rfl, hb1⟩)
          go_ret3
          rw [HR.out]
          exact ⟨rfl, hb.alloc hb.size _⟩
        · have b1 : decide (n < 1) = false := by simpa using h1
          cases h2 : prodB p with
          | false =>
            have H2 := Lib.hid h2
            clear h2 hbad
            go_wp2_with (go_at_call 10; refine (product_any _ _ hps).mono ?_; rintro e w1 ⟨rfl, hb1⟩; rw [H2.out])
            go_ret3
            rw [HR.out]
            exact ⟨rfl, (hb.alloc hb.size _).trans (hb1.mono (by simp [World.iter]; have := hb.size; omega))⟩
          | true =>
            have H2 := Lib.hid h2
            by_cases h3 : M < 0
            · clear h2 hbad
              have b3 : decide (M < 0) = true := by simpa using h3
              go_wp2_with (go_at_call 10; refine (product_any _ _ hps).mono ?_; rintro e w1 ⟨rfl, hb1⟩; rw [H2.out])
              go_ret3
              rw [HR.out]
              exact ⟨rfl, (hb.alloc hb.size _).trans (hb1.mono (by simp [World.iter]; have := hb.size; omega))⟩
            · have b3 : decide (M < 0) = false := by simpa using h3
              have h4 : D ≠ 2 := by simpa [h1, h2, h3] using hbad
              have b4 : (D != 2) = true := by simpa using h4
              clear h2 hbad h4
              go_wp2_with (go_at_call 10; refine (product_any _ _ hps).mono ?_; rintro e w1 ⟨rfl, hb1⟩; rw [H2.out])
              go_ret3
              rw [HR.out]
              exact ⟨rfl, (hb.alloc hb.size _).trans (hb1.mono (by simp [World.iter]; have := hb.size; omega))⟩
      · have HR : Hid (parseS s = (p, 12 * Y + M, 0)) := by
          have := HF.out
          rw [HE.out] at this
          rwa [if_neg hbad] at this
        clear HF HE
        have h1 : ¬ n < 1 := fun h => hbad (.inl h)
        have b1 : decide (n < 1) = false := by simpa using h1
        have H2 : Hid (prodB p = true) := by
          cases h2 : prodB p with
          | true => rfl
          | false => exact absurd (.inr (.inl h2)) hbad
        have h3 : ¬ M < 0 := fun h => hbad (.inr (.inr (.inl h)))
        have b3 : decide (M < 0) = false := by simpa using h3
        have h4 : ¬ D ≠ 2 := fun h => hbad (.inr (.inr (.inr h)))
        have b4 : (D != 2) = false := by simpa using h4
        clear hbad h4
        go_wp2_with (go_at_call 10; refine (product_any _ _ hps).mono ?_; rintro e w1 ⟨rfl, hb1⟩; rw [H2.out])
        go_ret3
        rw [HR.out]
        exact ⟨rfl, (hb.alloc hb.size _).trans (hb1.mono (by simp [World.iter]; have := hb.size; omega))⟩
end Go.Proofs.Ytjkdhldhmdfhkaa
