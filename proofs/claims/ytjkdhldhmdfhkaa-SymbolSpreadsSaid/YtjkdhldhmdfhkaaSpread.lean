/- Walks of Spread and ParseSpread, the program's and the document's. -/
import Derived.Test.YtjkdhldhmdfhkaaRParse
namespace Go.Proofs.Ytjkdhldhmdfhkaa
open Go.RowKit

theorem codeS_size (s : ByteArray) (m : Int) : (codeS s m).1.size ≤ s.size + 3 := by
  unfold codeS
  split
  · show 0 ≤ _; omega
  · split
    · show 0 ≤ _; omega
    · rw [codeB_size]; omega

/-- what Spread answers -/
def spreadS (s : ByteArray) (n f : Int) : ByteArray × Int :=
  if (codeS s n).2 ≠ 0 then (⟨#[]⟩, (codeS s n).2) else if (codeS s f).2 ≠ 0 then (⟨#[]⟩, (codeS s f).2) else if f ≤ n then (⟨#[]⟩, 1) else ((codeS s n).1 ++ ⟨#[45]⟩ ++ (codeS s f).1, 0)

set_option maxHeartbeats 1000000 in
theorem spread_any (s : ByteArray) (n f : Int) (w : World) (hs : s.size ≤ 1000) :
    Calls Try.prog 14 #[.string s, .int .i64 n, .int .i64 f] w fun e w' => e = .returned (.tuple #[.string (spreadS s n f).1, .int .i64 (spreadS s n f).2]) ∧ Below w.heap.size w w' := by
  have hA := codeS_size s n
  have hB := codeS_size s f
  have h3 : s.size + 3 ≤ maxLen := by unfold maxLen; omega
  have HS : Hid (spreadS s n f = (if (codeS s n).2 ≠ 0 then (⟨#[]⟩, (codeS s n).2) else if (codeS s f).2 ≠ 0 then (⟨#[]⟩, (codeS s f).2) else if f ≤ n then (⟨#[]⟩, 1) else ((codeS s n).1 ++ ⟨#[45]⟩ ++ (codeS s f).1, 0))) := rfl
  have HC1 : ∀ w, Calls Try.prog 12 #[.string s, .int .i64 n] w fun e w' => e = .returned (.tuple #[.string (codeS s n).1, .int .i64 (codeS s n).2]) ∧ Below w.heap.size w w' := fun w => code_any s n w h3
  have HC2 : ∀ w, Calls Try.prog 12 #[.string s, .int .i64 f] w fun e w' => e = .returned (.tuple #[.string (codeS s f).1, .int .i64 (codeS s f).2]) ∧ Below w.heap.size w w' := fun w => code_any s f w h3
  generalize codeS s n = A at *
  generalize codeS s f = B at *
  obtain ⟨a, ea⟩ := A
  obtain ⟨b, eb⟩ := B
  simp only [] at hA hB HS HC1 HC2
  have H1 := Lib.hid HC1
  have H2 := Lib.hid HC2
  clear HC1 HC2
  by_cases hea : ea = 0
  · subst hea
    by_cases heb : eb = 0
    · subst heb
      by_cases hle : f ≤ n
      · have HR : Hid (spreadS s n f = (⟨#[]⟩, 1)) := Lib.hid (by rw [HS.out]; simp [hle])
        clear HS
        go_enter Try.func14, Try.ntmps14
        go_wp2_with fail
        refine (H1.out _).mono ?_
        rintro e w1 ⟨rfl, hb1⟩
        go_wp2_with fail
        refine (H2.out _).mono ?_
        rintro e w2 ⟨rfl, hb2⟩
        go_wp2_with fail
        go_ret2
        rw [HR.out]
        exact ⟨rfl, hb1.trans (hb2.mono hb1.size)⟩
      · have HR : Hid (spreadS s n f = (a ++ ⟨#[45]⟩ ++ b, 0)) := Lib.hid (by rw [HS.out]; simp [hle])
        clear HS
        go_enter Try.func14, Try.ntmps14
        go_wp2_with fail
        refine (H1.out _).mono ?_
        rintro e w1 ⟨rfl, hb1⟩
        go_wp2_with fail
        refine (H2.out _).mono ?_
        rintro e w2 ⟨rfl, hb2⟩
        go_wp2_with fail
        go_ret2
        rw [HR.out]
        exact ⟨rfl, hb1.trans (hb2.mono hb1.size)⟩
    · have HR : Hid (spreadS s n f = (⟨#[]⟩, eb)) := Lib.hid (by rw [HS.out]; simp [heb])
      have hb : (eb != 0) = true := by simpa using heb
      have hb' : (eb == 0) = false := by simpa using heb
      clear HS heb
      go_enter Try.func14, Try.ntmps14
      go_wp2_with fail
      refine (H1.out _).mono ?_
      rintro e w1 ⟨rfl, hb1⟩
      go_wp2_with fail
      refine (H2.out _).mono ?_
      rintro e w2 ⟨rfl, hb2⟩
      go_wp2_with fail
      go_ret2
      rw [HR.out]
      exact ⟨rfl, hb1.trans (hb2.mono hb1.size)⟩
  · have HR : Hid (spreadS s n f = (⟨#[]⟩, ea)) := Lib.hid (by rw [HS.out]; simp [hea])
    have ha : (ea != 0) = true := by simpa using hea
    have ha' : (ea == 0) = false := by simpa using hea
    clear HS hea
    go_enter Try.func14, Try.ntmps14
    go_wp2_with fail
    refine (H1.out _).mono ?_
    rintro e w1 ⟨rfl, hb1⟩
    go_wp2_with fail
    go_ret2
    rw [HR.out]
    exact ⟨rfl, hb1⟩

set_option maxHeartbeats 1000000 in
theorem rspread_any (s : ByteArray) (n f : Int) (w : World) (hs : s.size ≤ 1000) :
    Calls Try.prog 15 #[.string s, .int .i64 n, .int .i64 f] w fun e w' => e = .returned (.tuple #[.string (spreadS s n f).1, .int .i64 (spreadS s n f).2]) ∧ Below w.heap.size w w' := by
  have hA := codeS_size s n
  have hB := codeS_size s f
  have h3 : s.size + 3 ≤ maxLen := by unfold maxLen; omega
  have HS : Hid (spreadS s n f = (if (codeS s n).2 ≠ 0 then (⟨#[]⟩, (codeS s n).2) else if (codeS s f).2 ≠ 0 then (⟨#[]⟩, (codeS s f).2) else if f ≤ n then (⟨#[]⟩, 1) else ((codeS s n).1 ++ ⟨#[45]⟩ ++ (codeS s f).1, 0))) := rfl
  have HC1 : ∀ w, Calls Try.prog 13 #[.string s, .int .i64 n] w fun e w' => e = .returned (.tuple #[.string (codeS s n).1, .int .i64 (codeS s n).2]) ∧ Below w.heap.size w w' := fun w => rcode_any s n w h3
  have HC2 : ∀ w, Calls Try.prog 13 #[.string s, .int .i64 f] w fun e w' => e = .returned (.tuple #[.string (codeS s f).1, .int .i64 (codeS s f).2]) ∧ Below w.heap.size w w' := fun w => rcode_any s f w h3
  generalize codeS s n = A at *
  generalize codeS s f = B at *
  obtain ⟨a, ea⟩ := A
  obtain ⟨b, eb⟩ := B
  simp only [] at hA hB HS HC1 HC2
  have H1 := Lib.hid HC1
  have H2 := Lib.hid HC2
  clear HC1 HC2
  by_cases hea : ea = 0
  · subst hea
    by_cases heb : eb = 0
    · subst heb
      by_cases hle : f ≤ n
      · have HR : Hid (spreadS s n f = (⟨#[]⟩, 1)) := Lib.hid (by rw [HS.out]; simp [hle])
        clear HS
        go_enter Try.func15, Try.ntmps15
        go_wp2_with fail
        refine (H1.out _).mono ?_
        rintro e w1 ⟨rfl, hb1⟩
        go_wp2_with fail
        refine (H2.out _).mono ?_
        rintro e w2 ⟨rfl, hb2⟩
        go_wp2_with fail
        go_ret2
        rw [HR.out]
        exact ⟨rfl, hb1.trans (hb2.mono hb1.size)⟩
      · have HR : Hid (spreadS s n f = (a ++ ⟨#[45]⟩ ++ b, 0)) := Lib.hid (by rw [HS.out]; simp [hle])
        clear HS
        go_enter Try.func15, Try.ntmps15
        go_wp2_with fail
        refine (H1.out _).mono ?_
        rintro e w1 ⟨rfl, hb1⟩
        go_wp2_with fail
        refine (H2.out _).mono ?_
        rintro e w2 ⟨rfl, hb2⟩
        go_wp2_with fail
        go_ret2
        rw [HR.out]
        exact ⟨rfl, hb1.trans (hb2.mono hb1.size)⟩
    · have HR : Hid (spreadS s n f = (⟨#[]⟩, eb)) := Lib.hid (by rw [HS.out]; simp [heb])
      have hb : (eb != 0) = true := by simpa using heb
      have hb' : (eb == 0) = false := by simpa using heb
      clear HS heb
      go_enter Try.func15, Try.ntmps15
      go_wp2_with fail
      refine (H1.out _).mono ?_
      rintro e w1 ⟨rfl, hb1⟩
      go_wp2_with fail
      refine (H2.out _).mono ?_
      rintro e w2 ⟨rfl, hb2⟩
      go_wp2_with fail
      go_ret2
      rw [HR.out]
      exact ⟨rfl, hb1.trans (hb2.mono hb1.size)⟩
  · have HR : Hid (spreadS s n f = (⟨#[]⟩, ea)) := Lib.hid (by rw [HS.out]; simp [hea])
    have ha : (ea != 0) = true := by simpa using hea
    have ha' : (ea == 0) = false := by simpa using hea
    clear HS hea
    go_enter Try.func15, Try.ntmps15
    go_wp2_with fail
    refine (H1.out _).mono ?_
    rintro e w1 ⟨rfl, hb1⟩
    go_wp2_with fail
    go_ret2
    rw [HR.out]
    exact ⟨rfl, hb1⟩

/-! ### a stroke parts a text -/
def preL (l : List UInt8) : List UInt8 := l.takeWhile (· != 45)
def postL (l : List UInt8) : List UInt8 := (l.dropWhile (· != 45)).drop 1
def preB (s : ByteArray) : ByteArray := ⟨(preL s.data.toList).toArray⟩
def postB (s : ByteArray) : ByteArray := ⟨(postL s.data.toList).toArray⟩

theorem cut_dash (l : List UInt8) : (Lib.cut l [45]).1 = preL l ∧ (Lib.cut l [45]).2.1 = postL l := by
  induction l with
  | nil => exact ⟨rfl, rfl⟩
  | cons b l ih =>
    by_cases hb : b = 45
    · subst hb
      have e : Lib.index (45 :: l) [45] = 0 := by simp [Lib.index]
      unfold Lib.cut
      rw [e]
      simp [preL, postL]
    · have hb' : ¬ 45 = b := fun h => hb h.symm
      have e : Lib.index (b :: l) [45] = if Lib.index l [45] == -1 then -1 else Lib.index l [45] + 1 := by
        simp [Lib.index, hb']
      have hg := Lib.index_ge l [45]
      have p1 : preL (b :: l) = b :: preL l := by simp [preL, hb]
      have p2 : postL (b :: l) = postL l := by simp [postL, hb]
      rw [p1, p2, ← ih.1, ← ih.2]
      unfold Lib.cut
      rw [e]
      by_cases h : Lib.index l [45] = -1
      · simp [h]
      · have h0 : 0 ≤ Lib.index l [45] := by omega
        have h1 : (Lib.index l [45] == -1) = false := by rw [beq_eq_false_iff_ne]; exact h
        rw [h1]
        obtain ⟨k, hk⟩ := Int.eq_ofNat_of_zero_le h0
        rw [hk]
        have h2 : (0 : Int) ≤ (k : Int) + 1 := by omega
        have h3 : ((k : Int) + 1).toNat = k + 1 := by omega
        have h4 : (0 : Int) ≤ (k : Int) := by omega
        simp [h2, h3]

theorem pre_len (l : List UInt8) : (preL l).length ≤ l.length := by
  induction l with
  | nil => simp [preL]
  | cons b l ih =>
    unfold preL at ih ⊢
    rw [List.takeWhile_cons]
    split
    · simp; exact ih
    · simp
theorem post_len (l : List UInt8) : (postL l).length ≤ l.length := by
  induction l with
  | nil => simp [postL]
  | cons b l ih =>
    unfold postL at ih ⊢
    rw [List.dropWhile_cons]
    split
    · simp at ih ⊢; omega
    · simp
theorem preB_size (s : ByteArray) : (preB s).size ≤ s.size := by
  have := pre_len s.data.toList
  show (preL s.data.toList).toArray.size ≤ s.data.size
  simpa using this
theorem postB_size (s : ByteArray) : (postB s).size ≤ s.size := by
  have := post_len s.data.toList
  show (postL s.data.toList).toArray.size ≤ s.data.size
  simpa using this

theorem pre_at (l : List UInt8) : ∀ i, (∀ j, j < i → l[j]? ≠ some 45) → l[i]? = some 45 → preL l = l.take i ∧ postL l = l.drop (i + 1) := by
  induction l with
  | nil => intro i _ h; simp at h
  | cons b l ih =>
    intro i h0 h1
    cases i with
    | zero =>
      simp at h1
      subst h1
      simp [preL, postL]
    | succ i =>
      have hb : b ≠ 45 := by
        have := h0 0 (by omega)
        simpa using this
      have := ih i (fun j hj => by have := h0 (j + 1) (by omega); simpa using this) (by simpa using h1)
      have p1 : preL (b :: l) = b :: preL l := by simp [preL, hb]
      have p2 : postL (b :: l) = postL l := by simp [postL, hb]
      rw [p1, p2, this.1, this.2]
      exact ⟨rfl, rfl⟩
theorem pre_none (l : List UInt8) (h : ∀ j, j < l.length → l[j]? ≠ some 45) : postL l = [] := by
  induction l with
  | nil => rfl
  | cons b l ih =>
    have hb : b ≠ 45 := by
      have := h 0 (by simp)
      simpa using this
    have p2 : postL (b :: l) = postL l := by simp [postL, hb]
    rw [p2]
    exact ih fun j hj => by have := h (j + 1) (by simp; omega); simpa using this

theorem preB_at (s : ByteArray) (i : Nat) (hi : i < s.size) (h0 : ∀ j (hj : j < s.size), j < i → s[j]'hj ≠ 45) (h1 : s[i]'hi = 45) : preB s = s.extract 0 i ∧ postB s = s.extract (i + 1) s.size := by
  have g : ∀ j (hj : j < s.size), s.data.toList[j]? = some (s[j]'hj) := fun j hj => by
    rw [Array.getElem?_toList, Array.getElem?_eq_getElem hj]
    rfl
  have h := pre_at s.data.toList i (fun j hj => by rw [g j (by omega)]; intro e; exact h0 j (by omega) hj (Option.some.inj e)) (by rw [g i hi, h1])
  constructor
  · apply ByteArray.ext
    show (preL s.data.toList).toArray = _
    rw [h.1]
    apply Array.ext'
    simp
  · apply ByteArray.ext
    show (postL s.data.toList).toArray = _
    rw [h.2]
    apply Array.ext'
    have e : s.data.toList.length = s.size := Array.length_toList
    rw [ByteArray.data_extract, Array.toList_extract, List.extract_eq_take_drop]
    rw [List.take_of_length_le (by rw [List.length_drop, e]; omega)]
theorem postB_none (s : ByteArray) (h0 : ∀ j (hj : j < s.size), s[j]'hj ≠ 45) : postB s = ⟨#[]⟩ := by
  have g : ∀ j (hj : j < s.size), s.data.toList[j]? = some (s[j]'hj) := fun j hj => by
    rw [Array.getElem?_toList, Array.getElem?_eq_getElem hj]
    rfl
  apply ByteArray.ext
  show (postL s.data.toList).toArray = _
  rw [pre_none s.data.toList fun j hj => by
    have hj' : j < s.size := by rw [Array.length_toList] at hj; exact hj
    rw [g j hj']
    intro e
    exact h0 j hj' (Option.some.inj e)]

/-- what ParseSpread makes of two readings -/
def joinS (x y : ByteArray × Int × Int) : ByteArray × Int × Int × Int :=
  if x.2.2 ≠ 0 ∨ y.2.2 ≠ 0 ∨ x.1 ≠ y.1 ∨ y.2.1 ≤ x.2.1 then (⟨#[]⟩, 0, 0, 12) else (x.1, x.2.1, y.2.1, 0)
def pspreadS (s : ByteArray) : ByteArray × Int × Int × Int := joinS (parseS (preB s)) (parseS (postB s))
theorem joinS_cases (x y : ByteArray × Int × Int) : (x.2.2 ≠ 0 ∧ joinS x y = (⟨#[]⟩, 0, 0, 12)) ∨ (x.2.2 = 0 ∧ y.2.2 ≠ 0 ∧ joinS x y = (⟨#[]⟩, 0, 0, 12)) ∨
    (x.2.2 = 0 ∧ y.2.2 = 0 ∧ x.1 ≠ y.1 ∧ joinS x y = (⟨#[]⟩, 0, 0, 12)) ∨ (x.2.2 = 0 ∧ y.2.2 = 0 ∧ x.1 = y.1 ∧ y.2.1 ≤ x.2.1 ∧ joinS x y = (⟨#[]⟩, 0, 0, 12)) ∨
    (x.2.2 = 0 ∧ y.2.2 = 0 ∧ x.1 = y.1 ∧ ¬ y.2.1 ≤ x.2.1 ∧ joinS x y = (x.1, x.2.1, y.2.1, 0)) := by
  by_cases h1 : x.2.2 = 0
  · by_cases h2 : y.2.2 = 0
    · by_cases h3 : x.1 = y.1
      · by_cases h4 : y.2.1 ≤ x.2.1
        · exact .inr (.inr (.inr (.inl ⟨h1, h2, h3, h4, by unfold joinS; rw [if_pos (.inr (.inr (.inr h4)))]⟩)))
        · exact .inr (.inr (.inr (.inr ⟨h1, h2, h3, h4, by unfold joinS; rw [if_neg fun h => h.elim (fun a => a h1) fun h => h.elim (fun a => a h2) fun h => h.elim (fun a => a h3) h4]⟩)))
      · exact .inr (.inr (.inl ⟨h1, h2, h3, by unfold joinS; rw [if_pos (.inr (.inr (.inl h3)))]⟩))
    · exact .inr (.inl ⟨h1, h2, by unfold joinS; rw [if_pos (.inr (.inl h2))]⟩)
  · exact .inl ⟨h1, by unfold joinS; rw [if_pos (.inl h1)]⟩

theorem parseS_bd (s : ByteArray) : 0 ≤ (parseS s).2.1 ∧ (parseS s).2.1 ≤ 1199 := by
  rcases parse_inv s with h | ⟨P, m, _, hm, _, h⟩
  · rw [h]; exact ⟨by show (0 : Int) ≤ 0; omega, by show (0 : Int) ≤ 1199; omega⟩
  · rw [h]; exact ⟨by show (0 : Int) ≤ (m : Int); omega, by show (m : Int) ≤ 1199; omega⟩

/-- a variable of the library's own holds some number -/
def MaxL (w : World) : Prop := ∃ m, w.cell? ⟨0, 0, none⟩ = some (.int .i64 m)
theorem MaxL.lt {w : World} (h : MaxL w) : 0 < w.heap.size := by
  obtain ⟨m, hm⟩ := h
  exact block_lt_of_cell hm
theorem MaxL.below {w w' : World} {B : Nat} (h : MaxL w) (hb : Below B w w') (hB : 0 < B) : MaxL w' := by
  obtain ⟨m, hm⟩ := h
  exact ⟨m, by rw [hb.cell (p := ⟨0, 0, none⟩) hB]; exact hm⟩

set_option maxHeartbeats 1000000 in
theorem pspread_any (s : ByteArray) (w : World) (hs : s.size ≤ 1000) (hm : MaxL w) :
    Calls Try.prog 18 #[.string s] w fun e w' => e = .returned (.tuple #[.string (pspreadS s).1, .int .i64 (pspreadS s).2.1, .int .i64 (pspreadS s).2.2.1, .int .i64 (pspreadS s).2.2.2]) ∧ Below w.heap.size w w' := by
  obtain ⟨ml, hml⟩ := hm
  have HCUT : ∀ w, w.cell? ⟨0, 0, none⟩ = some (.int .i64 ml) → Calls Try.prog 25 #[.string s, .string ⟨#[45]⟩] w fun e w' => (∃ b, e = .returned (.tuple #[.string (preB s), .string (postB s), .bool b])) ∧ ∃ n, w' = w.drewN n := by
    intro w hw
    refine (Try.strings_Cut s ⟨#[45]⟩ ml w (by omega) hw).mono ?_
    rintro e w' ⟨rfl, hn⟩
    have h := cut_dash s.data.toList
    exact ⟨⟨_, by show _ = Ending.returned (.tuple #[.string ⟨(preL s.data.toList).toArray⟩, .string ⟨(postL s.data.toList).toArray⟩, _]); rw [← h.1, ← h.2]⟩, hn⟩
  have hz1 := preB_size s
  have hz2 := postB_size s
  have hr : pspreadS s = joinS (parseS (preB s)) (parseS (postB s)) := rfl
  have hx := joinS_cases (parseS (preB s)) (parseS (postB s))
  rw [← hr] at hx
  clear hr
  have HP1 : ∀ w, Calls Try.prog 17 #[.string (preB s)] w fun e w' => e = .returned (.tuple #[.string (parseS (preB s)).1, .int .i64 (parseS (preB s)).2.1, .int .i64 (parseS (preB s)).2.2]) ∧ Below w.heap.size w w' := fun w => parse_any _ w (by unfold maxLen; omega)
  have HP2 : ∀ w, Calls Try.prog 17 #[.string (postB s)] w fun e w' => e = .returned (.tuple #[.string (parseS (postB s)).1, .int .i64 (parseS (postB s)).2.1, .int .i64 (parseS (postB s)).2.2]) ∧ Below w.heap.size w w' := fun w => parse_any _ w (by unfold maxLen; omega)
  have hb1 := parseS_bd (preB s)
  have hb2 := parseS_bd (postB s)
  generalize parseS (preB s) = X at *
  generalize parseS (postB s) = Y at *
  obtain ⟨px, mx, ex⟩ := X
  obtain ⟨py, my, ey⟩ := Y
  simp only [] at hx HP1 HP2 hb1 hb2
  generalize preB s = sa at *
  generalize postB s = sb at *
  generalize pspreadS s = R at *
  have H0 := Lib.hid HCUT
  have H1 := Lib.hid HP1
  have H2 := Lib.hid HP2
  clear HCUT HP1 HP2
  rcases hx with ⟨h1, hj⟩ | ⟨h1, h2, hj⟩ | ⟨h1, h2, h3, hj⟩ | ⟨h1, h2, h3, h4, hj⟩ | ⟨h1, h2, h3, h4, hj⟩
  · have HR := Lib.hid hj
    clear hj
    have b1 : (ex != 0) = true := by simpa using h1
    clear h1
    go_enter Try.func18, Try.ntmps18
    go_wp2_with fail
    refine (H0.out _ hml).mono ?_
    rintro e w1 ⟨⟨b, rfl⟩, n, rfl⟩
    go_wp2_with fail
    refine (H1.out _).mono ?_
    rintro e w2 ⟨rfl, hw2⟩
    go_wp2_with fail
    refine (H2.out _).mono ?_
    rintro e w3 ⟨rfl, hw3⟩
    go_wp2_with fail
    rw [HR.out]
    exact bodyPost_ret (v := .tuple #[.string ⟨#[]⟩, .int .i64 0, .int .i64 0, .int .i64 12]) (by simp [results, Try.results18, go_sem]) rfl ⟨rfl, (below_drewN (Below.refl _ _) n).trans (hw2.trans (hw3.mono hw2.size))⟩
  · have HR := Lib.hid hj
    clear hj
    have b1 : (ex != 0) = false := by simpa using h1
    have b2 : (ey != 0) = true := by simpa using h2
    clear h1 h2
    go_enter Try.func18, Try.ntmps18
    go_wp2_with fail
    refine (H0.out _ hml).mono ?_
    rintro e w1 ⟨⟨b, rfl⟩, n, rfl⟩
    go_wp2_with fail
    refine (H1.out _).mono ?_
    rintro e w2 ⟨rfl, hw2⟩
    go_wp2_with fail
    refine (H2.out _).mono ?_
    rintro e w3 ⟨rfl, hw3⟩
    go_wp2_with fail
    rw [HR.out]
    exact bodyPost_ret (v := .tuple #[.string ⟨#[]⟩, .int .i64 0, .int .i64 0, .int .i64 12]) (by simp [results, Try.results18, go_sem]) rfl ⟨rfl, (below_drewN (Below.refl _ _) n).trans (hw2.trans (hw3.mono hw2.size))⟩
  · have HR := Lib.hid hj
    clear hj
    have b1 : (ex != 0) = false := by simpa using h1
    have b2 : (ey != 0) = false := by simpa using h2
    have b3 : (px.toList == py.toList) = false := tl_ne h3
    clear h1 h2 h3
    go_enter Try.func18, Try.ntmps18
    go_wp2_with fail
    refine (H0.out _ hml).mono ?_
    rintro e w1 ⟨⟨b, rfl⟩, n, rfl⟩
    go_wp2_with fail
    refine (H1.out _).mono ?_
    rintro e w2 ⟨rfl, hw2⟩
    go_wp2_with fail
    refine (H2.out _).mono ?_
    rintro e w3 ⟨rfl, hw3⟩
    go_wp2_with fail
    rw [HR.out]
    exact bodyPost_ret (v := .tuple #[.string ⟨#[]⟩, .int .i64 0, .int .i64 0, .int .i64 12]) (by simp [results, Try.results18, go_sem]) rfl ⟨rfl, (below_drewN (Below.refl _ _) n).trans (hw2.trans (hw3.mono hw2.size))⟩
  · have HR := Lib.hid hj
    clear hj
    have b1 : (ex != 0) = false := by simpa using h1
    have b2 : (ey != 0) = false := by simpa using h2
    have b3 : (px.toList == py.toList) = true := by rw [h3]; simp
    have b4 : decide (my ≤ mx) = true := decide_eq_true h4
    clear h1 h2 h3
    go_enter Try.func18, Try.ntmps18
    go_wp2_with fail
    refine (H0.out _ hml).mono ?_
    rintro e w1 ⟨⟨b, rfl⟩, n, rfl⟩
    go_wp2_with fail
    refine (H1.out _).mono ?_
    rintro e w2 ⟨rfl, hw2⟩
    go_wp2_with fail
    refine (H2.out _).mono ?_
    rintro e w3 ⟨rfl, hw3⟩
    go_wp2_with fail
    rw [HR.out]
    exact bodyPost_ret (v := .tuple #[.string ⟨#[]⟩, .int .i64 0, .int .i64 0, .int .i64 12]) (by simp [results, Try.results18, go_sem]) rfl ⟨rfl, (below_drewN (Below.refl _ _) n).trans (hw2.trans (hw3.mono hw2.size))⟩
  · have HR := Lib.hid hj
    clear hj
    have b1 : (ex != 0) = false := by simpa using h1
    have b2 : (ey != 0) = false := by simpa using h2
    have b3 : (px.toList == py.toList) = true := by rw [h3]; simp
    have b4 : decide (my ≤ mx) = false := decide_eq_false h4
    clear h1 h2 h3
    go_enter Try.func18, Try.ntmps18
    go_wp2_with fail
    refine (H0.out _ hml).mono ?_
    rintro e w1 ⟨⟨b, rfl⟩, n, rfl⟩
    go_wp2_with fail
    refine (H1.out _).mono ?_
    rintro e w2 ⟨rfl, hw2⟩
    go_wp2_with fail
    refine (H2.out _).mono ?_
    rintro e w3 ⟨rfl, hw3⟩
    go_wp2_with fail
    rw [HR.out]
    exact bodyPost_ret (v := .tuple #[.string px, .int .i64 mx, .int .i64 my, .int .i64 0]) (by simp [results, Try.results18, go_sem]) rfl ⟨rfl, (below_drewN (Below.refl _ _) n).trans (hw2.trans (hw3.mono hw2.size))⟩
end Go.Proofs.Ytjkdhldhmdfhkaa
