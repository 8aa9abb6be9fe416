/- The walk of cornhilllaw3.SymbolBack, a theorem for each way. -/
import Derived.Test.YtjkdhldhmdfhkaaStroke
import Derived.Test.YtjkdhldhmdfhkaaMonths
namespace Go.Proofs.Ytjkdhldhmdfhkaa
open Go.RowKit

theorem fold_month (x : Int) (h0 : -9223372036854775808 ≤ x) (h1 : x ≤ 9223372036854775807) : ∃ k n : Nat, (x = -(k : Int) - 1 ∨ x = (k : Int)) ∧ (k : Int) ≤ 9223372036854775807 ∧ (k : Int) % 1200 = (n : Int) ∧ n ≤ 1199 := by
  by_cases h : x < 0
  · exact ⟨(-(x + 1)).toNat, (-(x + 1)).toNat % 1200, .inl (by omega), by omega, by omega, by omega⟩
  · exact ⟨x.toNat, x.toNat % 1200, .inr (by omega), by omega, by omega, by omega⟩
theorem fewH (p q : ByteArray) (hp : p.size ≤ maxLen) (h : fewS p = q) : ∀ w, Calls Try.prog 9 #[.string p] w fun e w' => e = .returned (.string q) ∧ w = w' := by
  subst h
  exact fun w => few_any p w hp
theorem bytes_ne {a b : ByteArray} (h : a ≠ b) : (a.toList == b.toList) = false := tl_ne h

set_option maxRecDepth 100000 in
set_option maxHeartbeats 2000000 in
theorem back_ny (p s q r : ByteArray) (near far : Int) (k l n f : Nat) (w : World) (hps : p.size ≤ maxLen) (hss : s.size ≤ maxLen) (hpq : fewS p = q) (hsr : fewS s = r)
    (hk : near = -(k : Int) - 1 ∨ near = (k : Int)) (hkm : (k : Int) ≤ 9223372036854775807) (hkn : (k : Int) % 1200 = (n : Int)) (_hn : n ≤ 1199)
    (hl : far = -(l : Int) - 1 ∨ far = (l : Int)) (hlm : (l : Int) ≤ 9223372036854775807) (hlf : (l : Int) % 1200 = (f : Int)) (_hf : f ≤ 1199)
    (hq : q.size ≤ 60) (hr : r.size ≤ 60) (hp : prodB q = false) (hs : ∃ (P : ByteArray) (m : Nat), prodB P = true ∧ m ≤ 1199 ∧ r = codeB P m) (hm : MaxL w) :
    Calls Try.prog 7 #[.string p, .int .i64 near, .int .i64 far, .string s] w fun e w' => e = .returned (.bool true) ∧ Below w.heap.size w w' := by
  have F1 := Lib.hid (fewH p q hps hpq)
  have F2 := Lib.hid (fewH s r hss hsr)
  have hqm : q.size + 3 ≤ maxLen := by unfold maxLen; omega
  have hrm : r.size ≤ maxLen := by unfold maxLen; omega
  have HM := Lib.hid hm
  have HP := Lib.hid hp
  clear hpq hsr hm hp hps hss
  have C1 := Lib.hid fun w => code_bad q (n : Int) w (by omega) HP.out
  obtain ⟨P, m, hP, hm2, hrP⟩ := hs
  have R1' : ∀ w, Calls Try.prog 17 #[.string r] w fun e w' => e = .returned (.tuple #[.string P, .int .i64 m, .int .i64 0]) ∧ Below w.heap.size w w' := by
    intro w
    have := parse_any r w hrm
    rw [hrP, parse_code P m hP hm2] at this
    rw [hrP]
    exact this
  have R1 := Lib.hid R1'
  have hPz : P.size + 3 ≤ maxLen := by have := codeB_size P m; rw [← hrP] at this; omega
  have R2' : ∀ w, Calls Try.prog 12 #[.string P, .int .i64 m] w fun e w' => e = .returned (.tuple #[.string r, .int .i64 0]) ∧ Below w.heap.size w w' := by
    intro w
    have := code_okI P (m : Int) w hPz hP (by omega) (by omega)
    rw [Int.toNat_natCast, ← hrP] at this
    exact this
  have R2 := Lib.hid R2'
  clear R1' R2' hrP hP
  rcases hk with rfl | rfl <;> rcases hl with rfl | rfl
  all_goals
    go_enter Try.func7, Try.ntmps7
    go_wp2_with fail
    refine (F1.out _).mono ?_
    rintro e w1 ⟨rfl, rfl⟩
    go_wp2_with fail
    refine (C1.out _).mono ?_
    rintro e w1 ⟨rfl, h1⟩
    go_wp2_with fail
    refine (product_any q _ (by omega)).mono ?_
    rintro e w2 ⟨rfl, h2⟩
    rw [HP.out]
    have k2 : Below w.heap.size w w2 := h1.trans (h2.mono h1.size)
    clear h1 h2
    go_wp2_with fail
    refine (F2.out _).mono ?_
    rintro e wz ⟨rfl, rfl⟩
    go_wp2_with fail
    refine (R1.out _).mono ?_
    rintro e w3 ⟨rfl, h3⟩
    have k3 : Below w.heap.size w w3 := k2.trans (h3.mono k2.size)
    clear h3 k2
    go_wp2_with fail
    refine (R2.out _).mono ?_
    rintro e w4 ⟨rfl, h4⟩
    have k4 : Below w.heap.size w w4 := k3.trans (h4.mono k3.size)
    clear h4 k3
    go_wp2_with fail
    refine (known_any _).mono ?_
    rintro e w5 ⟨rfl, h5⟩
    have k5 : Below w.heap.size w w5 := k4.trans (h5.mono k4.size)
    clear h5 k4
    go_wp2_with fail
    go_ret
    exact ⟨by simp, k5⟩

set_option maxRecDepth 100000 in
set_option maxHeartbeats 2000000 in
theorem back_nn (p s q r : ByteArray) (near far : Int) (k l n f : Nat) (w : World) (hps : p.size ≤ maxLen) (hss : s.size ≤ maxLen) (hpq : fewS p = q) (hsr : fewS s = r)
    (hk : near = -(k : Int) - 1 ∨ near = (k : Int)) (hkm : (k : Int) ≤ 9223372036854775807) (hkn : (k : Int) % 1200 = (n : Int)) (_hn : n ≤ 1199)
    (hl : far = -(l : Int) - 1 ∨ far = (l : Int)) (hlm : (l : Int) ≤ 9223372036854775807) (hlf : (l : Int) % 1200 = (f : Int)) (_hf : f ≤ 1199)
    (hq : q.size ≤ 60) (hr : r.size ≤ 60) (hp : prodB q = false) (hs : parseS r = (⟨#[]⟩, 0, 12)) (hm : MaxL w) :
    Calls Try.prog 7 #[.string p, .int .i64 near, .int .i64 far, .string s] w fun e w' => e = .returned (.bool true) ∧ Below w.heap.size w w' := by
  have F1 := Lib.hid (fewH p q hps hpq)
  have F2 := Lib.hid (fewH s r hss hsr)
  have hqm : q.size + 3 ≤ maxLen := by unfold maxLen; omega
  have hrm : r.size ≤ maxLen := by unfold maxLen; omega
  have HM := Lib.hid hm
  have HP := Lib.hid hp
  clear hpq hsr hm hp hps hss
  have C1 := Lib.hid fun w => code_bad q (n : Int) w (by omega) HP.out
  have R1' : ∀ w, Calls Try.prog 17 #[.string r] w fun e w' => e = .returned (.tuple #[.string ⟨#[]⟩, .int .i64 0, .int .i64 12]) ∧ Below w.heap.size w w' := by
    intro w
    have := parse_any r w hrm
    rw [hs] at this
    exact this
  have R1 := Lib.hid R1'
  clear R1' hs
  rcases hk with rfl | rfl <;> rcases hl with rfl | rfl
  all_goals
    go_enter Try.func7, Try.ntmps7
    go_wp2_with fail
    refine (F1.out _).mono ?_
    rintro e w1 ⟨rfl, rfl⟩
    go_wp2_with fail
    refine (C1.out _).mono ?_
    rintro e w1 ⟨rfl, h1⟩
    go_wp2_with fail
    refine (product_any q _ (by omega)).mono ?_
    rintro e w2 ⟨rfl, h2⟩
    rw [HP.out]
    have k2 : Below w.heap.size w w2 := h1.trans (h2.mono h1.size)
    clear h1 h2
    go_wp2_with fail
    refine (F2.out _).mono ?_
    rintro e wz ⟨rfl, rfl⟩
    go_wp2_with fail
    refine (R1.out _).mono ?_
    rintro e w3 ⟨rfl, h3⟩
    have k3 : Below w.heap.size w w3 := k2.trans (h3.mono k2.size)
    clear h3 k2
    go_wp2_with fail
    refine (known_any _).mono ?_
    rintro e w4 ⟨rfl, h4⟩
    have k4 : Below w.heap.size w w4 := k3.trans (h4.mono k3.size)
    clear h4 k3
    go_wp2_with fail
    go_ret
    exact ⟨by simp, k4⟩

set_option maxRecDepth 100000 in
set_option maxHeartbeats 2000000 in
theorem back_py (p s q r : ByteArray) (near far : Int) (k l n f : Nat) (w : World) (hps : p.size ≤ maxLen) (hss : s.size ≤ maxLen) (hpq : fewS p = q) (hsr : fewS s = r)
    (hk : near = -(k : Int) - 1 ∨ near = (k : Int)) (hkm : (k : Int) ≤ 9223372036854775807) (hkn : (k : Int) % 1200 = (n : Int)) (hn : n ≤ 1199)
    (hl : far = -(l : Int) - 1 ∨ far = (l : Int)) (hlm : (l : Int) ≤ 9223372036854775807) (hlf : (l : Int) % 1200 = (f : Int)) (hf : f ≤ 1199)
    (hq : q.size ≤ 60) (hr : r.size ≤ 60) (hp : prodB q = true) (hlt :  n < f) (hs : ∃ (P : ByteArray) (m : Nat), prodB P = true ∧ m ≤ 1199 ∧ r = codeB P m) (hm : MaxL w) :
    Calls Try.prog 7 #[.string p, .int .i64 near, .int .i64 far, .string s] w fun e w' => e = .returned (.bool true) ∧ Below w.heap.size w w' := by
  have F1 := Lib.hid (fewH p q hps hpq)
  have F2 := Lib.hid (fewH s r hss hsr)
  have hqm : q.size + 3 ≤ maxLen := by unfold maxLen; omega
  have hrm : r.size ≤ maxLen := by unfold maxLen; omega
  have HM := Lib.hid hm
  have HP := Lib.hid hp
  clear hpq hsr hm hp hps hss
  have C1 := Lib.hid fun w => code_okI q (n : Int) w hqm HP.out (by omega) (by omega)
  have C2 := Lib.hid fun w => code_okI q (f : Int) w hqm HP.out (by omega) (by omega)
  have P1 := parse_code q n HP.out hn
  have hz1 := codeB_size q n
  have hz2 := codeB_size q f
  have hinj : codeB q n = codeB q f ↔ n = f := ⟨codeB_inj HP.out hn hf, fun h => by rw [h]⟩
  have hzn : (codeB q n).toList.isEmpty = false := toList_ne _ (by omega)
  have S1 := Lib.hid fun w => spread_any q (n : Int) (f : Int) w (by omega)
  rw [spread_ok q n f HP.out hn hf hlt] at S1
  have S2 := pspread_back q n f HP.out hn hf hlt
  have hne : ((codeB q n).toList == (codeB q f).toList) = false := bytes_ne fun h => by have := hinj.1 h; omega
  have e0 : ((n : Int) == (f : Int)) = false := by rw [beq_eq_false_iff_ne]; omega
  have e1 : decide (n < f) = true := decide_eq_true hlt
  simp only [Int.toNat_natCast] at C1 C2
  have P1' : ∀ w, Calls Try.prog 17 #[.string (codeB q n)] w fun e w' => e = .returned (.tuple #[.string q, .int .i64 n, .int .i64 0]) ∧ Below w.heap.size w w' := by
    intro w
    have := parse_any (codeB q n) w (by omega)
    rw [P1] at this
    exact this
  have P1h := Lib.hid P1'
  clear P1 P1' hinj
  have P2' : ∀ w, MaxL w → Calls Try.prog 18 #[.string (codeB q n ++ ⟨#[45]⟩ ++ codeB q f)] w fun e w' => e = .returned (.tuple #[.string q, .int .i64 n, .int .i64 f, .int .i64 0]) ∧ Below w.heap.size w w' := by
    intro w hm
    have := pspread_any (codeB q n ++ ⟨#[45]⟩ ++ codeB q f) w (by rw [ByteArray.size_append, ByteArray.size_append]; have : ByteArray.size ⟨#[45]⟩ = 1 := rfl; omega) hm
    rw [S2] at this
    exact this
  have P2h := Lib.hid P2'
  clear S2 P2'
  generalize codeB q n = a at *
  generalize codeB q f = b at *
  obtain ⟨P, m, hP, hm2, hrP⟩ := hs
  have R1' : ∀ w, Calls Try.prog 17 #[.string r] w fun e w' => e = .returned (.tuple #[.string P, .int .i64 m, .int .i64 0]) ∧ Below w.heap.size w w' := by
    intro w
    have := parse_any r w hrm
    rw [hrP, parse_code P m hP hm2] at this
    rw [hrP]
    exact this
  have R1 := Lib.hid R1'
  have hPz : P.size + 3 ≤ maxLen := by have := codeB_size P m; rw [← hrP] at this; omega
  have R2' : ∀ w, Calls Try.prog 12 #[.string P, .int .i64 m] w fun e w' => e = .returned (.tuple #[.string r, .int .i64 0]) ∧ Below w.heap.size w w' := by
    intro w
    have := code_okI P (m : Int) w hPz hP (by omega) (by omega)
    rw [Int.toNat_natCast, ← hrP] at this
    exact this
  have R2 := Lib.hid R2'
  clear R1' R2' hrP hP
  rcases hk with rfl | rfl <;> rcases hl with rfl | rfl
  all_goals
    go_enter Try.func7, Try.ntmps7
    go_wp2_with fail
    refine (F1.out _).mono ?_
    rintro e w1 ⟨rfl, rfl⟩
    go_wp2_with fail
    refine (C1.out _).mono ?_
    rintro e w1 ⟨rfl, h1⟩
    go_wp2_with fail
    refine (product_any q _ (by omega)).mono ?_
    rintro e w2 ⟨rfl, h2⟩
    rw [HP.out]
    have k2 : Below w.heap.size w w2 := h1.trans (h2.mono h1.size)
    clear h1 h2
    go_wp2_with fail
    refine (P1h.out _).mono ?_
    rintro e w3 ⟨rfl, h3⟩
    have k3 : Below w.heap.size w w3 := k2.trans (h3.mono k2.size)
    clear h3 k2
    go_wp2_with fail
    refine (C2.out _).mono ?_
    rintro e w4 ⟨rfl, h4⟩
    have k4 : Below w.heap.size w w4 := k3.trans (h4.mono k3.size)
    clear h4 k3
    go_wp2_with fail
    refine (S1.out _).mono ?_
    rintro e w5 ⟨rfl, h5⟩
    have k5 : Below w.heap.size w w5 := k4.trans (h5.mono k4.size)
    clear h5 k4
    go_wp2_with fail
    refine (P2h.out _ (HM.out.below k5 HM.out.lt)).mono ?_
    rintro e w6 ⟨rfl, h6⟩
    have k6 : Below w.heap.size w w6 := k5.trans (h6.mono k5.size)
    clear h6 k5
    go_wp2_with fail
    refine (F2.out _).mono ?_
    rintro e wz ⟨rfl, rfl⟩
    go_wp2_with fail
    refine (R1.out _).mono ?_
    rintro e w7 ⟨rfl, h7⟩
    have k7 : Below w.heap.size w w7 := k6.trans (h7.mono k6.size)
    clear h7 k6
    go_wp2_with fail
    refine (R2.out _).mono ?_
    rintro e w8 ⟨rfl, h8⟩
    have k8 : Below w.heap.size w w8 := k7.trans (h8.mono k7.size)
    clear h8 k7
    go_wp2_with fail
    refine (known_any _).mono ?_
    rintro e w9 ⟨rfl, h9⟩
    have k9 : Below w.heap.size w w9 := k8.trans (h9.mono k8.size)
    clear h9 k8
    go_wp2_with fail
    go_ret
    exact ⟨by simp, k9⟩

set_option maxRecDepth 100000 in
set_option maxHeartbeats 2000000 in
theorem back_pn (p s q r : ByteArray) (near far : Int) (k l n f : Nat) (w : World) (hps : p.size ≤ maxLen) (hss : s.size ≤ maxLen) (hpq : fewS p = q) (hsr : fewS s = r)
    (hk : near = -(k : Int) - 1 ∨ near = (k : Int)) (hkm : (k : Int) ≤ 9223372036854775807) (hkn : (k : Int) % 1200 = (n : Int)) (hn : n ≤ 1199)
    (hl : far = -(l : Int) - 1 ∨ far = (l : Int)) (hlm : (l : Int) ≤ 9223372036854775807) (hlf : (l : Int) % 1200 = (f : Int)) (hf : f ≤ 1199)
    (hq : q.size ≤ 60) (hr : r.size ≤ 60) (hp : prodB q = true) (hlt :  n < f) (hs : parseS r = (⟨#[]⟩, 0, 12)) (hm : MaxL w) :
    Calls Try.prog 7 #[.string p, .int .i64 near, .int .i64 far, .string s] w fun e w' => e = .returned (.bool true) ∧ Below w.heap.size w w' := by
  have F1 := Lib.hid (fewH p q hps hpq)
  have F2 := Lib.hid (fewH s r hss hsr)
  have hqm : q.size + 3 ≤ maxLen := by unfold maxLen; omega
  have hrm : r.size ≤ maxLen := by unfold maxLen; omega
  have HM := Lib.hid hm
  have HP := Lib.hid hp
  clear hpq hsr hm hp hps hss
  have C1 := Lib.hid fun w => code_okI q (n : Int) w hqm HP.out (by omega) (by omega)
  have C2 := Lib.hid fun w => code_okI q (f : Int) w hqm HP.out (by omega) (by omega)
  have P1 := parse_code q n HP.out hn
  have hz1 := codeB_size q n
  have hz2 := codeB_size q f
  have hinj : codeB q n = codeB q f ↔ n = f := ⟨codeB_inj HP.out hn hf, fun h => by rw [h]⟩
  have hzn : (codeB q n).toList.isEmpty = false := toList_ne _ (by omega)
  have S1 := Lib.hid fun w => spread_any q (n : Int) (f : Int) w (by omega)
  rw [spread_ok q n f HP.out hn hf hlt] at S1
  have S2 := pspread_back q n f HP.out hn hf hlt
  have hne : ((codeB q n).toList == (codeB q f).toList) = false := bytes_ne fun h => by have := hinj.1 h; omega
  have e0 : ((n : Int) == (f : Int)) = false := by rw [beq_eq_false_iff_ne]; omega
  have e1 : decide (n < f) = true := decide_eq_true hlt
  simp only [Int.toNat_natCast] at C1 C2
  have P1' : ∀ w, Calls Try.prog 17 #[.string (codeB q n)] w fun e w' => e = .returned (.tuple #[.string q, .int .i64 n, .int .i64 0]) ∧ Below w.heap.size w w' := by
    intro w
    have := parse_any (codeB q n) w (by omega)
    rw [P1] at this
    exact this
  have P1h := Lib.hid P1'
  clear P1 P1' hinj
  have P2' : ∀ w, MaxL w → Calls Try.prog 18 #[.string (codeB q n ++ ⟨#[45]⟩ ++ codeB q f)] w fun e w' => e = .returned (.tuple #[.string q, .int .i64 n, .int .i64 f, .int .i64 0]) ∧ Below w.heap.size w w' := by
    intro w hm
    have := pspread_any (codeB q n ++ ⟨#[45]⟩ ++ codeB q f) w (by rw [ByteArray.size_append, ByteArray.size_append]; have : ByteArray.size ⟨#[45]⟩ = 1 := rfl; omega) hm
    rw [S2] at this
    exact this
  have P2h := Lib.hid P2'
  clear S2 P2'
  generalize codeB q n = a at *
  generalize codeB q f = b at *
  have R1' : ∀ w, Calls Try.prog 17 #[.string r] w fun e w' => e = .returned (.tuple #[.string ⟨#[]⟩, .int .i64 0, .int .i64 12]) ∧ Below w.heap.size w w' := by
    intro w
    have := parse_any r w hrm
    rw [hs] at this
    exact this
  have R1 := Lib.hid R1'
  clear R1' hs
  rcases hk with rfl | rfl <;> rcases hl with rfl | rfl
  all_goals
    go_enter Try.func7, Try.ntmps7
    go_wp2_with fail
    refine (F1.out _).mono ?_
    rintro e w1 ⟨rfl, rfl⟩
    go_wp2_with fail
    refine (C1.out _).mono ?_
    rintro e w1 ⟨rfl, h1⟩
    go_wp2_with fail
    refine (product_any q _ (by omega)).mono ?_
    rintro e w2 ⟨rfl, h2⟩
    rw [HP.out]
    have k2 : Below w.heap.size w w2 := h1.trans (h2.mono h1.size)
    clear h1 h2
    go_wp2_with fail
    refine (P1h.out _).mono ?_
    rintro e w3 ⟨rfl, h3⟩
    have k3 : Below w.heap.size w w3 := k2.trans (h3.mono k2.size)
    clear h3 k2
    go_wp2_with fail
    refine (C2.out _).mono ?_
    rintro e w4 ⟨rfl, h4⟩
    have k4 : Below w.heap.size w w4 := k3.trans (h4.mono k3.size)
    clear h4 k3
    go_wp2_with fail
    refine (S1.out _).mono ?_
    rintro e w5 ⟨rfl, h5⟩
    have k5 : Below w.heap.size w w5 := k4.trans (h5.mono k4.size)
    clear h5 k4
    go_wp2_with fail
    refine (P2h.out _ (HM.out.below k5 HM.out.lt)).mono ?_
    rintro e w6 ⟨rfl, h6⟩
    have k6 : Below w.heap.size w w6 := k5.trans (h6.mono k5.size)
    clear h6 k5
    go_wp2_with fail
    refine (F2.out _).mono ?_
    rintro e wz ⟨rfl, rfl⟩
    go_wp2_with fail
    refine (R1.out _).mono ?_
    rintro e w7 ⟨rfl, h7⟩
    have k7 : Below w.heap.size w w7 := k6.trans (h7.mono k6.size)
    clear h7 k6
    go_wp2_with fail
    refine (known_any _).mono ?_
    rintro e w8 ⟨rfl, h8⟩
    have k8 : Below w.heap.size w w8 := k7.trans (h8.mono k7.size)
    clear h8 k7
    go_wp2_with fail
    go_ret
    exact ⟨by simp, k8⟩

set_option maxRecDepth 100000 in
set_option maxHeartbeats 2000000 in
theorem back_ey (p s q r : ByteArray) (near far : Int) (k l n f : Nat) (w : World) (hps : p.size ≤ maxLen) (hss : s.size ≤ maxLen) (hpq : fewS p = q) (hsr : fewS s = r)
    (hk : near = -(k : Int) - 1 ∨ near = (k : Int)) (hkm : (k : Int) ≤ 9223372036854775807) (hkn : (k : Int) % 1200 = (n : Int)) (hn : n ≤ 1199)
    (hl : far = -(l : Int) - 1 ∨ far = (l : Int)) (hlm : (l : Int) ≤ 9223372036854775807) (hlf : (l : Int) % 1200 = (f : Int)) (hf : f ≤ 1199)
    (hq : q.size ≤ 60) (hr : r.size ≤ 60) (hp : prodB q = true) (hlt : ¬ n < f) (hs : ∃ (P : ByteArray) (m : Nat), prodB P = true ∧ m ≤ 1199 ∧ r = codeB P m) (hm : MaxL w) :
    Calls Try.prog 7 #[.string p, .int .i64 near, .int .i64 far, .string s] w fun e w' => e = .returned (.bool true) ∧ Below w.heap.size w w' := by
  have F1 := Lib.hid (fewH p q hps hpq)
  have F2 := Lib.hid (fewH s r hss hsr)
  have hqm : q.size + 3 ≤ maxLen := by unfold maxLen; omega
  have hrm : r.size ≤ maxLen := by unfold maxLen; omega
  have HM := Lib.hid hm
  have HP := Lib.hid hp
  clear hpq hsr hm hp hps hss
  have C1 := Lib.hid fun w => code_okI q (n : Int) w hqm HP.out (by omega) (by omega)
  have C2 := Lib.hid fun w => code_okI q (f : Int) w hqm HP.out (by omega) (by omega)
  have P1 := parse_code q n HP.out hn
  have hz1 := codeB_size q n
  have hz2 := codeB_size q f
  have hinj : codeB q n = codeB q f ↔ n = f := ⟨codeB_inj HP.out hn hf, fun h => by rw [h]⟩
  have hzn : (codeB q n).toList.isEmpty = false := toList_ne _ (by omega)
  have S1 := Lib.hid fun w => spread_any q (n : Int) (f : Int) w (by omega)
  rw [spread_bad q n f HP.out hn hf hlt] at S1
  obtain ⟨bq, hbq, hbq2⟩ : ∃ b : Bool, ((codeB q n).toList == (codeB q f).toList) = b ∧ ((n : Int) == (f : Int)) = b := by
    by_cases h : n = f
    · subst h; exact ⟨true, by simp, by simp⟩
    · exact ⟨false, bytes_ne fun x => h (hinj.1 x), by rw [beq_eq_false_iff_ne]; omega⟩
  have e1 : decide (n < f) = false := decide_eq_false hlt
  simp only [Int.toNat_natCast] at C1 C2
  have P1' : ∀ w, Calls Try.prog 17 #[.string (codeB q n)] w fun e w' => e = .returned (.tuple #[.string q, .int .i64 n, .int .i64 0]) ∧ Below w.heap.size w w' := by
    intro w
    have := parse_any (codeB q n) w (by omega)
    rw [P1] at this
    exact this
  have P1h := Lib.hid P1'
  clear P1 P1' hinj
  generalize codeB q n = a at *
  generalize codeB q f = b at *
  obtain ⟨P, m, hP, hm2, hrP⟩ := hs
  have R1' : ∀ w, Calls Try.prog 17 #[.string r] w fun e w' => e = .returned (.tuple #[.string P, .int .i64 m, .int .i64 0]) ∧ Below w.heap.size w w' := by
    intro w
    have := parse_any r w hrm
    rw [hrP, parse_code P m hP hm2] at this
    rw [hrP]
    exact this
  have R1 := Lib.hid R1'
  have hPz : P.size + 3 ≤ maxLen := by have := codeB_size P m; rw [← hrP] at this; omega
  have R2' : ∀ w, Calls Try.prog 12 #[.string P, .int .i64 m] w fun e w' => e = .returned (.tuple #[.string r, .int .i64 0]) ∧ Below w.heap.size w w' := by
    intro w
    have := code_okI P (m : Int) w hPz hP (by omega) (by omega)
    rw [Int.toNat_natCast, ← hrP] at this
    exact this
  have R2 := Lib.hid R2'
  clear R1' R2' hrP hP
  rcases hk with rfl | rfl <;> rcases hl with rfl | rfl
  all_goals
    go_enter Try.func7, Try.ntmps7
    go_wp2_with fail
    refine (F1.out _).mono ?_
    rintro e w1 ⟨rfl, rfl⟩
    go_wp2_with fail
    refine (C1.out _).mono ?_
    rintro e w1 ⟨rfl, h1⟩
    go_wp2_with fail
    refine (product_any q _ (by omega)).mono ?_
    rintro e w2 ⟨rfl, h2⟩
    rw [HP.out]
    have k2 : Below w.heap.size w w2 := h1.trans (h2.mono h1.size)
    clear h1 h2
    go_wp2_with fail
    refine (P1h.out _).mono ?_
    rintro e w3 ⟨rfl, h3⟩
    have k3 : Below w.heap.size w w3 := k2.trans (h3.mono k2.size)
    clear h3 k2
    go_wp2_with fail
    refine (C2.out _).mono ?_
    rintro e w4 ⟨rfl, h4⟩
    have k4 : Below w.heap.size w w4 := k3.trans (h4.mono k3.size)
    clear h4 k3
    go_wp2_with fail
    refine (S1.out _).mono ?_
    rintro e w5 ⟨rfl, h5⟩
    have k5 : Below w.heap.size w w5 := k4.trans (h5.mono k4.size)
    clear h5 k4
    go_wp2_with fail
    refine (F2.out _).mono ?_
    rintro e wz ⟨rfl, rfl⟩
    go_wp2_with fail
    refine (R1.out _).mono ?_
    rintro e w6 ⟨rfl, h6⟩
    have k6 : Below w.heap.size w w6 := k5.trans (h6.mono k5.size)
    clear h6 k5
    go_wp2_with fail
    refine (R2.out _).mono ?_
    rintro e w7 ⟨rfl, h7⟩
    have k7 : Below w.heap.size w w7 := k6.trans (h7.mono k6.size)
    clear h7 k6
    go_wp2_with fail
    refine (known_any _).mono ?_
    rintro e w8 ⟨rfl, h8⟩
    have k8 : Below w.heap.size w w8 := k7.trans (h8.mono k7.size)
    clear h8 k7
    go_wp2_with fail
    go_ret
    exact ⟨by simp, k8⟩

set_option maxRecDepth 100000 in
set_option maxHeartbeats 2000000 in
theorem back_en (p s q r : ByteArray) (near far : Int) (k l n f : Nat) (w : World) (hps : p.size ≤ maxLen) (hss : s.size ≤ maxLen) (hpq : fewS p = q) (hsr : fewS s = r)
    (hk : near = -(k : Int) - 1 ∨ near = (k : Int)) (hkm : (k : Int) ≤ 9223372036854775807) (hkn : (k : Int) % 1200 = (n : Int)) (hn : n ≤ 1199)
    (hl : far = -(l : Int) - 1 ∨ far = (l : Int)) (hlm : (l : Int) ≤ 9223372036854775807) (hlf : (l : Int) % 1200 = (f : Int)) (hf : f ≤ 1199)
    (hq : q.size ≤ 60) (hr : r.size ≤ 60) (hp : prodB q = true) (hlt : ¬ n < f) (hs : parseS r = (⟨#[]⟩, 0, 12)) (hm : MaxL w) :
    Calls Try.prog 7 #[.string p, .int .i64 near, .int .i64 far, .string s] w fun e w' => e = .returned (.bool true) ∧ Below w.heap.size w w' := by
  have F1 := Lib.hid (fewH p q hps hpq)
  have F2 := Lib.hid (fewH s r hss hsr)
  have hqm : q.size + 3 ≤ maxLen := by unfold maxLen; omega
  have hrm : r.size ≤ maxLen := by unfold maxLen; omega
  have HM := Lib.hid hm
  have HP := Lib.hid hp
  clear hpq hsr hm hp hps hss
  have C1 := Lib.hid fun w => code_okI q (n : Int) w hqm HP.out (by omega) (by omega)
  have C2 := Lib.hid fun w => code_okI q (f : Int) w hqm HP.out (by omega) (by omega)
  have P1 := parse_code q n HP.out hn
  have hz1 := codeB_size q n
  have hz2 := codeB_size q f
  have hinj : codeB q n = codeB q f ↔ n = f := ⟨codeB_inj HP.out hn hf, fun h => by rw [h]⟩
  have hzn : (codeB q n).toList.isEmpty = false := toList_ne _ (by omega)
  have S1 := Lib.hid fun w => spread_any q (n : Int) (f : Int) w (by omega)
  rw [spread_bad q n f HP.out hn hf hlt] at S1
  obtain ⟨bq, hbq, hbq2⟩ : ∃ b : Bool, ((codeB q n).toList == (codeB q f).toList) = b ∧ ((n : Int) == (f : Int)) = b := by
    by_cases h : n = f
    · subst h; exact ⟨true, by simp, by simp⟩
    · exact ⟨false, bytes_ne fun x => h (hinj.1 x), by rw [beq_eq_false_iff_ne]; omega⟩
  have e1 : decide (n < f) = false := decide_eq_false hlt
  simp only [Int.toNat_natCast] at C1 C2
  have P1' : ∀ w, Calls Try.prog 17 #[.string (codeB q n)] w fun e w' => e = .returned (.tuple #[.string q, .int .i64 n, .int .i64 0]) ∧ Below w.heap.size w w' := by
    intro w
    have := parse_any (codeB q n) w (by omega)
    rw [P1] at this
    exact this
  have P1h := Lib.hid P1'
  clear P1 P1' hinj
  generalize codeB q n = a at *
  generalize codeB q f = b at *
  have R1' : ∀ w, Calls Try.prog 17 #[.string r] w fun e w' => e = .returned (.tuple #[.string ⟨#[]⟩, .int .i64 0, .int .i64 12]) ∧ Below w.heap.size w w' := by
    intro w
    have := parse_any r w hrm
    rw [hs] at this
    exact this
  have R1 := Lib.hid R1'
  clear R1' hs
  rcases hk with rfl | rfl <;> rcases hl with rfl | rfl
  all_goals
    go_enter Try.func7, Try.ntmps7
    go_wp2_with fail
    refine (F1.out _).mono ?_
    rintro e w1 ⟨rfl, rfl⟩
    go_wp2_with fail
    refine (C1.out _).mono ?_
    rintro e w1 ⟨rfl, h1⟩
    go_wp2_with fail
    refine (product_any q _ (by omega)).mono ?_
    rintro e w2 ⟨rfl, h2⟩
    rw [HP.out]
    have k2 : Below w.heap.size w w2 := h1.trans (h2.mono h1.size)
    clear h1 h2
    go_wp2_with fail
    refine (P1h.out _).mono ?_
    rintro e w3 ⟨rfl, h3⟩
    have k3 : Below w.heap.size w w3 := k2.trans (h3.mono k2.size)
    clear h3 k2
    go_wp2_with fail
    refine (C2.out _).mono ?_
    rintro e w4 ⟨rfl, h4⟩
    have k4 : Below w.heap.size w w4 := k3.trans (h4.mono k3.size)
    clear h4 k3
    go_wp2_with fail
    refine (S1.out _).mono ?_
    rintro e w5 ⟨rfl, h5⟩
    have k5 : Below w.heap.size w w5 := k4.trans (h5.mono k4.size)
    clear h5 k4
    go_wp2_with fail
    refine (F2.out _).mono ?_
    rintro e wz ⟨rfl, rfl⟩
    go_wp2_with fail
    refine (R1.out _).mono ?_
    rintro e w6 ⟨rfl, h6⟩
    have k6 : Below w.heap.size w w6 := k5.trans (h6.mono k5.size)
    clear h6 k5
    go_wp2_with fail
    refine (known_any _).mono ?_
    rintro e w7 ⟨rfl, h7⟩
    have k7 : Below w.heap.size w w7 := k6.trans (h7.mono k6.size)
    clear h7 k6
    go_wp2_with fail
    go_ret
    exact ⟨by simp, k7⟩

theorem back_any (p : ByteArray) (near far : Int) (s : ByteArray) (w : World) (hp : p.size ≤ maxLen) (hn0 : -9223372036854775808 ≤ near) (hn1 : near ≤ 9223372036854775807) (hf0 : -9223372036854775808 ≤ far) (hf1 : far ≤ 9223372036854775807) (hs : s.size ≤ maxLen) (hm : MaxL w) :
    Calls Try.prog 7 #[.string p, .int .i64 near, .int .i64 far, .string s] w fun e w' => e = .returned (.bool true) ∧ Below w.heap.size w w' := by
  obtain ⟨k, n, hk, hkm, hkn, hn⟩ := fold_month near hn0 hn1
  obtain ⟨l, f, hl, hlm, hlf, hf⟩ := fold_month far hf0 hf1
  rcases parse_inv (fewS s) with hr | ⟨P, m, hP, hm2, hr, _⟩
  · cases hq : prodB (fewS p) with
    | false => exact back_nn p s _ _ near far k l n f w hp hs rfl rfl hk hkm hkn hn hl hlm hlf hf (fewS_le p) (fewS_le s) hq hr hm
    | true =>
      by_cases hlt : n < f
      · exact back_pn p s _ _ near far k l n f w hp hs rfl rfl hk hkm hkn hn hl hlm hlf hf (fewS_le p) (fewS_le s) hq hlt hr hm
      · exact back_en p s _ _ near far k l n f w hp hs rfl rfl hk hkm hkn hn hl hlm hlf hf (fewS_le p) (fewS_le s) hq hlt hr hm
  · cases hq : prodB (fewS p) with
    | false => exact back_ny p s _ _ near far k l n f w hp hs rfl rfl hk hkm hkn hn hl hlm hlf hf (fewS_le p) (fewS_le s) hq ⟨P, m, hP, hm2, hr⟩ hm
    | true =>
      by_cases hlt : n < f
      · exact back_py p s _ _ near far k l n f w hp hs rfl rfl hk hkm hkn hn hl hlm hlf hf (fewS_le p) (fewS_le s) hq hlt ⟨P, m, hP, hm2, hr⟩ hm
      · exact back_ey p s _ _ near far k l n f w hp hs rfl rfl hk hkm hkn hn hl hlm hlf hf (fewS_le p) (fewS_le s) hq hlt ⟨P, m, hP, hm2, hr⟩ hm
end Go.Proofs.Ytjkdhldhmdfhkaa
