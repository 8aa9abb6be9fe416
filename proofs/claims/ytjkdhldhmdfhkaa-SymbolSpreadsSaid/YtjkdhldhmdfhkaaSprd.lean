/- The walk of cornhilllaw3.SymbolSpreads, a theorem for each way. -/
import Derived.Test.YtjkdhldhmdfhkaaBack
namespace Go.Proofs.Ytjkdhldhmdfhkaa
open Go.RowKit

set_option maxRecDepth 100000 in
set_option maxHeartbeats 2000000 in
theorem sprd_n (p q : ByteArray) (near far : Int) (k l n f : Nat) (w : World) (hps : p.size ≤ maxLen) (hpq : fewS p = q)
    (hk : near = -(k : Int) - 1 ∨ near = (k : Int)) (hkm : (k : Int) ≤ 9223372036854775807) (hkn : (k : Int) % 1200 = (n : Int)) (_hn : n ≤ 1199)
    (hl : far = -(l : Int) - 1 ∨ far = (l : Int)) (hlm : (l : Int) ≤ 9223372036854775807) (hlf : (l : Int) % 1200 = (f : Int)) (_hf : f ≤ 1199)
    (hq : q.size ≤ 60) (hp : prodB q = false)  :
    Calls Try.prog 8 #[.string p, .int .i64 near, .int .i64 far] w fun e w' => e = .returned (.bool true) ∧ Below w.heap.size w w' := by
  have F1 := Lib.hid (fewH p q hps hpq)
  have hqm : q.size + 3 ≤ maxLen := by unfold maxLen; omega
  have HP := Lib.hid hp
  clear hpq hp hps
  have C1 := Lib.hid fun w => code_bad q (n : Int) w (by omega) HP.out
  have C2 := Lib.hid fun w => code_bad q (f : Int) w (by omega) HP.out
  have S1 := Lib.hid fun w => spread_any q (n : Int) (f : Int) w (by omega)
  rw [spread_form q n f HP.out] at S1
  rcases hk with rfl | rfl <;> rcases hl with rfl | rfl
  all_goals
    go_enter Try.func8, Try.ntmps8
    go_wp2_with fail
    refine (F1.out _).mono ?_
    rintro e w1 ⟨rfl, rfl⟩
    go_wp2_with fail
    refine (C1.out _).mono ?_
    rintro e w2 ⟨rfl, k2⟩
    go_wp2_with fail
    refine (C2.out _).mono ?_
    rintro e w3 ⟨rfl, h3⟩
    have k3 : Below w.heap.size w w3 := k2.trans (h3.mono k2.size)
    clear h3 k2
    go_wp2_with fail
    refine (S1.out _).mono ?_
    rintro e w4 ⟨rfl, h4⟩
    have k4 : Below w.heap.size w w4 := k3.trans (h4.mono k3.size)
    clear h4 k3
    go_wp2_with fail
    refine (known_any _).mono ?_
    rintro e w5 ⟨rfl, h5⟩
    have k5 : Below w.heap.size w w5 := k4.trans (h5.mono k4.size)
    clear h5 k4
    go_wp2_with fail
    go_ret
    exact ⟨by simp, k5⟩

set_option maxRecDepth 100000 in
set_option maxHeartbeats 2000000 in
theorem sprd_p (p q : ByteArray) (near far : Int) (k l n f : Nat) (w : World) (hps : p.size ≤ maxLen) (hpq : fewS p = q)
    (hk : near = -(k : Int) - 1 ∨ near = (k : Int)) (hkm : (k : Int) ≤ 9223372036854775807) (hkn : (k : Int) % 1200 = (n : Int)) (hn : n ≤ 1199)
    (hl : far = -(l : Int) - 1 ∨ far = (l : Int)) (hlm : (l : Int) ≤ 9223372036854775807) (hlf : (l : Int) % 1200 = (f : Int)) (hf : f ≤ 1199)
    (hq : q.size ≤ 60) (hp : prodB q = true) (hlt :  n < f) (hm : MaxL w) :
    Calls Try.prog 8 #[.string p, .int .i64 near, .int .i64 far] w fun e w' => e = .returned (.bool true) ∧ Below w.heap.size w w' := by
  have F1 := Lib.hid (fewH p q hps hpq)
  have hqm : q.size + 3 ≤ maxLen := by unfold maxLen; omega
  have HP := Lib.hid hp
  clear hpq hp hps
  have C1 := Lib.hid fun w => code_okI q (n : Int) w hqm HP.out (by omega) (by omega)
  have C2 := Lib.hid fun w => code_okI q (f : Int) w hqm HP.out (by omega) (by omega)
  simp only [Int.toNat_natCast] at C1 C2
  have hz1 := codeB_size q n
  have hz2 := codeB_size q f
  have S1 := Lib.hid fun w => spread_any q (n : Int) (f : Int) w (by omega)
  rw [spread_ok q n f HP.out hn hf hlt] at S1
  have HM := Lib.hid hm
  clear hm
  have A1 : ∀ w, Calls Try.prog 17 #[.string (codeB q n ++ ⟨#[45]⟩ ++ codeB q f)] w fun e w' => e = .returned (.tuple #[.string ⟨#[]⟩, .int .i64 0, .int .i64 12]) ∧ Below w.heap.size w w' := by
    intro w
    have := parse_any (codeB q n ++ ⟨#[45]⟩ ++ codeB q f) w (by unfold maxLen; rw [ByteArray.size_append, ByteArray.size_append]; have : ByteArray.size ⟨#[45]⟩ = 1 := rfl; omega)
    rw [parse_stroke] at this
    exact this
  have A2 : ∀ w, MaxL w → Calls Try.prog 18 #[.string (codeB q n)] w fun e w' => e = .returned (.tuple #[.string ⟨#[]⟩, .int .i64 0, .int .i64 0, .int .i64 12]) ∧ Below w.heap.size w w' := by
    intro w hm
    have := pspread_any (codeB q n) w (by omega) hm
    rw [pspread_code q n HP.out hn] at this
    exact this
  have A3 : ∀ w, MaxL w → Calls Try.prog 18 #[.string (codeB q f ++ ⟨#[45]⟩ ++ codeB q n)] w fun e w' => e = .returned (.tuple #[.string ⟨#[]⟩, .int .i64 0, .int .i64 0, .int .i64 12]) ∧ Below w.heap.size w w' := by
    intro w hm
    have := pspread_any (codeB q f ++ ⟨#[45]⟩ ++ codeB q n) w (by rw [ByteArray.size_append, ByteArray.size_append]; have : ByteArray.size ⟨#[45]⟩ = 1 := rfl; omega) hm
    rw [pspread_turned q f n HP.out hf hn (by omega)] at this
    exact this
  have A4 : ∀ w, MaxL w → Calls Try.prog 18 #[.string (codeB q n ++ ⟨#[45]⟩ ++ codeB q f)] w fun e w' => e = .returned (.tuple #[.string q, .int .i64 n, .int .i64 f, .int .i64 0]) ∧ Below w.heap.size w w' := by
    intro w hm
    have := pspread_any (codeB q n ++ ⟨#[45]⟩ ++ codeB q f) w (by rw [ByteArray.size_append, ByteArray.size_append]; have : ByteArray.size ⟨#[45]⟩ = 1 := rfl; omega) hm
    rw [pspread_back q n f HP.out hn hf hlt] at this
    exact this
  have B1 := Lib.hid A1
  have B2 := Lib.hid A2
  have B3 := Lib.hid A3
  have B4 := Lib.hid A4
  clear A1 A2 A3 A4
  generalize codeB q n = a at *
  generalize codeB q f = b at *
  rcases hk with rfl | rfl <;> rcases hl with rfl | rfl
  all_goals
    go_enter Try.func8, Try.ntmps8
    go_wp2_with fail
    refine (F1.out _).mono ?_
    rintro e w1 ⟨rfl, rfl⟩
    go_wp2_with fail
    refine (C1.out _).mono ?_
    rintro e w2 ⟨rfl, k2⟩
    go_wp2_with fail
    refine (C2.out _).mono ?_
    rintro e w3 ⟨rfl, h3⟩
    have k3 : Below w.heap.size w w3 := k2.trans (h3.mono k2.size)
    clear h3 k2
    go_wp2_with fail
    refine (S1.out _).mono ?_
    rintro e w4 ⟨rfl, h4⟩
    have k4 : Below w.heap.size w w4 := k3.trans (h4.mono k3.size)
    clear h4 k3
    go_wp2_with fail
    refine (B1.out _).mono ?_
    rintro e w5 ⟨rfl, h5⟩
    have k5 : Below w.heap.size w w5 := k4.trans (h5.mono k4.size)
    clear h5 k4
    go_wp2_with fail
    refine (B2.out _ (HM.out.below k5 HM.out.lt)).mono ?_
    rintro e w6 ⟨rfl, h6⟩
    have k6 : Below w.heap.size w w6 := k5.trans (h6.mono k5.size)
    clear h6 k5
    go_wp2_with fail
    refine (B3.out _ (HM.out.below k6 HM.out.lt)).mono ?_
    rintro e w7 ⟨rfl, h7⟩
    have k7 : Below w.heap.size w w7 := k6.trans (h7.mono k6.size)
    clear h7 k6
    go_wp2_with fail
    refine (B4.out _ (HM.out.below k7 HM.out.lt)).mono ?_
    rintro e w8 ⟨rfl, h8⟩
    have k8 : Below w.heap.size w w8 := k7.trans (h8.mono k7.size)
    clear h8 k7
    go_wp2_with fail
    refine (known_any _).mono ?_
    rintro e w9 ⟨rfl, h9⟩
    have k9 : Below w.heap.size w w9 := k8.trans (h9.mono k8.size)
    clear h9 k8
    go_wp2_with fail
    go_ret
    exact ⟨by simp, k9⟩

set_option maxRecDepth 100000 in
set_option maxHeartbeats 2000000 in
theorem sprd_e (p q : ByteArray) (near far : Int) (k l n f : Nat) (w : World) (hps : p.size ≤ maxLen) (hpq : fewS p = q)
    (hk : near = -(k : Int) - 1 ∨ near = (k : Int)) (hkm : (k : Int) ≤ 9223372036854775807) (hkn : (k : Int) % 1200 = (n : Int)) (hn : n ≤ 1199)
    (hl : far = -(l : Int) - 1 ∨ far = (l : Int)) (hlm : (l : Int) ≤ 9223372036854775807) (hlf : (l : Int) % 1200 = (f : Int)) (hf : f ≤ 1199)
    (hq : q.size ≤ 60) (hp : prodB q = true) (hlt : ¬ n < f)  :
    Calls Try.prog 8 #[.string p, .int .i64 near, .int .i64 far] w fun e w' => e = .returned (.bool true) ∧ Below w.heap.size w w' := by
  have F1 := Lib.hid (fewH p q hps hpq)
  have hqm : q.size + 3 ≤ maxLen := by unfold maxLen; omega
  have HP := Lib.hid hp
  clear hpq hp hps
  have C1 := Lib.hid fun w => code_okI q (n : Int) w hqm HP.out (by omega) (by omega)
  have C2 := Lib.hid fun w => code_okI q (f : Int) w hqm HP.out (by omega) (by omega)
  simp only [Int.toNat_natCast] at C1 C2
  have hz1 := codeB_size q n
  have hz2 := codeB_size q f
  have S1 := Lib.hid fun w => spread_any q (n : Int) (f : Int) w (by omega)
  rw [spread_bad q n f HP.out hn hf hlt] at S1
  generalize codeB q n = a at *
  generalize codeB q f = b at *
  rcases hk with rfl | rfl <;> rcases hl with rfl | rfl
  all_goals
    go_enter Try.func8, Try.ntmps8
    go_wp2_with fail
    refine (F1.out _).mono ?_
    rintro e w1 ⟨rfl, rfl⟩
    go_wp2_with fail
    refine (C1.out _).mono ?_
    rintro e w2 ⟨rfl, k2⟩
    go_wp2_with fail
    refine (C2.out _).mono ?_
    rintro e w3 ⟨rfl, h3⟩
    have k3 : Below w.heap.size w w3 := k2.trans (h3.mono k2.size)
    clear h3 k2
    go_wp2_with fail
    refine (S1.out _).mono ?_
    rintro e w4 ⟨rfl, h4⟩
    have k4 : Below w.heap.size w w4 := k3.trans (h4.mono k3.size)
    clear h4 k3
    go_wp2_with fail
    refine (known_any _).mono ?_
    rintro e w5 ⟨rfl, h5⟩
    have k5 : Below w.heap.size w w5 := k4.trans (h5.mono k4.size)
    clear h5 k4
    go_wp2_with fail
    go_ret
    exact ⟨by simp, k5⟩

theorem sprd_any (p : ByteArray) (near far : Int) (w : World) (hp : p.size ≤ maxLen) (hn0 : -9223372036854775808 ≤ near) (hn1 : near ≤ 9223372036854775807) (hf0 : -9223372036854775808 ≤ far) (hf1 : far ≤ 9223372036854775807) (hm : MaxL w) :
    Calls Try.prog 8 #[.string p, .int .i64 near, .int .i64 far] w fun e w' => e = .returned (.bool true) ∧ Below w.heap.size w w' := by
  obtain ⟨k, n, hk, hkm, hkn, hn⟩ := fold_month near hn0 hn1
  obtain ⟨l, f, hl, hlm, hlf, hf⟩ := fold_month far hf0 hf1
  cases hq : prodB (fewS p) with
  | false => exact sprd_n p _ near far k l n f w hp rfl hk hkm hkn hn hl hlm hlf hf (fewS_le p) hq
  | true =>
    by_cases hlt : n < f
    · exact sprd_p p _ near far k l n f w hp rfl hk hkm hkn hn hl hlm hlf hf (fewS_le p) hq hlt hm
    · exact sprd_e p _ near far k l n f w hp rfl hk hkm hkn hn hl hlm hlf hf (fewS_le p) hq hlt
end Go.Proofs.Ytjkdhldhmdfhkaa
