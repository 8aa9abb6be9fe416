/- The walk of the document's Parse. -/
import Derived.Test.YtjkdhldhmdfhkaaRef
namespace Go.Proofs.Ytjkdhldhmdfhkaa
open Go.RowKit

set_option maxRecDepth 100000 in
set_option maxHeartbeats 2000000 in
theorem rparse_ok (s : ByteArray) (w : World) (hs : s.size ≤ maxLen) (h4 : ¬ s.size < 4) (hok' : ∀ (P : ByteArray) (a b c : UInt8), s = P ++ three a b c → prodB P = true ∧ (48 ≤ b.toNat ∧ b.toNat ≤ 57) ∧ (48 ≤ c.toNat ∧ c.toNat ≤ 57)) :
    Calls Try.prog 21 #[.string s] w fun e w' => e = .returned (.tuple #[.string (parseS s).1, .int .i64 (parseS s).2.1, .int .i64 (parseS s).2.2]) ∧ Below w.heap.size w w' := by
  obtain ⟨P, a, b, c, HS, hP, hz, hga, hgb, hgc⟩ := three_facts s (by omega)
  have hs9 : s.size ≤ 9223372036854775807 := by unfold maxLen at hs; omega
  have hPm : P.size ≤ maxLen := by omega
  have h3 : (3 : Int) ≤ (s.size : Int) := by omega
  have h4' : decide ((s.size : Int) < 4) = false := decide_eq_false (by omega)
  have hb256 := b.toNat_lt
  have hc256 := c.toNat_lt
  have hga' := hga (by omega)
  have hgb' := hgb (by omega)
  have hgc' := hgc (by omega)
  have i1 : (0 : Int) ≤ (s.size : Int) - 1 ∧ (s.size : Int) - 1 < (s.size : Int) := by omega
  have i2 : (0 : Int) ≤ (s.size : Int) - 2 ∧ (s.size : Int) - 2 < (s.size : Int) := by omega
  have i3 : (0 : Int) ≤ (s.size : Int) - 3 ∧ (s.size : Int) - 3 < (s.size : Int) := by omega
  have hok := hok' P a b c HS.out
  clear hok'
  obtain ⟨hp, ⟨hbl, hbh⟩, hc1, hc2⟩ := hok
  have HP := Lib.hid hp
  clear hp
  have c1 : decide (c.toNat < 48) = false := decide_eq_false (by omega)
  have c2 : decide (57 < c.toNat) = false := decide_eq_false (by omega)
  have c3 : decide (b.toNat < 48) = false := decide_eq_false (by omega)
  have c4 : decide (57 < b.toNat) = false := decide_eq_false (by omega)
  go_enter Try.func21, Try.ntmps21
  go_wp2_with (go_at_call 20; refine (rproduct_any _ _ hPm).mono ?_; rintro e w1 ⟨rfl, hb1⟩; rw [HP.out])
  go_loopw [6] (fun i w' => ∃ k : Nat, i = .int .i64 k ∧ k ≤ 12 ∧ (∀ j, j < k → letterB.getD j 0 ≠ a) ∧ Below w1.heap.size w1 w') (fun i _ => 12 - (intOf i).toNat)
  case atStart => exact ⟨0, rfl, by omega, fun j hj => by omega, Below.refl _ _⟩
  case round =>
    obtain ⟨k, rfl, hk, hno, hbw⟩ := hrel
    have HNO := Lib.hid hno
    clear hno
    by_cases hlt : k < 12
    · obtain ⟨l, HL, hl'⟩ := letter_at k hlt
      have hl := hl' (by show k < 12; exact hlt)
      have k1 : (k : Int) < 12 := by omega
      by_cases hla : l = a
      · subst hla
        have e8 : UInt8.ofNat l.toNat = l := by simp
        have HR : Hid (parseS s = (s.extract 0 (s.size - 3), 12 * (10 * ((b.toNat : Int) - 48) + ((c.toNat : Int) - 48)) + (k : Int), 0)) := by
          rw [hP]
          rw [HS.out]
          exact parse_yes P l b c k (by rw [← e8]; exact index_first k hlt _ l.toNat_lt (by rw [e8]; exact HL.out)) HP.out ⟨by omega, by omega⟩ ⟨by omega, by omega⟩
        clear e8
        go_wp2_with fail
        go_quiet (fail)
        go_wp2_with fail
        go_quiet (fail)
        go_wp2
        go_ret3
        rw [HR.out]
        exact ⟨rfl, hb1.trans (below_drewN (below_drewN (hbw.mono hb1.size) _) _)⟩
      · have hne : ((l.toNat : Int) == (a.toNat : Int)) = false := by
          rw [beq_eq_false_iff_ne]
          intro h
          exact hla (UInt8.toNat_inj.1 (by omega))
        go_wp2_with fail
        go_quiet (fail)
        go_wp2
        go_roundw
        case rel => exact ⟨k + 1, by go_num, by omega, no_next HNO.out (by rw [HL.out]; exact hla), below_drewN hbw _⟩
        case measure => simp [intOf]; omega
    · have HR : Hid (parseS s = (⟨#[]⟩, 0, 12)) := by
        rw [HS.out]
        exact parse_not P a b c fun ⟨_, y, _⟩ => index_never a (fun i hi => HNO.out i (by omega)) y
      go_wp2
      go_ret3
      rw [HR.out]
      exact ⟨rfl, hb1.trans (hbw.mono hb1.size)⟩

set_option maxRecDepth 100000 in
set_option maxHeartbeats 2000000 in
theorem rparse_any (s : ByteArray) (w : World) (hs : s.size ≤ maxLen) :
    Calls Try.prog 21 #[.string s] w fun e w' => e = .returned (.tuple #[.string (parseS s).1, .int .i64 (parseS s).2.1, .int .i64 (parseS s).2.2]) ∧ Below w.heap.size w w' := by
  by_cases h4 : s.size < 4
  · have HR := Lib.hid (parse_short s h4)
    have h4' : decide ((s.size : Int) < 4) = true := decide_eq_true (by omega)
    go_enter Try.func21, Try.ntmps21
    go_wp2
    go_ret3
    rw [HR.out]
    exact ⟨rfl, Below.refl _ _⟩
  · obtain ⟨P, a, b, c, HS, hP, hz, hga, hgb, hgc⟩ := three_facts s (by omega)
    have hs9 : s.size ≤ 9223372036854775807 := by unfold maxLen at hs; omega
    have hPm : P.size ≤ maxLen := by omega
    have h3 : (3 : Int) ≤ (s.size : Int) := by omega
    have h4' : decide ((s.size : Int) < 4) = false := decide_eq_false (by omega)
    have hb256 := b.toNat_lt
    have hc256 := c.toNat_lt
    have hga' := hga (by omega)
    have hgb' := hgb (by omega)
    have hgc' := hgc (by omega)
    have i1 : (0 : Int) ≤ (s.size : Int) - 1 ∧ (s.size : Int) - 1 < (s.size : Int) := by omega
    have i2 : (0 : Int) ≤ (s.size : Int) - 2 ∧ (s.size : Int) - 2 < (s.size : Int) := by omega
    have i3 : (0 : Int) ≤ (s.size : Int) - 3 ∧ (s.size : Int) - 3 < (s.size : Int) := by omega
    by_cases hok : prodB P = true ∧ (48 ≤ b.toNat ∧ b.toNat ≤ 57) ∧ (48 ≤ c.toNat ∧ c.toNat ≤ 57)
    · exact rparse_ok s w hs h4 fun Q x y z he => by
        rw [HS.out] at he
        obtain ⟨rfl, rfl, rfl, rfl⟩ := three_inj he
        exact hok
    · have HR : Hid (parseS s = (⟨#[]⟩, 0, 12)) := by
        rw [HS.out]
        exact parse_not P a b c fun ⟨x, _, y, z⟩ => hok ⟨x, y, z⟩
      rcases Nat.lt_or_ge c.toNat 48 with hc | hc
      · clear hok
        go_enter Try.func21, Try.ntmps21
        go_wp2
        go_ret3
        rw [HR.out]
        exact ⟨rfl, Below.refl _ _⟩
      · rcases Nat.lt_or_ge 57 c.toNat with hc2 | hc2
        · clear hok
          go_enter Try.func21, Try.ntmps21
          go_wp2
          go_ret3
          rw [HR.out]
          exact ⟨rfl, Below.refl _ _⟩
        · rcases Nat.lt_or_ge b.toNat 48 with hb | hb
          · clear hok
            go_enter Try.func21, Try.ntmps21
            go_wp2
            go_ret3
            rw [HR.out]
            exact ⟨rfl, Below.refl _ _⟩
          · rcases Nat.lt_or_ge 57 b.toNat with hb2 | hb2
            · clear hok
              go_enter Try.func21, Try.ntmps21
              go_wp2
              go_ret3
              rw [HR.out]
              exact ⟨rfl, Below.refl _ _⟩
            · have HP : Hid (prodB P = false) := by
                cases hp : prodB P with
                | false => rfl
                | true => exact absurd ⟨hp, ⟨hb, hb2⟩, hc, hc2⟩ hok
              clear hok
              go_enter Try.func21, Try.ntmps21
              go_wp2_with (go_at_call 20; refine (rproduct_any _ _ hPm).mono ?_; rintro e w1 ⟨rfl, hb1⟩; rw [HP.out])
              go_ret3
              rw [HR.out]
              exact ⟨rfl, hb1⟩

end Go.Proofs.Ytjkdhldhmdfhkaa
