/- The walk of cornhilllaw9.BookNumbers. -/
import Derived.Test.YtmhljdkhekjfmaaL94
import Derived.Test.YtmhljdkhekjfmaaL93
import Derived.Test.YtmhljdkhekjfmaaMG
namespace Go.Proofs.Ytmhljdkhekjfmaa
open Go.RowKit

def asksN : List Ak := [⟨1, 0, 1, 5, 5⟩, ⟨1, 3, 1, 5, 5⟩, ⟨1, 1, 1, 5, 0⟩, ⟨1, 1, 1, 5, 1000001⟩, ⟨1, 1, 1, 5, 10⟩, ⟨1, 2, 1, 9, 10⟩, ⟨1, 1, 2, 4, 10⟩, ⟨1, 1, 3, 5, 10⟩, ⟨1, 2, 4, 9, 10⟩, ⟨1, 2, 5, 9, 10⟩, ⟨1, 2, 6, 8, 10⟩, ⟨1, 2, 7, -9223372036854775808, 10⟩, ⟨2, 0, 7, 0, 3⟩, ⟨2, 0, 9, 0, 3⟩, ⟨2, 0, 1, 0, 11⟩, ⟨2, 0, 1, 0, 0⟩, ⟨2, 0, 1, 0, 10⟩, ⟨1, 1, 8, 5, 1⟩, ⟨1, 1, 9, 6, 1⟩, ⟨2, 0, 9, 0, 1⟩, ⟨2, 0, 7, 0, 7⟩, ⟨2, 0, 6, 0, 10⟩, ⟨1, 2, 10, 8, 1⟩, ⟨2, 0, 4, 0, 1⟩, ⟨1, 1, 11, 9223372036854775807, 1⟩, ⟨1, 0, 4, 5, 0⟩]
def asksC : Array Value := (asksN.flatMap Ak.cells).toArray
theorem asks_at {w : World} {ab : Nat} (h : Blk w ab 28 asksC) {k : Nat} {x : Ak} (hx : asksN[k]? = some x) : CellsAt w ab (k * 5) x.cells := by
  have hl := lt_of_get hx
  obtain ⟨_, he⟩ := get_of hx
  intro i u hu
  have hi : i < 5 := by have := lt_of_get hu; exact this
  rw [h.cell]
  unfold asksC
  rw [List.getElem?_toArray, fm_get Ak.cells 5 (fun _ => rfl) asksN k i hl hi, he]
  exact hu
def LN (k : Nat) : List Od := (asksN.take k).foldl (fun L x => doL L x.kind x.side x.id x.price x.qty) []
theorem LN_next {k : Nat} {x : Ak} (h : asksN[k]? = some x) : LN (k + 1) = doL (LN k) x.kind x.side x.id x.price x.qty := by
  unfold LN
  rw [take_next h, List.foldl_append]
  rfl
theorem LN_ids : (LN 26).all (fun o => decide (o.id < 20)) = true := by decide +kernel
theorem LN_len : (LN 26).length ≤ 20 := by decide +kernel
structure NInv (L : List Od) (i : Nat) : Prop where
  len : L.length + 20 = (LN 26).length + i
  le : L.length ≤ 250
  ids : ∀ o ∈ L, o.id < i
  has : 20 < i → ∃ o ∈ L, o.id = 20
theorem NInv.start : NInv (LN 26) 20 := ⟨rfl, Nat.le_trans LN_len (by omega), fun o ho => by
  have := List.all_eq_true.1 LN_ids o ho
  simpa using this, fun h => absurd h (by omega)⟩
theorem mem_new {L : List Od} {k : Nat} {x o : Od} (h : o ∈ L) : o ∈ L.take k ++ [x] ++ L.drop k := by
  rw [← List.take_append_drop k L, List.mem_append] at h
  rcases h with h | h
  · exact List.mem_append_left _ (List.mem_append_left _ h)
  · exact List.mem_append_right _ h
theorem NInv.add {L : List Od} {i : Nat} (h : NInv L i) (hi : 20 ≤ i) (hl : L.length < 250) (p : Int) : (refAdd L (i : Int) 1 p 1).2 = 0 ∧ NInv (refAdd L (i : Int) 1 p 1).1 (i + 1) := by
  have hg := add_good (L := L) (id := (i : Int)) (price := p) (qty := 1) (.inl rfl) (by omega) (fun o ho => by have := h.ids o ho; omega) hl
  rw [hg]
  refine ⟨rfl, ?_, ?_, ?_, ?_⟩
  · rw [len_add]; have := h.len; omega
  · rw [len_add]; omega
  · intro o ho
    rcases mem_add ho with rfl | ⟨o', ho', rfl⟩
    · dsimp only; omega
    · have := h.ids o' ho'
      split
      · rw [(untop_keeps 1 o').2.2.1]; omega
      · omega
  · intro _
    rcases Nat.lt_or_ge 20 i with h1 | h1
    · obtain ⟨o, ho, he⟩ := h.has h1
      refine ⟨if refTop L 1 p = true then untop 1 o else o, mem_new ?_, ?_⟩
      · split
        · exact List.mem_map.2 ⟨o, ho, rfl⟩
        · exact ho
      · split
        · rw [(untop_keeps 1 o).2.2.1]; exact he
        · exact he
    · have : i = 20 := by omega
      subst this
      exact ⟨⟨20, 1, p, 1, refTop L 1 p⟩, List.mem_append_left _ (List.mem_append_right _ (List.mem_singleton.2 rfl)), rfl⟩
theorem NInv.full {L : List Od} {i : Nat} (h : NInv L i) (hl : L.length = 250) : refAdd L 5000 1 1 1 = (L, 13) ∧ refAdd L 20 1 1 1 = (L, 25) := by
  have hn := h.len
  have hN := LN_len
  have h1 : (L.find? (fun o => o.id == 5000)).isSome = false := by
    rw [Bool.eq_false_iff, ne_eq, List.find?_isSome]
    rintro ⟨o, ho, he⟩
    have h2 := h.ids o ho
    have h3 : o.id = 5000 := by simpa using he
    omega
  obtain ⟨o, ho, he⟩ := h.has (by omega)
  have h2 : (L.find? (fun o => o.id == 20)).isSome = true := by
    rw [List.find?_isSome]
    exact ⟨o, ho, by simpa using he⟩
  unfold refAdd
  rw [h1, h2, hl]
  exact ⟨rfl, rfl⟩
set_option maxRecDepth 100000 in
set_option maxHeartbeats 16000000 in
theorem numbers9 (hAR : AddRef) (W : World) :
    Calls Try.prog 6 #[] W fun e w' => e = .returned (.bool true) ∧ Below W.heap.size W w' := by
  have HAR := Lib.hid hAR
  clear hAR
  go_enter Try.func6, Try.ntmps6
  go_wp2_with fail
  refine (ob_new W W (Below.refl _ _)).mono ?_
  rintro e w1 ⟨pb, rfl, h, _⟩
  have P1 := Lib.hid (pr_new h)
  clear h
  go_upto_region 3 with (fail)
  obtain ⟨pw, hpw⟩ : ∃ pw, w1.heap.size = pw := ⟨_, rfl⟩
  rw [hpw] at P1 ⊢
  clear hpw
  generalize w1.alloc (.cells #[.slice none 0 0] 50) = w2 at *
  go_wp2_with fail
  have PA := Lib.hid (P1.out.below (Below.allocN w2 (.cells asksC 28)))
  have XA : Hid (Blk (w2.alloc (.cells asksC 28)) w2.heap.size 28 asksC) := Lib.hid (Blk.new _ _ _)
  generalize hga : w2.heap.size = ga at *
  go_loopw [39] (fun i w' => ∃ k : Nat, i = .int .i64 k ∧ k ≤ 26 ∧ PR W w' pb pw (LN k) ∧ Blk w' ga 28 asksC) (fun i _ => 26 - (intOf i).toNat)
  case atStart => exact ⟨0, rfl, by omega, PA.out, XA.out⟩
  case round =>
    clear PA XA hga P1
    obtain ⟨k, rfl, hk, hP, hX⟩ := hrel
    obtain ⟨wo, rfl⟩ : ∃ wo : World, wo = wr := ⟨_, rfl⟩
    have P0 := Lib.hid hP
    have X0 := Lib.hid hX
    clear hP hX
    by_cases hlt : k < 26
    · have hkl : (k : Int) < 26 := by omega
      obtain ⟨x, hx⟩ : ∃ x, asksN[k]? = some x := ⟨_, List.getElem?_eq_getElem (show k < asksN.length from hlt)⟩
      have HLN := Lib.hid (LN_next hx)
      have hc := asks_at X0.out hx
      obtain ⟨x0, x1, x2, x3, x4⟩ := x
      have a0 : wo.cell? ⟨ga, k * 5, none⟩ = some (.int .i64 x0) := hc 0 _ rfl
      have a1 : wo.cell? ⟨ga, k * 5 + 1, none⟩ = some (.int .i64 x1) := hc 1 _ rfl
      have a2 : wo.cell? ⟨ga, k * 5 + 2, none⟩ = some (.int .i64 x2) := hc 2 _ rfl
      have a3 : wo.cell? ⟨ga, k * 5 + 3, none⟩ = some (.int .i64 x3) := hc 3 _ rfl
      have a4 : wo.cell? ⟨ga, k * 5 + 4, none⟩ = some (.int .i64 x4) := hc 4 _ rfl
      clear hc hx
      have hba := Below.allocN wo (.cells #[.int .i64 x0, .int .i64 x1, .int .i64 x2, .int .i64 x3, .int .i64 x4] 28)
      have P2 := Lib.hid (P0.out.below hba)
      have X2 := Lib.hid (X0.out.below hba)
      clear hba
      go_wp2_with fail
      refine (do_list2 HAR.out P2.out x0 x1 x2 x3 x4).mono ?_
      rintro e w3 ⟨rfl, hP, hA⟩
      rw [← HLN.out] at hP
      have P3 := Lib.hid hP
      have X3 := Lib.hid (hA _ _ X2.out)
      clear hP hA a0 a1 a2 a3 a4
      go_wp2_with fail
      refine (alike_any P3.out).mono ?_
      rintro e w4 ⟨rfl, hb⟩
      have P4 := Lib.hid (P3.out.below hb)
      have X4 := Lib.hid (X3.out.below hb)
      clear hb
      go_wp2_with fail
      go_roundw
      case rel => exact ⟨k + 1, by go_num, by omega, P4.out, X4.out⟩
      case measure => simp [intOf]; omega
    · have h26 : k = 26 := by omega
      have hnk : ¬ (k : Int) < 26 := by omega
      have O0 : Hid (OB W wo pb (LN 26)) := Lib.hid (h26 ▸ P0.out.ob)
      clear P0 X0 hlt hk h26
      go_wp2_with fail
      go_loopw [5] (fun i w' => ∃ k : Nat, i = .int .i64 k ∧ 20 ≤ k ∧ k ≤ 400 ∧ ∃ L, OB W w' pb L ∧ NInv L k) (fun i _ => 400 - (intOf i).toNat)
      case atStart => exact ⟨20, rfl, by omega, by omega, _, O0.out, NInv.start⟩
      case round =>
        clear O0
        obtain ⟨i, rfl, hi, hi4, L, hO, hN⟩ := hrel
        obtain ⟨wy, rfl⟩ : ∃ wo : World, wo = wr := ⟨_, rfl⟩
        have O1 : Hid (OB W wy pb L) := Lib.hid hO
        have N1 := Lib.hid hN
        clear hO hN
        have hi5 : (i : Int) < 500 := by omega
        have hcn := ob_count O1.out
        by_cases hl : L.length < 250
        · have hl' : (L.length : Int) < 250 := by omega
          have hi6 : i + 1 ≤ 400 := by have h1 := N1.out.len; have h2 := LN_len; omega
          have HA := Lib.hid (N1.out.add hi hl (i : Int))
          go_wp2_with fail
          refine hcn.mono ?_
          rintro e w3 ⟨rfl, rfl⟩
          clear hcn
          go_wp2_with fail
          refine (ob_add O1.out (i : Int) 1 (i : Int) 1).mono ?_
          rintro e w4 ⟨rfl, hO, _⟩
          rw [HA.out.1]
          have O2 := Lib.hid hO
          clear hO
          go_wp2_with fail
          go_roundw
          case rel => exact ⟨i + 1, by go_num, by omega, hi6, _, O2.out, HA.out.2⟩
          case measure => simp [intOf]; omega
        · have hl' : ¬ (L.length : Int) < 250 := by omega
          have HF := Lib.hid (N1.out.full (by have := N1.out.le; omega))
          go_wp2_with fail
          refine hcn.mono ?_
          rintro e w3 ⟨rfl, rfl⟩
          clear hcn
          go_wp2_with fail
          refine (ob_add O1.out 5000 1 1 1).mono ?_
          rintro e w4 ⟨rfl, hO, _⟩
          rw [HF.out.1] at hO
          rw [HF.out.1]
          have O2 : Hid (OB W w4 pb L) := Lib.hid hO
          clear hO
          go_wp2_with fail
          refine (ob_add O2.out 20 1 1 1).mono ?_
          rintro e w5 ⟨rfl, hO, _⟩
          rw [HF.out.2] at hO
          rw [HF.out.2]
          have O3 : Hid (OB W w5 pb L) := Lib.hid hO
          clear hO
          go_wp2_with fail
          refine (known_any9 _).mono ?_
          rintro e w7 ⟨rfl, hb⟩
          have HB7 := Lib.hid (O3.out.bel.trans (hb.mono O3.out.bel.size))
          clear hb
          go_wp2_with fail
          go_ret
          exact ⟨by trivial, HB7.out⟩
end Go.Proofs.Ytmhljdkhekjfmaa
