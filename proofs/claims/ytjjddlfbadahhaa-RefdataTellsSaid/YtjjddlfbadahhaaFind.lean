/- The walks of refdata.Find and of cornhillref5.Find. -/
import Derived.Test.YtjjddlfbadahhaaRName
namespace Go.Proofs.Ytjjddlfbadahhaa
open Go.RowKit

def findP (p : Prod) (s : ByteArray) : Int × Bool :=
  match (List.range (countP p).toNat).find? (fun (k : Nat) => (nameP p (k : Int)).toList == s.toList) with
  | some k => ((k : Int), true)
  | none => (0, false)
theorem range_find {f : Nat → Bool} {n k : Nat} (hk : k < n) (h1 : f k = true) (h2 : ∀ j, j < k → f j = false) : (List.range n).find? f = some k := by
  rw [List.find?_eq_some_iff_append]
  refine ⟨h1, List.range k, List.range' (k + 1) (n - k - 1), ?_, fun j hj => ?_⟩
  · rw [List.range_eq_range', List.range_eq_range', ← List.range'_succ, show n - k - 1 + 1 = n - k by omega]
    have := List.range'_append (s := 0) (m := k) (n := n - k) (step := 1)
    rw [Nat.one_mul, Nat.zero_add, show k + (n - k) = n by omega] at this
    exact this.symm
  · rw [List.mem_range] at hj
    rw [h2 j hj]; rfl
theorem find_hit {p : Prod} {s : ByteArray} {k : Nat} (hk : (k : Int) < countP p) (h1 : ((nameP p (k : Int)).toList == s.toList) = true) (h2 : ∀ j : Nat, j < k → ((nameP p (j : Int)).toList == s.toList) = false) : findP p s = ((k : Int), true) := by
  unfold findP
  rw [range_find (f := fun (k : Nat) => (nameP p (k : Int)).toList == s.toList) (show k < (countP p).toNat by omega) h1 h2]
theorem find_miss {p : Prod} {s : ByteArray} (h : ∀ j : Nat, (j : Int) < countP p → ((nameP p (j : Int)).toList == s.toList) = false) : findP p s = (0, false) := by
  unfold findP
  rw [List.find?_eq_none.2 fun j hj => by
    rw [List.mem_range] at hj
    rw [h j (by omega)]; simp]
set_option maxHeartbeats 4000000 in
theorem find_any (p : Prod) (s : ByteArray) (w : World) (hp : PV w p) :
    Calls Try.prog 29 #[p.agg, .string s] w fun e w' => e = .returned (.tuple #[.int .i64 (findP p s).1, .bool (findP p s).2]) ∧ Below w.heap.size w w' := by
  have hs0 := St.new hp
  unfold Prod.cells at hs0
  have HS0 := Lib.hid hs0
  have hck := count_inst_any p _ hs0.pv
  have HNM := Lib.hid fun (k : Int) wz (h : PV wz p) => name_any p k wz h
  have HHIT := Lib.hid fun (k : Nat) (h0 : (k : Int) < countP p) h1 h2 => find_hit (p := p) (s := s) h0 h1 h2
  have HMISS := Lib.hid (find_miss (p := p) (s := s))
  have hcb := countP_bd p
  unfold Prod.agg Prod.cells at hck HNM ⊢
  clear hp hs0
  obtain ⟨c, hc⟩ : ∃ c : Nat, countP p = (c : Int) := ⟨(countP p).toNat, by omega⟩
  rw [hc] at hck HHIT HMISS hcb
  clear hc
  generalize findP p s = v at *
  obtain ⟨b0, b1, b2, b3, b4, b5, b6, b7, b8, b9, b10⟩ := HS0.out.pc
  go_enter Try.func29, Try.ntmps29
  go_wp2_with fail
  refine hck.mono ?_
  rintro e w1 ⟨rfl, hb1⟩
  have HS := Lib.hid (HS0.out.next hb1)
  clear hck hb1 b0 b1 b2 b3 b4 b5 b6 b7 b8 b9 b10 HS0
  go_wp2_with fail
  go_loopw [9] (fun i w' => ∃ k : Nat, i = .int .i64 k ∧ k ≤ c ∧ St w w' p ∧ Hid (∀ j : Nat, j < k → ((nameP p (j : Int)).toList == s.toList) = false)) (fun i _ => c - (intOf i).toNat)
  case atStart => exact ⟨0, rfl, Nat.zero_le _, HS.out, Lib.hid fun j h => by omega⟩
  case round =>
    clear HS
    obtain ⟨k, rfl, hk, hS, HK⟩ := hrel
    obtain ⟨wz, rfl⟩ : ∃ wo : World, wo = wr := ⟨_, rfl⟩
    have HS := Lib.hid hS
    clear hS
    by_cases hkc : k < c
    · have hkc' : (k : Int) < (c : Int) := by omega
      have hnm := HNM.out (k : Int) _ HS.out.pv
      have HH := Lib.hid fun h1 => HHIT.out k hkc' h1 HK.out
      obtain ⟨nm, hn⟩ : ∃ nm, nameP p (k : Int) = nm := ⟨_, rfl⟩
      rw [hn] at hnm HH
      have HN := Lib.hid hn
      clear hn
      obtain ⟨b0, b1, b2, b3, b4, b5, b6, b7, b8, b9, b10⟩ := HS.out.pc
      go_wp2_with fail
      refine hnm.mono ?_
      rintro e w2 ⟨rfl, hb2⟩
      have HS2 := Lib.hid (HS.out.next hb2)
      clear hnm hb2 b0 b1 b2 b3 b4 b5 b6 b7 b8 b9 b10
      cases heq : (nm.toList == s.toList) with
      | true =>
        have hv := HH.out heq
        subst hv
        clear HH
        go_wp2_with fail
        go_ret2
        exact ⟨by rfl, HS2.out.bel⟩
      | false =>
        have HE := Lib.hid heq
        go_wp2_with fail
        go_roundw
        case rel => exact ⟨k + 1, by go_num, by omega, HS2.out, Lib.hid fun j hj => by
          by_cases hjk : j < k
          · exact HK.out j hjk
          · obtain rfl : j = k := by omega
            rw [HN.out]; exact HE.out⟩
        case measure => simp [intOf]; omega
    · obtain rfl : k = c := by omega
      have hv := HMISS.out fun j hj => HK.out j (by omega)
      subst hv
      go_wp2_with fail
      go_ret2
      exact ⟨by rfl, HS.out.bel⟩
set_option maxHeartbeats 4000000 in
theorem rfind_any (p : Prod) (s : ByteArray) (w : World) (hp : PV w p) :
    Calls Try.prog 39 #[p.agg, .string s] w fun e w' => e = .returned (.tuple #[.int .i64 (findP p s).1, .bool (findP p s).2]) ∧ Below w.heap.size w w' := by
  have hs0 := St.new hp
  unfold Prod.cells at hs0
  have HS0 := Lib.hid hs0
  have HCO := Lib.hid fun wz (h : PV wz p) => rcount_inst_any p wz h
  have HNM := Lib.hid fun (k : Int) wz (h : PV wz p) => rname_any p k wz h
  have HHIT := Lib.hid fun (k : Nat) (h0 : (k : Int) < countP p) h1 h2 => find_hit (p := p) (s := s) h0 h1 h2
  have HMISS := Lib.hid (find_miss (p := p) (s := s))
  have hcb := countP_bd p
  unfold Prod.agg Prod.cells at HCO HNM ⊢
  clear hp hs0
  obtain ⟨c, hc⟩ : ∃ c : Nat, countP p = (c : Int) := ⟨(countP p).toNat, by omega⟩
  rw [hc] at HCO HHIT HMISS hcb
  clear hc
  generalize findP p s = v at *
  go_enter Try.func39, Try.ntmps39
  go_wp2_with fail
  go_loopw [6] (fun i w' => ∃ k : Nat, i = .int .i64 k ∧ k ≤ c ∧ St w w' p ∧ Hid (∀ j : Nat, j < k → ((nameP p (j : Int)).toList == s.toList) = false)) (fun i _ => c - (intOf i).toNat)
  case atStart => exact ⟨0, rfl, Nat.zero_le _, HS0.out, Lib.hid fun j h => by omega⟩
  case round =>
    clear HS0
    obtain ⟨k, rfl, hk, hS, HK⟩ := hrel
    obtain ⟨wz, rfl⟩ : ∃ wo : World, wo = wr := ⟨_, rfl⟩
    have HS0 := Lib.hid hS
    clear hS
    obtain ⟨b0, b1, b2, b3, b4, b5, b6, b7, b8, b9, b10⟩ := HS0.out.pc
    go_wp2_with fail
    refine (HCO.out _ HS0.out.pv).mono ?_
    rintro e w1 ⟨rfl, hb1⟩
    have HS := Lib.hid (HS0.out.next hb1)
    clear hb1 b0 b1 b2 b3 b4 b5 b6 b7 b8 b9 b10
    by_cases hkc : k < c
    · have hkc' : (k : Int) < (c : Int) := by omega
      have hnm := HNM.out (k : Int) _ HS.out.pv
      have HH := Lib.hid fun h1 => HHIT.out k hkc' h1 HK.out
      obtain ⟨nm, hn⟩ : ∃ nm, nameP p (k : Int) = nm := ⟨_, rfl⟩
      rw [hn] at hnm HH
      have HN := Lib.hid hn
      clear hn
      obtain ⟨b0, b1, b2, b3, b4, b5, b6, b7, b8, b9, b10⟩ := HS.out.pc
      go_wp2_with fail
      refine hnm.mono ?_
      rintro e w2 ⟨rfl, hb2⟩
      have HS2 := Lib.hid (HS.out.next hb2)
      clear hnm hb2 b0 b1 b2 b3 b4 b5 b6 b7 b8 b9 b10
      cases heq : (nm.toList == s.toList) with
      | true =>
        have hv := HH.out heq
        subst hv
        clear HH
        go_wp2_with fail
        go_ret2
        exact ⟨by rfl, HS2.out.bel⟩
      | false =>
        have HE := Lib.hid heq
        go_wp2_with fail
        go_roundw
        case rel => exact ⟨k + 1, by go_num, by omega, HS2.out, Lib.hid fun j hj => by
          by_cases hjk : j < k
          · exact HK.out j hjk
          · obtain rfl : j = k := by omega
            rw [HN.out]; exact HE.out⟩
        case measure => simp [intOf]; omega
    · obtain rfl : k = c := by omega
      have hv := HMISS.out fun j hj => HK.out j (by omega)
      subst hv
      go_wp2_with fail
      go_ret2
      exact ⟨by rfl, HS.out.bel⟩
end Go.Proofs.Ytjjddlfbadahhaa
