/- The walks of the document's arena that only read, and Top. -/
import Derived.Test.YtbpmoomklknkkaaDoc
import Derived.OwnWalk
namespace Go.Proofs.Ytbpmoomklknkkaa
open Go.RowKit

theorem taken_turn {A : List (List Ent)} {n j : Nat} {L : List Ent} {e e' : Ent} (hn : A[n]? = some L) (hj : L[j]? = some e) (he : e'.slot = e.slot) (i : Nat) : Taken (A.set n (L.set j e')) i ↔ Taken A i := by
  have hnl := lt_of_get hn
  have hjl := lt_of_get hj
  constructor
  · rintro ⟨n', j', L', x, h1, h2, h3⟩
    rw [List.getElem?_set] at h1
    by_cases hnn : n = n'
    · subst hnn
      rw [if_pos rfl, if_pos hnl] at h1
      injection h1 with h1
      subst h1
      rw [List.getElem?_set] at h2
      by_cases hjj : j = j'
      · subst hjj
        rw [if_pos rfl, if_pos hjl] at h2
        injection h2 with h2
        subst h2
        exact ⟨n, j, L, e, hn, hj, by rw [← he]; exact h3⟩
      · rw [if_neg hjj] at h2
        exact ⟨n, j', L, x, hn, h2, h3⟩
    · rw [if_neg hnn] at h1
      exact ⟨n', j', L', x, h1, h2, h3⟩
  · rintro ⟨n', j', L', x, h1, h2, h3⟩
    by_cases hnn : n = n'
    · subst hnn
      rw [hn] at h1
      injection h1 with h1
      subst h1
      by_cases hjj : j = j'
      · subst hjj
        rw [hj] at h2
        injection h2 with h2
        subst h2
        exact ⟨n, j, L.set j e', e', by rw [List.getElem?_set_self hnl], by rw [List.getElem?_set_self hjl], by rw [he]; exact h3⟩
      · exact ⟨n, j', L.set j e', x, by rw [List.getElem?_set_self hnl], by rw [List.getElem?_set_ne hjj]; exact h2, h3⟩
    · exact ⟨n', j', L', x, by rw [List.getElem?_set_ne hnn]; exact h1, h2, h3⟩
theorem usedC_same {room : Nat} {A B : List (List Ent)} (h : ∀ i, Taken A i ↔ Taken B i) : usedC room A = usedC room B := by
  unfold usedC
  congr 1
  exact List.map_congr_left fun i _ => congrArg Value.bool (tk_eq (h i))
theorem RA.used_same {w : World} {B pb ub : Nat} {qa : Option Addr} {qk room : Nat} {U U' A : List (List Ent)} {V : Nat → Option Addr × Nat} (h : RA w B pb ub qa qk room U A V) (hs : ∀ i, Taken U i ↔ Taken U' i) : RA w B pb ub qa qk room U' A V :=
  ⟨h.hp, by rw [← usedC_same hs]; exact h.hu, h.hq, h.row, h.apart, h.bp, h.bu⟩

/-- where a slot's order stands, as the document's walk tells it -/
def atT (A : List (List Ent)) (i : Int) : Value := match findA A i with
  | some (n, j, _) => .tuple #[.int .i64 n, .int .i64 j, .bool true]
  | none => .tuple #[.int .i64 0, .int .i64 0, .bool false]
/-- what bounds the walks want of the queues -/
structure Fit (A : List (List Ent)) : Prop where
  many : A.length ≤ 1000000
  short : ∀ (n : Nat) (L : List Ent), A[n]? = some L → L.length ≤ 4096
  apart : Apart A
  qty : ∀ (n j : Nat) (L : List Ent) (e : Ent), A[n]? = some L → L[j]? = some e → 1 ≤ e.qty ∧ e.qty ≤ 1000000
theorem LA.fit {w : World} {pb sb : Nat} {qa : Option Addr} {room : Nat} {A : List (List Ent)} (h : LA w pb sb qa room A) (hm : A.length ≤ 1000000) : Fit A :=
  ⟨hm, fun n L hL => by
    have h1 := le_sum (A.map List.length) n L.length (by rw [List.getElem?_map, hL]; rfl)
    have := h.small
    omega, h.apart, h.qty⟩

section
variable {w w' : World} {B pb ub : Nat} {qa : Option Addr} {qk room : Nat} {U A : List (List Ent)} {V : Nat → Option Addr × Nat}
set_option maxHeartbeats 1000000 in
theorem at_any (h : RA w B pb ub qa qk room U A V) (hf : Fit A) (i : Int) :
    Calls Try.prog 37 #[.pointer (some ⟨pb, 0, none⟩), .int .i64 i] w fun e w' => e = .returned (atT A i) ∧ w = w' := by
  have c1 := h.c1
  have H := Lib.hid h
  have HF := Lib.hid hf
  have hm := hf.many
  clear h hf
  go_enter Try.func37, Try.ntmps37
  go_wp2_with fail
  go_loopw [7] (fun q w' => ∃ n : Nat, q = .int .i64 n ∧ n ≤ A.length ∧ w = w' ∧ Hid (∀ (n' j : Nat) (L : List Ent) (e : Ent), n' < n → A[n']? = some L → L[j]? = some e → i ≠ (e.slot : Int))) (fun q _ => A.length - (intOf q).toNat)
  case atStart => exact ⟨0, rfl, Nat.zero_le _, rfl, Lib.hid fun n' _ _ _ h => by omega⟩
  case round =>
    obtain ⟨n, rfl, hn, rfl, HN⟩ := hrel
    by_cases hlt : n < A.length
    · obtain ⟨L, hL⟩ : ∃ L, A[n]? = some L := ⟨_, List.getElem?_eq_getElem hlt⟩
      obtain ⟨qb, rfl⟩ := H.out.qrow (by omega)
      have cq := H.out.cq hlt
      unfold vd at cq
      rw [getD_of hL] at cq
      have hn' : (n : Int) < (A.length : Int) := by omega
      have hLs := HF.out.short n L hL
      have HL := Lib.hid hL
      clear hL
      go_wp2_with fail
      go_loopw [8] (fun j w' => ∃ k : Nat, j = .int .i64 k ∧ k ≤ L.length ∧ w = w' ∧ Hid (∀ (j : Nat) (e : Ent), j < k → L[j]? = some e → i ≠ (e.slot : Int))) (fun j _ => L.length - (intOf j).toNat)
      case atStart => exact ⟨0, rfl, Nat.zero_le _, rfl, Lib.hid fun j _ h => by omega⟩
      case round =>
        obtain ⟨k, rfl, hk, rfl, HK⟩ := hrel
        by_cases hkl : k < L.length
        · obtain ⟨e, he⟩ : ∃ e, L[k]? = some e := ⟨_, List.getElem?_eq_getElem hkl⟩
          have hrow := H.out.row n hlt
          rw [getD_of HL.out] at hrow
          obtain ⟨g, cap, hv, _, e0, e1, e2, e3⟩ := hrow.at_ k e he
          unfold vd at hv
          rw [getD_of HL.out] at hv
          injection hv with v1 v2 v3
          rw [v1, v3] at cq
          have hkl' : (k : Int) < (L.length : Int) := by omega
          have HE := Lib.hid he
          clear hrow v1 v2 v3 he
          by_cases hs : (e.slot : Int) = i
          · have HFA : Hid (atT A i = .tuple #[.int .i64 n, .int .i64 k, .bool true]) := Lib.hid (by
              unfold atT
              rw [← hs, find_of HF.out.apart HL.out HE.out])
            have hs1 : ((e.slot : Int) == i) = true := by rw [beq_iff_eq]; exact hs
            clear hs
            go_wp2_with fail
            go_ret3
            exact ⟨by rw [HFA.out]; rfl, rfl⟩
          · have hs1 : ((e.slot : Int) == i) = false := by rw [beq_eq_false_iff_ne]; exact hs
            have HS := Lib.hid hs
            clear hs
            go_wp2_with fail
            go_roundw
            case rel =>
              refine ⟨k + 1, by go_num, by omega, trivial, Lib.hid fun j e' hj he' => ?_⟩
              by_cases hjk : j < k
              · exact HK.out j e' hjk he'
              · obtain rfl : j = k := by omega
                have := HE.out
                rw [he'] at this
                injection this with this
                subst this
                exact fun h => HS.out h.symm
            case measure => simp [intOf]; omega
        · obtain rfl : k = L.length := by omega
          go_wp2_with fail
          go_roundw
          case rel =>
            refine ⟨n + 1, by go_num, by omega, trivial, Lib.hid fun n' j L' e' hj hL' he' => ?_⟩
            by_cases hjk : n' < n
            · exact HN.out n' j L' e' hjk hL' he'
            · obtain rfl : n' = n := by omega
              have := HL.out
              rw [hL'] at this
              injection this with this
              subst this
              exact HK.out j e' (lt_of_get he') he'
          case measure => simp [intOf]; omega
    · obtain rfl : n = A.length := by omega
      have HFA : Hid (atT A i = .tuple #[.int .i64 0, .int .i64 0, .bool false]) := Lib.hid (by
        unfold atT
        cases hfa : findA A i with
        | none => rfl
        | some x =>
          obtain ⟨n, j, e⟩ := x
          obtain ⟨L, h1, h2, h3⟩ := findA_some hfa
          exact absurd h3 (HN.out n j L e (lt_of_get h1) h1 h2))
      go_wp2_with fail
      go_ret3
      exact ⟨by rw [HFA.out]; rfl, rfl⟩

theorem dlist_at (h : RA w B pb ub qa qk room U A V) (n : Nat) (hn : n < A.length) :
    Calls Try.prog 33 #[.pointer (some ⟨pb, 0, none⟩), .int .i64 n] w fun e w' => e = .returned (vd A V n) ∧ w = w' := by
  have c1 := h.c1
  obtain ⟨qb, rfl⟩ := h.qrow (by omega)
  have cq := h.cq hn
  have hn' : (n : Int) < (A.length : Int) := by omega
  clear h
  generalize vd A V n = v at *
  go_enter Try.func33, Try.ntmps33
  go_wp2_with fail
  go_ret
  exact ⟨by trivial, rfl⟩
theorem dlist_no (h : RA w B pb ub qa qk room U A V) (n : Int) (hn : n < 0 ∨ (A.length : Int) ≤ n) :
    Calls Try.prog 33 #[.pointer (some ⟨pb, 0, none⟩), .int .i64 n] w fun e w' => e = .returned (.slice none 0 0) ∧ w = w' := by
  have c1 := h.c1
  clear h
  by_cases h0 : n < 0
  · clear hn
    go_enter Try.func33, Try.ntmps33
    go_wp2_with fail
    go_ret
    exact ⟨by trivial, rfl⟩
  · have hn' : (A.length : Int) ≤ n := by omega
    clear hn
    go_enter Try.func33, Try.ntmps33
    go_wp2_with fail
    go_ret
    exact ⟨by trivial, rfl⟩

theorem qtys_step (L : List Ent) {j : Nat} {e : Ent} (he : L[j]? = some e) : qtys (L.take (j + 1)) = qtys (L.take j) + e.qty := by
  obtain ⟨hj, h⟩ := get_of he
  rw [List.take_succ_eq_append_getElem hj, qtys_app, h]
theorem qtys_part (L : List Ent) (hq : ∀ (j : Nat) (e : Ent), L[j]? = some e → 1 ≤ e.qty ∧ e.qty ≤ 1000000) (j : Nat) : 0 ≤ qtys (L.take j) ∧ qtys (L.take j) ≤ 1000000 * L.length := by
  have h1 := qtys_le (L.take j) fun i (e : Ent) he => hq i e (by rw [List.getElem?_take] at he; split at he; exact he; cases he)
  have h2 : (L.take j).length ≤ L.length := List.length_take_le' _ _
  omega
set_option maxHeartbeats 1000000 in
theorem dtotal_any (h : RA w B pb ub qa qk room U A V) (hf : Fit A) (n : Int) :
    Calls Try.prog 34 #[.pointer (some ⟨pb, 0, none⟩), .int .i64 n] w fun e w' => e = .returned (.int .i64 (totA A n)) ∧ w = w' := by
  by_cases hn : n < 0 ∨ (A.length : Int) ≤ n
  · have HT : Hid (totA A n = 0) := Lib.hid (by
      unfold totA
      rcases hn with hn | hn
      · rw [if_pos hn]
      · rw [if_neg (by omega), getD_none (by omega)]; rfl)
    have H := Lib.hid h
    clear h
    have HLN := Lib.hid hn
    clear hn
    go_enter Try.func34, Try.ntmps34
    go_wp2_with (go_at_call 33; refine (dlist_no H.out n HLN.out).mono ?_; rintro e w1 ⟨rfl, rfl⟩)
    refine wp_loop_rounds 1 ?_
    rw [rounds_succ]
    go_wp2_with fail
    go_ret
    exact ⟨by rw [HT.out]; rfl, rfl⟩
  · obtain ⟨n, rfl⟩ := Int.eq_ofNat_of_zero_le (show 0 ≤ n by omega)
    have hlt : n < A.length := by omega
    obtain ⟨L, hL⟩ : ∃ L, A[n]? = some L := ⟨_, List.getElem?_eq_getElem hlt⟩
    have HT : Hid (totA A n = qtys L) := Lib.hid (by unfold totA; rw [if_neg (by omega)]; exact congrArg qtys (getD_of hL))
    have HQ := Lib.hid fun j (e : Ent) => hf.qty n j L e hL
    have hLs := hf.short n L hL
    have hrow := h.row n hlt
    rw [getD_of hL] at hrow
    obtain ⟨a, c, hv, _, hrd⟩ := hrow.rd
    have HD := dlist_at h n hlt
    rw [hv] at HD
    have HDD := Lib.hid HD
    have HRD := Lib.hid hrd
    clear HD hrd hrow h hv hL hn
    go_enter Try.func34, Try.ntmps34
    go_wp2_with (go_at_call 33; refine HDD.out.mono ?_; rintro e w1 ⟨rfl, rfl⟩)
    go_loop [5, 7] (fun s m => ∃ j : Nat, m = .int .i64 j ∧ j ≤ L.length ∧ s = .int .i64 (qtys (L.take j))) (fun _ m => L.length - (intOf m).toNat)
    case atStart => exact ⟨0, rfl, Nat.zero_le _, rfl⟩
    case round =>
      obtain ⟨j, rfl, hj, rfl⟩ := hrel
      have hqb := qtys_part L HQ.out j
      by_cases hjl : j < L.length
      · obtain ⟨e, he⟩ : ∃ e, L[j]? = some e := ⟨_, List.getElem?_eq_getElem hjl⟩
        have hq := HQ.out j e he
        have HTT := Lib.hid (qtys_step L he)
        obtain ⟨g, off, rfl, _, e0, e1, e2, e3⟩ := HRD.out j e he
        have hjl' : (j : Int) < (L.length : Int) := by omega
        clear he
        generalize qtys (L.take j) = Z at *
        go_wp2_with fail
        go_round
        case rel => exact ⟨j + 1, by go_num, by omega, by rw [HTT.out]⟩
        case measure => simp [intOf]; omega
      · obtain rfl : j = L.length := by omega
        rw [List.take_length]
        clear hqb
        go_wp2_with fail
        go_ret
        exact ⟨by rw [HT.out]; rfl, rfl⟩

set_option maxHeartbeats 1000000 in
theorem dfree_any (h : RA w B pb ub qa qk room U A V) (hr : room ≤ 4096) :
    Calls Try.prog 36 #[.pointer (some ⟨pb, 0, none⟩)] w fun e w' => e = .returned (.int .i64 ((room : Int) - (List.range room).countP (tk U))) ∧ w = w' := by
  have c0 := h.c0
  have H := Lib.hid h
  clear h
  go_enter Try.func36, Try.ntmps36
  go_wp2_with fail
  go_loop [3, 4] (fun m s => ∃ j : Nat, s = .int .i64 j ∧ j ≤ room ∧ m = .int .i64 ((j : Int) - (List.range j).countP (tk U))) (fun _ m => room - (intOf m).toNat)
  case atStart => exact ⟨0, rfl, Nat.zero_le _, rfl⟩
  case round =>
    obtain ⟨j, rfl, hj, rfl⟩ := hrel
    by_cases hjl : j < room
    · have cu := H.out.cu hjl
      have hjl' : (j : Int) < (room : Int) := by omega
      have HC := Lib.hid (cnt_succ U j)
      have hle := cnt_le U j
      generalize (List.range j).countP (tk U) = c at *
      cases htk : tk U j with
      | true =>
        rw [htk] at cu HC
        clear htk
        go_wp2_with fail
        go_round
        case rel => exact ⟨j + 1, by go_num, by omega, congrArg (Value.int .i64) (by rw [HC.out]; simp; omega)⟩
        case measure => simp [intOf]; omega
      | false =>
        rw [htk] at cu HC
        clear htk
        go_wp2_with fail
        go_round
        case rel => exact ⟨j + 1, by go_num, by omega, congrArg (Value.int .i64) (by rw [HC.out]; simp; omega)⟩
        case measure => simp [intOf]; omega
    · obtain rfl : j = room := by omega
      go_wp2_with fail
      go_ret
      exact ⟨rfl, rfl⟩
end
end Go.Proofs.Ytbpmoomklknkkaa
