/- The walk of cornhilllaw8.LevelRooms. -/
import Derived.Test.YtbpmoomklknkkaaLevC
namespace Go.Proofs.Ytbpmoomklknkkaa
open Go.RowKit

theorem info_bool : (Try.prog.info? 4).map (fun i => (i.zero, i.size, i.bytes)) = some (some (.bool false), 1, 1) := by kernel_rfl
/-- which slots are taken, as it lies -/
def usedC (room : Nat) (A : List (List Ent)) : Array Value := ((List.range room).map (fun i => Value.bool (tk A i))).toArray
theorem usedC_get {room : Nat} {A : List (List Ent)} {i : Nat} (hi : i < room) : (usedC room A)[i]? = some (.bool (tk A i)) := by
  unfold usedC
  rw [List.getElem?_toArray, List.getElem?_map, List.getElem?_range hi]
  rfl
theorem usedC_set {room : Nat} {A B : List (List Ent)} {k : Nat} {b : Bool} (h : ∀ i, tk B i = if i = k then b else tk A i) : (usedC room A).setIfInBounds k (.bool b) = usedC room B := by
  unfold usedC
  rw [List.setIfInBounds_toArray]
  congr 1
  apply List.ext_getElem?
  intro i
  rw [List.getElem?_set]
  simp only [List.getElem?_map, List.length_map, List.length_range]
  by_cases hi : i < room
  · rw [List.getElem?_range hi]
    by_cases hk : k = i
    · subst hk; simp [h, hi]
    · rw [if_neg hk]; simp [h, Ne.symm hk]
  · rw [List.getElem?_eq_none (by simpa using hi)]
    by_cases hk : k = i
    · subst hk; simp [hi]
    · rw [if_neg hk]; rfl
theorem made_bools (n : Nat) : madeCells (Value.bool false).cells (n * 1) = usedC n [[], []] := by
  apply Array.toList_inj.1
  apply List.ext_getElem?
  intro j
  unfold usedC
  have hz : ∀ j, tk [[], []] j = false := by
    intro j
    refine tk_false ?_
    rintro ⟨n, k, L, e, h1, h2, _⟩
    match n with
    | 0 => simp at h1; subst h1; simp at h2
    | 1 => simp at h1; subst h1; simp at h2
    | n + 2 => simp at h1
  simp only [madeCells, Array.toList_map, Array.toList_range, List.getElem?_map, Nat.mul_one]
  by_cases hj : j < n
  · rw [List.getElem?_range hj]; simp [hz, Value.cells, Nat.mod_one]
  · rw [List.getElem?_eq_none (by simpa using hj)]; rfl

/-- the least slot that is free; all slots, if there is none -/
def freeI (room : Nat) (A : List (List Ent)) : Nat := (leastFree room A).getD room
theorem freeI_le (room : Nat) (A : List (List Ent)) : freeI room A ≤ room := by
  unfold freeI
  cases h : leastFree room A with
  | none => exact Nat.le_refl _
  | some r => exact Nat.le_of_lt (least_some h).1
theorem freeI_lt {room : Nat} {A : List (List Ent)} {i : Nat} (h : i < freeI room A) : tk A i = true := by
  unfold freeI at h
  cases hl : leastFree room A with
  | none => rw [hl] at h; exact least_none hl i h
  | some r => rw [hl] at h; exact (least_some hl).2.2 i h
theorem freeI_at {room : Nat} {A : List (List Ent)} (h : freeI room A < room) : tk A (freeI room A) = false := by
  unfold freeI at h ⊢
  cases hl : leastFree room A with
  | none => rw [hl] at h; exact absurd h (Nat.lt_irrefl _)
  | some r => show tk A r = false; unfold tk; rw [(least_some hl).2.1]; rfl
theorem cnt_succ (A : List (List Ent)) (k : Nat) : (List.range (k + 1)).countP (tk A) = (List.range k).countP (tk A) + (if tk A k then 1 else 0) := by
  rw [List.range_succ, List.countP_append]
  simp [List.countP_cons]
theorem cnt_le (A : List (List Ent)) (k : Nat) : (List.range k).countP (tk A) ≤ k := by
  have := List.countP_le_length (l := List.range k) (p := tk A)
  rwa [List.length_range] at this

/-- what a round of the law's loop starts with: the slots that it takes for used are U's, the orders are A's -/
structure Rm (W w : World) (pb sb qb ub room : Nat) (U A : List (List Ent)) : Prop where
  two : A.length = 2
  la : LA w pb sb (some ⟨qb, 0, none⟩) room A
  used : Blk w ub 4 (usedC room U)
  bel : Below W.heap.size W w
structure RmN (W : World) (pb sb qb ub : Nat) : Prop where
  p : W.heap.size ≤ pb
  s : W.heap.size ≤ sb
  q : W.heap.size ≤ qb
  u : W.heap.size ≤ ub
  up : ub ≠ pb
  us : ub ≠ sb
  uq : ub ≠ qb
section
variable {W w w' : World} {pb sb qb ub room : Nat} {U V A B : List (List Ent)}
theorem RmN.ge (h : RmN W pb sb qb ub) : ∀ k, LF pb sb (some ⟨qb, 0, none⟩) k → W.heap.size ≤ k :=
  LF_ge h.p h.s fun g hg => by injection hg with hg; injection hg with hg; have := h.q; omega
theorem RmN.no (h : RmN W pb sb qb ub) : ¬ LF pb sb (some ⟨qb, 0, none⟩) ub := by
  rintro (h1 | h1 | h1)
  · exact h.up h1
  · exact h.us h1
  · injection h1 with h1; injection h1 with h1; exact h.uq h1.symm
theorem Rm.below (h : Rm W w pb sb qb ub room U A) (hb : Below w.heap.size w w') : Rm W w' pb sb qb ub room U A :=
  ⟨h.two, h.la.below hb, h.used.keeps (Below.keeps (F := fun _ => False) hb) (fun x => x), h.bel.trans (hb.mono h.bel.size)⟩
theorem Rm.calls (h : Rm W w pb sb qb ub room U A) (n : RmN W pb sb qb ub) (h2 : B.length = 2) (hl : LA w' pb sb (some ⟨qb, 0, none⟩) room B) (hk : Keeps (LF pb sb (some ⟨qb, 0, none⟩)) w w') : Rm W w' pb sb qb ub room U B :=
  ⟨h2, hl, h.used.keeps hk n.no, h.bel.trans (hk.below n.ge h.bel.size)⟩
theorem Rm.put (h : Rm W w pb sb qb ub room U A) (n : RmN W pb sb qb ub) {k : Nat} {b : Bool} (ht : ∀ i, tk V i = if i = k then b else tk U i) : Rm W (w.setCell ⟨ub, k, none⟩ (.bool b)) pb sb qb ub room V A := by
  have hk : Keeps (fun g => g = ub) w (w.setCell ⟨ub, k, none⟩ (.bool b)) := (Keeps.refl (fun g => g = ub) w).setCell (p := ⟨ub, k, none⟩) (fun _ => rfl) _
  refine ⟨h.two, h.la.keep hk (fun e => n.up e.symm) (fun e => n.us e.symm) (fun g hg e => ?_), ?_, h.bel.setCell (p := ⟨ub, k, none⟩) n.u _⟩
  · injection hg with hg; injection hg with hg
    exact n.uq (by omega)
  · have := h.used.set_ k (.bool b)
    rwa [usedC_set ht] at this
theorem Rm.cell (h : Rm W w pb sb qb ub room U A) {k : Nat} (hk : k < room) : w.cell? ⟨ub, k, none⟩ = some (.bool (tk U k)) := by rw [h.used.cell, usedC_get hk]
end

set_option maxRecDepth 100000 in
set_option maxHeartbeats 8000000 in
theorem rooms_any (room0 : Int) (p : Option Addr) (n c : Nat) (f : Nat → AskR) (W : World) (hr1 : -9223372036854775808 ≤ room0) (hr2 : room0 ≤ 9223372036854775807) (hA : Asks W p n f) :
    Calls Try.prog 3 #[.int .i64 room0, .slice p n c] W fun e w' => e = .returned (.bool true) ∧ Below W.heap.size W w' := by
  have hr0 : i64ok room0 := ⟨hr1, hr2⟩
  obtain ⟨hok, hcells⟩ := hA
  have hwb := withI_bd room0 0 20 (by omega)
  obtain ⟨room, hroom⟩ : ∃ room : Nat, 1 + withI room0 0 20 = (room : Int) := ⟨(1 + withI room0 0 20).toNat, by omega⟩
  have hrm : 1 ≤ room ∧ room ≤ 21 := by omega
  have HROOM := Lib.hid hroom
  have HOK := Lib.hid hok
  have HC := Lib.hid hcells
  obtain ⟨i0, hi, hz0, hz1, hz2⟩ := info_parts info_bool
  have hmk := fun W => run_makeSlice (P := Try.prog) W 29 4 i0 _ Try.underlying29 hi hz0 .i64 .i64 room room (by omega) (by omega) (by rw [hz1]; omega) (by rw [hz2]; omega) (by omega)
  rw [hz1, Int.toNat_natCast, made_bools] at hmk
  clear hroom hok hcells hi hz0 hz1 hz2
  go_enter Try.func3, Try.ntmps3
  go_wp2_with fail
  refine (within_any room0 0 20 _ hr0.1 hr0.2 (by omega) (by omega) (by omega)).mono ?_
  rintro e w1 ⟨rfl, rfl⟩
  have hx : 1 + withI room0 0 20 = (room : Int) := HROOM.out
  go_wp2_with fail
  clear hx
  refine (la_new room _ (by omega) (by omega)).mono ?_
  rintro e w1 ⟨rfl, h1, k1⟩
  have B1 := Lib.hid (k1.below (B := W.heap.size) (fun _ h => h.elim) (Nat.le_refl _))
  have hz1 := B1.out.size
  go_wp2_with fail
  refine (la_open h1 (by simp)).mono ?_
  rintro e w2 ⟨rfl, ⟨qb1, hqb1, h2⟩, k2⟩
  have hqb1' : W.heap.size ≤ qb1 := by
    rcases hqb1 with h | h
    · cases h
    · omega
  have B2 := Lib.hid (B1.out.trans (k2.below (LF_ge (by omega) (by omega) (fun g hg => by cases hg)) B1.out.size))
  clear h1 k1 k2 hqb1
  go_wp2_with fail
  refine (la_open h2 (by simp)).mono ?_
  rintro e w3 ⟨rfl, ⟨qb, hqb, h3⟩, k3⟩
  have hqb' : W.heap.size ≤ qb := by
    rcases hqb with h | h
    · injection h with h; injection h with h; omega
    · have := B2.out.size; omega
  have B3 := Lib.hid (B2.out.trans (k3.below (LF_ge (by omega) (by omega) (fun g hg => by injection hg with hg; injection hg with hg; omega)) B2.out.size))
  clear h2 k3 hqb
  go_wp2_with fail
  have hl3 := h3.lt
  have NN : RmN W (W.heap.size + 1) W.heap.size qb w3.heap.size :=
    ⟨by omega, by omega, hqb', B3.out.size, by omega, by omega, by have := hl3.2.2 qb rfl; omega⟩
  have I0 : Rm W (w3.alloc (.cells (usedC room [[], []]) 4)) (W.heap.size + 1) W.heap.size qb w3.heap.size room [[], []] [[], []] :=
    ⟨rfl, h3.below ((Below.refl _ _).alloc (Nat.le_refl _) _), Blk.new w3 _ _, B3.out.alloc B3.out.size _⟩
  clear h3 B1 B2 B3 hz1 hmk hl3 HROOM hwb
  generalize w3.alloc (.cells (usedC room [[], []]) 4) = w4 at *
  generalize w3.heap.size = ub at *
  go_loopw [8] (fun i w' => ∃ k : Nat, i = .int .i64 k ∧ k ≤ 60 ∧ ∃ A, Rm W w' (W.heap.size + 1) W.heap.size qb ub room A A) (fun i _ => 60 - (intOf i).toNat)
  case atStart => exact ⟨0, rfl, by omega, _, I0⟩
  case round =>
    clear I0
    obtain ⟨k, rfl, hk, A, hR⟩ := hrel
    obtain ⟨wo, rfl⟩ : ∃ wo : World, wo = wr := ⟨_, rfl⟩
    by_cases hlt : k < n ∧ k < 60
    · obtain ⟨hkn, hk60⟩ := hlt
      obtain ⟨b, off, rfl, hbl, ha⟩ := HC.out k hkn
      have hkl : (k : Int) < (n : Int) := by omega
      have ha2 := ha.below hR.bel hbl
      obtain ⟨a0, a1, a2, a3, a4, a5⟩ := ha2
      have hxok := HOK.out k
      generalize f k = x at *
      obtain ⟨ok0, ok1, ok2, ok3, ok4⟩ := hxok
      have hsb := withI_bd x.slot 0 ((room : Int) - 1) (by omega)
      obtain ⟨s, hs⟩ : ∃ s : Nat, withI x.slot 0 ((room : Int) - 1) = (s : Int) := ⟨(withI x.slot 0 ((room : Int) - 1)).toNat, by omega⟩
      have hsr : s < room := by omega
      have HS := Lib.hid hs
      obtain ⟨t, ht⟩ : ∃ t : Int, x.kind.tmod 3 = t := ⟨_, rfl⟩
      have hcs := hR.cell hsr
      have k0 : -9223372036854775808 ≤ x.kind ∧ x.kind ≤ 9223372036854775807 := ok0
      clear hs ha hsb
      by_cases hb1 : tk A s = true ∧ t = 0
      · obtain ⟨htk, ht0⟩ := hb1
        have hfs : ∃ n1 j1 e1, findA A (s : Int) = some (n1, j1, e1) := by
          have h0 := htk
          unfold tk at h0
          rw [Option.isSome_iff_exists] at h0
          obtain ⟨⟨n1, j1, e1⟩, h1⟩ := h0
          exact ⟨n1, j1, e1, h1⟩
        obtain ⟨n1, j1, e1, hf⟩ := hfs
        obtain ⟨L1, hn1, hj1, hes⟩ := findA_some hf
        have hq1 := hR.la.qty n1 j1 L1 e1 hn1 hj1
        have HE : Hid (entOf A (s : Int) = (.agg #[.int .i64 e1.slot, .int .i64 e1.id, .int .i64 e1.qty, .bool e1.top], true)) := Lib.hid (by unfold entOf; rw [hf]; rfl)
        have HT : Hid (takeA A (s : Int) e1.qty = (A.set n1 (L1.eraseIdx j1), 0)) := Lib.hid (by unfold takeA; rw [hf]; show (if e1.qty < 1 ∨ e1.qty < e1.qty then (A, (24 : Int)) else if e1.qty = e1.qty then (A.set n1 ((A.getD n1 []).eraseIdx j1), 0) else _) = _; rw [if_neg (by omega), if_pos rfl, getD_of hn1])
        have htks : ∀ i, tk (A.set n1 (L1.eraseIdx j1)) i = if i = s then false else tk A i := by
          intro i
          have h1 := taken_gone hR.la.apart hn1 hj1 i
          by_cases hi : i = s
          · rw [if_pos hi]
            exact tk_false fun h => (h1.1 h).2 (by omega)
          · rw [if_neg hi]
            exact tk_eq (h1.trans ⟨fun h => h.1, fun h => ⟨h, by omega⟩⟩)
        have h2B : (A.set n1 (L1.eraseIdx j1)).length = 2 := by simpa using hR.two
        have HTK := Lib.hid htks
        obtain ⟨B, HBE⟩ : ∃ B, Hid (A.set n1 (L1.eraseIdx j1) = B) := ⟨_, rfl⟩
        rw [HBE.out] at HT HTK h2B
        rw [htk] at hcs
        subst ht0
        clear htks hf hn1 hj1 hes htk HBE
        go_wp2_with fail
        refine (within_any x.slot 0 _ _ ok2.1 ok2.2 (by omega) (by omega) (by omega)).mono ?_
        rintro e w1 ⟨rfl, rfl⟩
        rw [HS.out]
        go_wp2_with fail
        refine (la_get hR.la (s : Int)).mono ?_
        rintro e w1 ⟨rfl, hw1⟩
        rw [HE.out]
        have hR1 := hR.below hw1
        have hR1' := hR1.below ((Below.refl _ _).alloc (Nat.le_refl _) (.cells #[.int .i64 e1.slot, .int .i64 e1.id, .int .i64 e1.qty, .bool e1.top] 33))
        go_wp2_with fail
        refine (la_take hR1'.la (s : Int) e1.qty).mono ?_
        rw [HT.out]
        rintro e w2 ⟨rfl, hl2, hk2⟩
        have hR2 := hR1'.calls NN h2B hl2 hk2
        have hc2 := hR2.cell hsr
        have hf2 := hR2.used.frozen s
        have hR3 := hR2.put NN HTK.out
        clear hR1 hR1' hl2 hk2 hw1 hcs
        go_wp2_with fail
        clear hc2 hf2 hR2
        generalize w2.setCell ⟨ub, s, none⟩ (.bool false) = w3 at *
        go_loopw [15, 16] (fun c s w' => ∃ (z : Nat) (c' : Int), s = .int .i64 z ∧ z ≤ room ∧ c = .int .i64 c' ∧ c' = ((List.range z).countP (tk B) : Nat) ∧ Rm W w' (W.heap.size + 1) W.heap.size qb ub room B B) (fun _ s _ => room - (intOf s).toNat)
        case atStart => exact ⟨0, 0, rfl, by omega, rfl, rfl, hR3⟩
        case round =>
          clear hR3
          obtain ⟨z, c', rfl, hz, rfl, hc', hR4⟩ := hrel
          obtain ⟨wp, rfl⟩ : ∃ wp : World, wp = wr := ⟨_, rfl⟩
          have HC' := Lib.hid hc'
          have hcb : 0 ≤ c' ∧ c' ≤ 21 := by have := cnt_le B z; omega
          have hzz : (z : Int) < (room : Int) ↔ z < room := by omega
          clear hc'
          by_cases hzr : z < room
          · have hcz := hR4.cell hzr
            have HE : Hid ((entOf B (z : Int)).2 = tk B z) := Lib.hid (by unfold entOf tk; cases findA B (z : Int) with | none => rfl | some x => obtain ⟨_, _, _⟩ := x; rfl)
            have HCS := Lib.hid (cnt_succ B z)
            have hea : ∃ v0 v1 v2 v3, Hid ((entOf B (z : Int)).1 = .agg #[.int .i64 v0, .int .i64 v1, .int .i64 v2, .bool v3]) := by
              unfold entOf
              cases findA B (z : Int) with
              | none => exact ⟨_, _, _, _, Lib.hid rfl⟩
              | some x => obtain ⟨_, _, e⟩ := x; exact ⟨_, _, _, _, Lib.hid rfl⟩
            obtain ⟨v0, v1, v2, v3, HA⟩ := hea
            cases hb : tk B z
            all_goals
              rw [hb] at hcz HE HCS
              have HB2 := Lib.hid hb
              clear hb
              go_wp2_with fail
              refine (la_get hR4.la (z : Int)).mono ?_
              rintro e w6 ⟨rfl, h6⟩
              rw [HE.out, HA.out]
              have hR6 := hR4.below h6
              have hcz6 := hR6.cell hzr
              rw [HB2.out] at hcz6
              have hul := hR6.used.lt
              go_wp2_with fail
              go_roundw
              case rel => exact ⟨z + 1, _, by go_num, by omega, rfl, by rw [HCS.out]; have := HC'.out; simp; omega, hR6.below ((Below.refl _ _).alloc (Nat.le_refl _) _)⟩
              case measure => simp [intOf]; omega
          · obtain rfl : z = room := by omega
            obtain ⟨l0, l1, hl0, hl1, hls⟩ : ∃ l0 l1 : Nat, cntA B 0 = l0 ∧ cntA B 1 = l1 ∧ (((B.map List.length).sum : Nat) : Int) = (l0 : Int) + (l1 : Int) := by
              have h2 := hR4.two
              match B, h2 with
              | [L0, L1], _ => exact ⟨L0.length, L1.length, rfl, rfl, by simp⟩
            have hcnt := hR4.la.count
            obtain rfl : c' = (l0 : Int) + (l1 : Int) := by have := HC'.out; omega
            have hlr := hR4.la.small
            have hlb : (l0 : Int) + (l1 : Int) ≤ 21 := by omega
            have HL0 := Lib.hid hl0
            have HL1 := Lib.hid hl1
            have HLS := Lib.hid hls
            clear hl0 hl1 hls hcnt hcb
            go_wp2_with fail
            refine (la_count hR4.la 0).mono ?_
            rintro e w6 ⟨rfl, rfl⟩
            rw [HL0.out]
            go_wp2_with fail
            refine (la_count hR4.la 1).mono ?_
            rintro e w6 ⟨rfl, rfl⟩
            rw [HL1.out]
            go_wp2_with fail
            refine (la_free hR4.la).mono ?_
            rintro e w6 ⟨rfl, rfl⟩
            rw [HLS.out]
            go_wp2_with fail
            go_roundw
            case rel => exact ⟨k + 1, by go_num, by omega, B, hR4⟩
            case measure => simp [intOf]; omega
      · have hways : tk A s = false ∨ (tk A s = true ∧ (t == 0) = false) := by
          cases h : tk A s with
          | false => exact .inl rfl
          | true => exact .inr ⟨rfl, by rw [beq_eq_false_iff_ne]; exact fun h0 => hb1 ⟨h, h0⟩⟩
        clear hb1
        obtain ⟨m, hm⟩ : ∃ m : Nat, (k : Int) % 2 = (m : Int) := ⟨k % 2, by omega⟩
        have hm2 : m < A.length := by have := hR.two; omega
        have hgb := withI_bd x.qty 0 9 (by omega)
        have HG := Lib.hid fun w => within_any x.qty 0 9 w ok4.1 ok4.2 (by omega) (by omega) (by omega)
        generalize withI x.qty 0 9 = g at *
        have hfl := freeI_le room A
        obtain ⟨L1, hL1⟩ : ∃ L, A[m]? = some L := ⟨_, List.getElem?_eq_getElem hm2⟩
        have HPS : ∀ r, leastFree room A = some r → Hid (pushA room A (m : Int) (k : Int) (1 + g) false = (A.set m (L1 ++ [⟨r, k, 1 + g, false⟩]), (r : Int), 0)) := fun r hr => Lib.hid (by
          unfold pushA
          rw [if_neg (by omega), if_neg (by omega), hr, Int.toNat_natCast, getD_of hL1])
        have HPN : leastFree room A = none → Hid (pushA room A (m : Int) (k : Int) (1 + g) false = (A, 0, 13)) := fun hr => Lib.hid (by
          unfold pushA
          rw [if_neg (by omega), if_neg (by omega), hr])
        have HPS' := Lib.hid HPS
        have HPN' := Lib.hid HPN
        have HL1 := Lib.hid hL1
        clear HPS HPN hL1
        rcases hways with htk | ⟨htk, ht0⟩
        all_goals
          rw [htk] at hcs
          clear htk
          go_wp2_with fail
          refine (within_any x.slot 0 _ _ ok2.1 ok2.2 (by omega) (by omega) (by omega)).mono ?_
          rintro e w1 ⟨rfl, rfl⟩
          rw [HS.out]
          go_wp2_with fail
          clear hcs
          go_loop [12] (fun j => ∃ j' : Nat, j = .int .i64 j' ∧ j' ≤ freeI room A) (fun j => room - (intOf j).toNat)
          case atStart => exact ⟨0, rfl, by omega⟩
          case round =>
            obtain ⟨j, rfl, hj⟩ := hrel
            by_cases hjf : j < freeI room A
            · have hjr : j < room := by omega
              have hcj := hR.cell hjr
              rw [freeI_lt hjf] at hcj
              go_wp2_with fail
              go_round
              case rel => exact ⟨j + 1, by go_num, by omega⟩
              case measure => simp [intOf]; omega
            · have hjf' : j = freeI room A := by omega
              cases hlf : leastFree room A with
              | none =>
                have hjr : j = room := by rw [hjf']; unfold freeI; rw [hlf]; rfl
                have HP := HPN'.out hlf
                clear hlf hjf' hjf hj hfl
                subst hjr
                go_wp2_with fail
                refine (HG.out _).mono ?_
                rintro e w1 ⟨rfl, rfl⟩
                go_wp2_with fail
                refine (la_push hR.la (m : Int) (k : Int) (1 + g) false).mono ?_
                rw [HP.out]
                rintro e w2 ⟨rfl, hl2, hk2⟩
                have hR3 := hR.calls NN hR.two hl2 hk2
                clear hl2 hk2
                obtain ⟨B, rfl⟩ : ∃ B, B = A := ⟨_, rfl⟩
                go_wp2_with fail
                go_loopw [15, 16] (fun c s w' => ∃ (z : Nat) (c' : Int), s = .int .i64 z ∧ z ≤ j ∧ c = .int .i64 c' ∧ c' = ((List.range z).countP (tk B) : Nat) ∧ Rm W w' (W.heap.size + 1) W.heap.size qb ub j B B) (fun _ s _ => j - (intOf s).toNat)
                case atStart => exact ⟨0, 0, rfl, by omega, rfl, rfl, hR3⟩
                case round =>
                  clear hR3
                  obtain ⟨z, c', rfl, hz, rfl, hc', hR4⟩ := hrel
                  obtain ⟨wp, rfl⟩ : ∃ wp : World, wp = wr := ⟨_, rfl⟩
                  have HC' := Lib.hid hc'
                  have hcb : 0 ≤ c' ∧ c' ≤ 21 := by have := cnt_le B z; omega
                  have hzz : (z : Int) < (j : Int) ↔ z < j := by omega
                  clear hc'
                  by_cases hzr : z < j
                  · have hcz := hR4.cell hzr
                    have HE : Hid ((entOf B (z : Int)).2 = tk B z) := Lib.hid (by unfold entOf tk; cases findA B (z : Int) with | none => rfl | some x => obtain ⟨_, _, _⟩ := x; rfl)
                    have HCS := Lib.hid (cnt_succ B z)
                    have hea : ∃ v0 v1 v2 v3, Hid ((entOf B (z : Int)).1 = .agg #[.int .i64 v0, .int .i64 v1, .int .i64 v2, .bool v3]) := by
                      unfold entOf
                      cases findA B (z : Int) with
                      | none => exact ⟨_, _, _, _, Lib.hid rfl⟩
                      | some x => obtain ⟨_, _, e⟩ := x; exact ⟨_, _, _, _, Lib.hid rfl⟩
                    obtain ⟨v0, v1, v2, v3, HA⟩ := hea
                    cases hb : tk B z
                    all_goals
                      rw [hb] at hcz HE HCS
                      have HB2 := Lib.hid hb
                      clear hb
                      go_wp2_with fail
                      refine (la_get hR4.la (z : Int)).mono ?_
                      rintro e w6 ⟨rfl, h6⟩
                      rw [HE.out, HA.out]
                      have hR6 := hR4.below h6
                      have hcz6 := hR6.cell hzr
                      rw [HB2.out] at hcz6
                      have hul := hR6.used.lt
                      go_wp2_with fail
                      go_roundw
                      case rel => exact ⟨z + 1, _, by go_num, by omega, rfl, by rw [HCS.out]; have := HC'.out; simp; omega, hR6.below ((Below.refl _ _).alloc (Nat.le_refl _) _)⟩
                      case measure => simp [intOf]; omega
                  · obtain rfl : z = j := by omega
                    obtain ⟨l0, l1, hl0, hl1, hls⟩ : ∃ l0 l1 : Nat, cntA B 0 = l0 ∧ cntA B 1 = l1 ∧ (((B.map List.length).sum : Nat) : Int) = (l0 : Int) + (l1 : Int) := by
                      have h2 := hR4.two
                      match B, h2 with
                      | [L0, L1], _ => exact ⟨L0.length, L1.length, rfl, rfl, by simp⟩
                    have hcnt := hR4.la.count
                    obtain rfl : c' = (l0 : Int) + (l1 : Int) := by have := HC'.out; omega
                    have hlr := hR4.la.small
                    have hlb : (l0 : Int) + (l1 : Int) ≤ 21 := by omega
                    have HL0 := Lib.hid hl0
                    have HL1 := Lib.hid hl1
                    have HLS := Lib.hid hls
                    clear hl0 hl1 hls hcnt hcb
                    go_wp2_with fail
                    refine (la_count hR4.la 0).mono ?_
                    rintro e w6 ⟨rfl, rfl⟩
                    rw [HL0.out]
                    go_wp2_with fail
                    refine (la_count hR4.la 1).mono ?_
                    rintro e w6 ⟨rfl, rfl⟩
                    rw [HL1.out]
                    go_wp2_with fail
                    refine (la_free hR4.la).mono ?_
                    rintro e w6 ⟨rfl, rfl⟩
                    rw [HLS.out]
                    go_wp2_with fail
                    go_roundw
                    case rel => exact ⟨k + 1, by go_num, by omega, B, hR4⟩
                    case measure => simp [intOf]; omega
              | some r =>
                have hjr : j = r := by rw [hjf']; unfold freeI; rw [hlf]; rfl
                obtain ⟨hrr, hr2, _⟩ := least_some hlf
                have hjn := hR.cell hrr
                rw [show tk A r = false by unfold tk; rw [hr2]; rfl] at hjn
                have HP := HPS'.out r hlf
                have htks : ∀ i, tk (A.set m (L1 ++ [⟨r, k, 1 + g, false⟩])) i = if i = r then true else tk A i := by
                  intro i
                  have h1 := taken_push HL1.out ⟨r, k, 1 + g, false⟩ i
                  by_cases hi : i = r
                  · rw [if_pos hi]; exact tk_true (h1.2 (.inr hi))
                  · rw [if_neg hi]; exact tk_eq (h1.trans ⟨fun h => h.resolve_right hi, .inl⟩)
                have h2B : (A.set m (L1 ++ [⟨r, k, 1 + g, false⟩])).length = 2 := by simpa using hR.two
                have HTK := Lib.hid htks
                obtain ⟨B, HBE⟩ : ∃ B, Hid (A.set m (L1 ++ [(⟨r, k, 1 + g, false⟩ : Ent)]) = B) := ⟨_, rfl⟩
                rw [HBE.out] at HP HTK h2B
                clear hlf hjf' hjf hj hfl hr2 htks HBE
                subst hjr
                have hjr2 : (j : Int) < (room : Int) := by omega
                go_wp2_with fail
                clear hjn
                refine (HG.out _).mono ?_
                rintro e w1 ⟨rfl, rfl⟩
                go_wp2_with fail
                refine (la_push hR.la (m : Int) (k : Int) (1 + g) false).mono ?_
                rw [HP.out]
                rintro e w2 ⟨rfl, hl2, hk2⟩
                have hR2 := hR.calls NN h2B hl2 hk2
                have hc2 := hR2.cell hrr
                have hf2 := hR2.used.frozen j
                have hR3 := hR2.put NN HTK.out
                clear hl2 hk2
                go_wp2_with fail
                clear hc2 hf2 hR2
                generalize w2.setCell ⟨ub, j, none⟩ (.bool true) = w3 at *
                go_loopw [15, 16] (fun c s w' => ∃ (z : Nat) (c' : Int), s = .int .i64 z ∧ z ≤ room ∧ c = .int .i64 c' ∧ c' = ((List.range z).countP (tk B) : Nat) ∧ Rm W w' (W.heap.size + 1) W.heap.size qb ub room B B) (fun _ s _ => room - (intOf s).toNat)
                case atStart => exact ⟨0, 0, rfl, by omega, rfl, rfl, hR3⟩
                case round =>
                  clear hR3
                  obtain ⟨z, c', rfl, hz, rfl, hc', hR4⟩ := hrel
                  obtain ⟨wp, rfl⟩ : ∃ wp : World, wp = wr := ⟨_, rfl⟩
                  have HC' := Lib.hid hc'
                  have hcb : 0 ≤ c' ∧ c' ≤ 21 := by have := cnt_le B z; omega
                  have hzz : (z : Int) < (room : Int) ↔ z < room := by omega
                  clear hc'
                  by_cases hzr : z < room
                  · have hcz := hR4.cell hzr
                    have HE : Hid ((entOf B (z : Int)).2 = tk B z) := Lib.hid (by unfold entOf tk; cases findA B (z : Int) with | none => rfl | some x => obtain ⟨_, _, _⟩ := x; rfl)
                    have HCS := Lib.hid (cnt_succ B z)
                    have hea : ∃ v0 v1 v2 v3, Hid ((entOf B (z : Int)).1 = .agg #[.int .i64 v0, .int .i64 v1, .int .i64 v2, .bool v3]) := by
                      unfold entOf
                      cases findA B (z : Int) with
                      | none => exact ⟨_, _, _, _, Lib.hid rfl⟩
                      | some x => obtain ⟨_, _, e⟩ := x; exact ⟨_, _, _, _, Lib.hid rfl⟩
                    obtain ⟨v0, v1, v2, v3, HA⟩ := hea
                    cases hb : tk B z
                    all_goals
                      rw [hb] at hcz HE HCS
                      have HB2 := Lib.hid hb
                      clear hb
                      go_wp2_with fail
                      refine (la_get hR4.la (z : Int)).mono ?_
                      rintro e w6 ⟨rfl, h6⟩
                      rw [HE.out, HA.out]
                      have hR6 := hR4.below h6
                      have hcz6 := hR6.cell hzr
                      rw [HB2.out] at hcz6
                      have hul := hR6.used.lt
                      go_wp2_with fail
                      go_roundw
                      case rel => exact ⟨z + 1, _, by go_num, by omega, rfl, by rw [HCS.out]; have := HC'.out; simp; omega, hR6.below ((Below.refl _ _).alloc (Nat.le_refl _) _)⟩
                      case measure => simp [intOf]; omega
                  · obtain rfl : z = room := by omega
                    obtain ⟨l0, l1, hl0, hl1, hls⟩ : ∃ l0 l1 : Nat, cntA B 0 = l0 ∧ cntA B 1 = l1 ∧ (((B.map List.length).sum : Nat) : Int) = (l0 : Int) + (l1 : Int) := by
                      have h2 := hR4.two
                      match B, h2 with
                      | [L0, L1], _ => exact ⟨L0.length, L1.length, rfl, rfl, by simp⟩
                    have hcnt := hR4.la.count
                    obtain rfl : c' = (l0 : Int) + (l1 : Int) := by have := HC'.out; omega
                    have hlr := hR4.la.small
                    have hlb : (l0 : Int) + (l1 : Int) ≤ 21 := by omega
                    have HL0 := Lib.hid hl0
                    have HL1 := Lib.hid hl1
                    have HLS := Lib.hid hls
                    clear hl0 hl1 hls hcnt hcb
                    go_wp2_with fail
                    refine (la_count hR4.la 0).mono ?_
                    rintro e w6 ⟨rfl, rfl⟩
                    rw [HL0.out]
                    go_wp2_with fail
                    refine (la_count hR4.la 1).mono ?_
                    rintro e w6 ⟨rfl, rfl⟩
                    rw [HL1.out]
                    go_wp2_with fail
                    refine (la_free hR4.la).mono ?_
                    rintro e w6 ⟨rfl, rfl⟩
                    rw [HLS.out]
                    go_wp2_with fail
                    go_roundw
                    case rel => exact ⟨k + 1, by go_num, by omega, B, hR4⟩
                    case measure => simp [intOf]; omega
    · go_wp2_with fail
      all_goals
        refine (known_any _).mono ?_
        rintro e w1 ⟨rfl, hb1⟩
        go_wp2_with fail
        go_ret
        exact ⟨rfl, hR.bel.trans (hb1.mono hR.bel.size)⟩
end Go.Proofs.Ytbpmoomklknkkaa
