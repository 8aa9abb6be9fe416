/- The walk of cornhilllaw8.LevelRefused. -/
import Derived.Test.YtbpmoomklknkkaaEnt
import Derived.Deep.RegionHeld3
namespace Go.Proofs.Ytbpmoomklknkkaa
open Go.RowKit

/-- what a round of the law's loop starts with -/
structure Rf (W w : World) (pb sb qb room : Nat) (A : List (List Ent)) : Prop where
  two : A.length = 2
  la : LA w pb sb (some ⟨qb, 0, none⟩) room A
  bel : Below W.heap.size W w
structure RfN (W : World) (pb sb qb : Nat) : Prop where
  p : W.heap.size ≤ pb
  s : W.heap.size ≤ sb
  q : W.heap.size ≤ qb
section
variable {W w w' : World} {pb sb qb room : Nat} {A B : List (List Ent)}
theorem RfN.ge (h : RfN W pb sb qb) : ∀ k, LF pb sb (some ⟨qb, 0, none⟩) k → W.heap.size ≤ k :=
  LF_ge h.p h.s fun g hg => by injection hg with hg; injection hg with hg; have := h.q; omega
theorem Rf.below (h : Rf W w pb sb qb room A) (hb : Below w.heap.size w w') : Rf W w' pb sb qb room A :=
  ⟨h.two, h.la.below hb, h.bel.trans (hb.mono h.bel.size)⟩
theorem Rf.calls (h : Rf W w pb sb qb room A) (n : RfN W pb sb qb) (h2 : B.length = 2) (hl : LA w' pb sb (some ⟨qb, 0, none⟩) room B) (hk : Keeps (LF pb sb (some ⟨qb, 0, none⟩)) w w') : Rf W w' pb sb qb room B :=
  ⟨h2, hl, h.bel.trans (hk.below n.ge h.bel.size)⟩
end

theorem push_refused (room : Nat) (A : List (List Ent)) (n id qty : Int) (top : Bool) (h2 : A.length = 2) : ((pushA room A n id qty top).2.2 ≠ 0 → (pushA room A n id qty top).1 = A) ∧ (pushA room A n id qty top).1.length = 2 := by
  unfold pushA
  split
  · exact ⟨fun _ => rfl, h2⟩
  · split
    · exact ⟨fun _ => rfl, h2⟩
    · split
      · exact ⟨fun _ => rfl, h2⟩
      · exact ⟨fun h => absurd rfl h, by simpa using h2⟩
theorem take_refused (A : List (List Ent)) (i qty : Int) (h2 : A.length = 2) : ((takeA A i qty).2 ≠ 0 → (takeA A i qty).1 = A) ∧ (takeA A i qty).1.length = 2 := by
  unfold takeA
  split
  · exact ⟨fun _ => rfl, h2⟩
  · split
    · exact ⟨fun _ => rfl, h2⟩
    · split
      · exact ⟨fun h => absurd rfl h, by simpa using h2⟩
      · exact ⟨fun h => absurd rfl h, by simpa using h2⟩
theorem top_refused (A : List (List Ent)) (i : Int) (t : Bool) (h2 : A.length = 2) : ((topA A i t).2 ≠ 0 → (topA A i t).1 = A) ∧ (topA A i t).1.length = 2 := by
  unfold topA
  split
  · exact ⟨fun _ => rfl, h2⟩
  · exact ⟨fun h => absurd rfl h, by simpa using h2⟩
theorem grown_keeps {w w' : World} {r : Option Nat} (h : w.grownBy w' r) : Keeps (fun g => r = some g) w w' :=
  ⟨h.os, h.tape, h.output, h.size, fun k hk hf => h.block k hk fun e => hf e.symm⟩
theorem RowV.far {w : World} {B : Nat} {v : Value} {L : List Ent} (h : RowV w B v L) {g : Nat} {t : TypeId} {cs : Array Value} (hg : Blk w g t cs) (ht : 33 ≠ t) (i : Nat) (u : Value) : RowV (w.setCell ⟨g, i, none⟩ u) B v L :=
  own_far h (own_ne h hg ht) u

set_option maxRecDepth 100000 in
set_option maxHeartbeats 8000000 in
theorem refused_any (room0 : Int) (p : Option Addr) (n c : Nat) (f : Nat → AskR) (W : World) (hr1 : -9223372036854775808 ≤ room0) (hr2 : room0 ≤ 9223372036854775807) (hA : Asks W p n f) :
    Calls Try.prog 5 #[.int .i64 room0, .slice p n c] W fun e w' => e = .returned (.bool true) ∧ Below W.heap.size W w' := by
  obtain ⟨hok, hcells⟩ := hA
  have hwb := withI_bd room0 0 12 (by omega)
  obtain ⟨room, hroom⟩ : ∃ room : Nat, 1 + withI room0 0 12 = (room : Int) := ⟨(1 + withI room0 0 12).toNat, by omega⟩
  have hrm : 1 ≤ room ∧ room ≤ 13 := by omega
  have HROOM := Lib.hid hroom
  have HOK := Lib.hid hok
  have HC := Lib.hid hcells
  obtain ⟨i0, hi, hz0, hz1, hz2⟩ := info_parts info_ent
  have HI := Lib.hid hi
  have HZ0 := Lib.hid hz0
  have HZ1 := Lib.hid hz1
  have HZ2 := Lib.hid hz2
  clear hroom hok hcells hi hz0 hz1 hz2
  go_enter Try.func5, Try.ntmps5
  go_wp2_with fail
  refine (within_any room0 0 12 _ hr1 hr2 (by omega) (by omega) (by omega)).mono ?_
  rintro e w1 ⟨rfl, rfl⟩
  have hx : 1 + withI room0 0 12 = (room : Int) := HROOM.out
  go_wp2_with fail
  clear hx
  refine (la_new room _ (by omega) (by omega)).mono ?_
  rintro e w1 ⟨rfl, h1, k1⟩
  have B1 := Lib.hid (k1.below (B := W.heap.size) (fun _ h => h.elim) (Nat.le_refl _))
  have hz1 := B1.out.size
  go_wp2_with fail
  refine (la_open h1 (by simp)).mono ?_
  rintro e w2 ⟨rfl, ⟨qb1, hqb1, h2⟩, k2⟩
  have hqb1' : W.heap.size ≤ qb1 := by
    rcases hqb1 with h | h
    · cases h
    · omega
  have B2 := Lib.hid (B1.out.trans (k2.below (LF_ge (by omega) (by omega) (fun g hg => by cases hg)) B1.out.size))
  clear h1 k1 k2 hqb1
  go_wp2_with fail
  refine (la_open h2 (by simp)).mono ?_
  rintro e w3 ⟨rfl, ⟨qb, hqb, h3⟩, k3⟩
  have hqb' : W.heap.size ≤ qb := by
    rcases hqb with h | h
    · injection h with h; injection h with h; omega
    · have := B2.out.size; omega
  have B3 := Lib.hid (B2.out.trans (k3.below (LF_ge (by omega) (by omega) (fun g hg => by injection hg with hg; injection hg with hg; omega)) B2.out.size))
  clear h2 k3 hqb
  go_wp2_with fail
  have NN : RfN W (W.heap.size + 1) W.heap.size qb := ⟨by omega, by omega, hqb'⟩
  have I0 : Rf W w3 (W.heap.size + 1) W.heap.size qb room [[], []] := ⟨rfl, h3, B3.out⟩
  clear h3 B1 B2 B3 hz1 HROOM hwb
  go_loopw [7] (fun i w' => ∃ k : Nat, i = .int .i64 k ∧ k ≤ 50 ∧ ∃ A, Rf W w' (W.heap.size + 1) W.heap.size qb room A) (fun i _ => 50 - (intOf i).toNat)
  case atStart => exact ⟨0, rfl, by omega, _, I0⟩
  case round =>
    clear I0
    obtain ⟨k, rfl, hk, A, hR⟩ := hrel
    obtain ⟨wo, rfl⟩ : ∃ wo : World, wo = wr := ⟨_, rfl⟩
    by_cases hlt : k < n ∧ k < 50
    · obtain ⟨hkn, hk60⟩ := hlt
      obtain ⟨b, off, rfl, hbl, ha⟩ := HC.out k hkn
      have hkl : (k : Int) < (n : Int) := by omega
      have HAA := Lib.hid ha
      have hxok := HOK.out k
      generalize f k = x at *
      obtain ⟨ok0, ok1, ok2, ok3, ok4⟩ := hxok
      have k0 : -9223372036854775808 ≤ x.kind ∧ x.kind ≤ 9223372036854775807 := ok0
      clear ha
      obtain ⟨L0, L1, hAL⟩ : ∃ L0 L1, A = [L0, L1] := by
        have h2 := hR.two
        match A, h2 with
        | [L0, L1], _ => exact ⟨L0, L1, rfl⟩
      subst hAL
      go_wp2_with fail
      refine wp_loop_rounds 3 ?_
      rw [rounds_succ]
      go_wp2_with fail
      have hA0 : Below wo.heap.size wo (wo.alloc (.cells #[.slice none 0 0, .slice none 0 0] 45)) := (Below.refl _ _).alloc (Nat.le_refl _) _
      have hB0 : Blk (wo.alloc (.cells #[.slice none 0 0, .slice none 0 0] 45)) wo.heap.size 45 #[.slice none 0 0, .slice none 0 0] := Blk.new _ _ _
      have HSZ : Hid ((wo.alloc (.cells #[.slice none 0 0, .slice none 0 0] 45)).heap.size = wo.heap.size + 1) := Lib.hid (by simp)
      generalize wo.alloc (.cells #[.slice none 0 0, .slice none 0 0] 45) = wA at *
      refine (la_list (hR.below (hA0.alloc hA0.size _)).la 0 (by omega) (by simp)).mono ?_
      rintro e w4 ⟨a0, c0, rfl, hown0, hb4⟩
      have HO0 : Hid (RowV w4 (wA.alloc (.cells #[] 33)).heap.size (.slice a0 L0.length c0) L0) := Lib.hid hown0
      have HB4 := Lib.hid hb4
      clear hown0 hb4
      obtain ⟨_, _, hv0, hac0, hrd0⟩ := HO0.out.rd
      obtain ⟨rfl, rfl⟩ : a0 = _ ∧ c0 = _ := by injection hv0 with x y z; exact ⟨x, z⟩
      have HRD := Lib.hid hrd0
      clear hrd0 hv0
      have hz4 := HB4.out.size
      have hz4' : wo.heap.size + 1 < w4.heap.size := by simp [HSZ.out] at hz4; omega
      have hN : Blk w4 (wo.heap.size + 1) 33 #[] := (HB4.out.block (wo.heap.size + 1) (by simp [HSZ.out])).trans (by rw [← HSZ.out]; exact heap_alloc_new wA _)
      have hOE : RowV w4 wo.heap.size (.slice (some ⟨wo.heap.size + 1, 0, none⟩) 0 0) [] :=
        ⟨rfl, .inr ⟨wo.heap.size + 1, 0, #[], rfl, by omega, hN, Nat.le_refl _, by omega, rfl, rfl⟩⟩
      have HOE := Lib.hid hOE
      clear hOE hN hz4
      have hsL := hR.la.small
      have hsL' : L0.length + L1.length ≤ 4096 := by simp at hsL; omega
      clear hsL
      go_wp2_with (at_builtin; refine wpList_append_ents rfl (.tmp 54) (.tmp 57) rfl wo.heap.size (.slice (some ⟨wo.heap.size + 1, 0, none⟩) 0 0) [] rfl HOE.out a0 c0 L0 rfl hac0 HRD.out (by simp; omega) (by omega) ?_)
      intro v5 w5 hv5 hg5 _
      obtain ⟨a5, c5, rfl⟩ : ∃ a5 c5, v5 = .slice a5 L0.length c5 := RowV.form (L := L0) hv5
      have hb5 : Below wo.heap.size wo w5 := grown_below hg5 ((hA0.alloc hA0.size _).trans (HB4.out.mono (by simp [HSZ.out]; omega))) (fun g hg => by have h0 : some (wo.heap.size + 1) = some g := hg; injection h0 with h0; omega)
      have hB5 : Blk w5 wo.heap.size 45 #[.slice none 0 0, .slice none 0 0] :=
        ((hB0.alloc _).keeps (Below.keeps (F := fun _ => False) HB4.out) (fun x => x)).keeps (grown_keeps hg5) (fun hg => by have h0 : some (wo.heap.size + 1) = some wo.heap.size := hg; injection h0 with h0; omega)
      have HV5 : Hid (RowV w5 wo.heap.size (.slice a5 L0.length c5) L0) := Lib.hid hv5
      have hR5 := hR.below hb5
      have cc : w5.cell? ⟨wo.heap.size, 0, none⟩ = some (.slice none 0 0) := by rw [hB5.cell]; rfl
      have cf : w5.frozen? ⟨wo.heap.size, 0, none⟩ = false := hB5.frozen 0
      clear hv5 hg5 HB4 HO0 HRD HOE HSZ hA0 hB0 hac0
      go_wp2_with fail
      rw [rounds_succ]
      clear cc cf
      have hb6 : Below wo.heap.size wo (w5.setCell ⟨wo.heap.size, 0, none⟩ (.slice a5 L0.length c5)) := hb5.setCell (p := ⟨wo.heap.size, 0, none⟩) (Nat.le_refl _) _
      have hB6 : Blk (w5.setCell ⟨wo.heap.size, 0, none⟩ (.slice a5 L0.length c5)) wo.heap.size 45 #[(.slice a5 L0.length c5), .slice none 0 0] := hB5.set_ 0 (.slice a5 L0.length c5)
      have HV6 : Hid (RowV (w5.setCell ⟨wo.heap.size, 0, none⟩ (.slice a5 L0.length c5)) wo.heap.size (.slice a5 L0.length c5) L0) := Lib.hid (HV5.out.far hB5 (by decide) 0 (.slice a5 L0.length c5))
      have hR6 : Rf W (w5.setCell ⟨wo.heap.size, 0, none⟩ (.slice a5 L0.length c5)) (W.heap.size + 1) W.heap.size qb room [L0, L1] := hR.below hb6
      clear hR5 HV5 hB5 hb5
      generalize w5.setCell ⟨wo.heap.size, 0, none⟩ (.slice a5 L0.length c5) = w6 at *
      have hz6 := hb6.size
      have hz6' : wo.heap.size < w6.heap.size := hB6.lt
      go_wp2_with fail
      refine (la_list (hR6.below ((Below.refl _ _).alloc (Nat.le_refl _) _)).la 1 (by omega) (by simp)).mono ?_
      rintro e w7 ⟨a1, c1, rfl, hown1, hb7⟩
      have HO1 : Hid (RowV w7 (w6.alloc (.cells #[] 33)).heap.size (.slice a1 L1.length c1) L1) := Lib.hid hown1
      have HB7 := Lib.hid hb7
      clear hown1 hb7
      obtain ⟨_, _, hv1, hac1, hrd1⟩ := HO1.out.rd
      obtain ⟨rfl, rfl⟩ : a1 = _ ∧ c1 = _ := by injection hv1 with x y z; exact ⟨x, z⟩
      have HRD1 := Lib.hid hrd1
      clear hrd1 hv1
      have hz7 := HB7.out.size
      have hz7' : w6.heap.size < w7.heap.size := by simp at hz7; omega
      have hN : Blk w7 w6.heap.size 33 #[] := (HB7.out.block w6.heap.size (by simp)).trans (heap_alloc_new w6 _)
      have hOE : RowV w7 wo.heap.size (.slice (some ⟨w6.heap.size, 0, none⟩) 0 0) [] :=
        ⟨rfl, .inr ⟨w6.heap.size, 0, #[], rfl, by omega, hN, Nat.le_refl _, by omega, rfl, rfl⟩⟩
      have HOE := Lib.hid hOE
      clear hOE hN hz7
      go_wp2_with (at_builtin; refine wpList_append_ents rfl (.tmp 54) (.tmp 57) rfl wo.heap.size (.slice (some ⟨w6.heap.size, 0, none⟩) 0 0) [] rfl HOE.out a1 c1 L1 rfl hac1 HRD1.out (by simp; omega) (by omega) ?_)
      intro v8 w8 hv8 hg8 _
      obtain ⟨a8, c8, rfl⟩ : ∃ a8 c8, v8 = .slice a8 L1.length c8 := RowV.form (L := L1) hv8
      have hb78 : Below w6.heap.size w6 w8 := grown_below hg8 (((Below.refl _ _).alloc (Nat.le_refl _) _).trans (HB7.out.mono (by simp))) (fun g hg => by have h0 : some w6.heap.size = some g := hg; injection h0 with h0; omega)
      have hb8 : Below wo.heap.size wo w8 := hb6.trans (hb78.mono hz6)
      have hB8 : Blk w8 wo.heap.size 45 #[(.slice a5 L0.length c5), .slice none 0 0] := hB6.keeps (Below.keeps (F := fun _ => False) hb78) (fun x => x)
      have HV85 : Hid (RowV w8 wo.heap.size (.slice a5 L0.length c5) L0) := Lib.hid (own_below HV6.out hb78)
      have HV88 : Hid (RowV w8 wo.heap.size (.slice a8 L1.length c8) L1) := Lib.hid hv8
      have cc : w8.cell? ⟨wo.heap.size, 1, none⟩ = some (.slice none 0 0) := by rw [hB8.cell]; rfl
      have cf : w8.frozen? ⟨wo.heap.size, 1, none⟩ = false := hB8.frozen 1
      clear hv8 hg8 HB7 HO1 HRD1 HOE hac1 hb78
      go_wp2_with fail
      rw [rounds_succ]
      clear cc cf
      have hb9 : Below wo.heap.size wo (w8.setCell ⟨wo.heap.size, 1, none⟩ (.slice a8 L1.length c8)) := hb8.setCell (p := ⟨wo.heap.size, 1, none⟩) (Nat.le_refl _) _
      have hB9 : Blk (w8.setCell ⟨wo.heap.size, 1, none⟩ (.slice a8 L1.length c8)) wo.heap.size 45 #[(.slice a5 L0.length c5), (.slice a8 L1.length c8)] := hB8.set_ 1 (.slice a8 L1.length c8)
      have HVA : Hid (RowV (w8.setCell ⟨wo.heap.size, 1, none⟩ (.slice a8 L1.length c8)) wo.heap.size (.slice a5 L0.length c5) L0) := Lib.hid (HV85.out.far hB8 (by decide) 1 (.slice a8 L1.length c8))
      have HVB : Hid (RowV (w8.setCell ⟨wo.heap.size, 1, none⟩ (.slice a8 L1.length c8)) wo.heap.size (.slice a8 L1.length c8) L1) := Lib.hid (HV88.out.far hB8 (by decide) 1 (.slice a8 L1.length c8))
      have hR9 : Rf W (w8.setCell ⟨wo.heap.size, 1, none⟩ (.slice a8 L1.length c8)) (W.heap.size + 1) W.heap.size qb room [L0, L1] := hR.below hb9
      clear hR6 HV6 hB6 hb6 hB8 HV85 HV88 hb8 hz6 hz6' hz7' hz4'
      generalize w8.setCell ⟨wo.heap.size, 1, none⟩ (.slice a8 L1.length c8) = w9 at *
      have hwb : ¬ LF (W.heap.size + 1) W.heap.size (some ⟨qb, 0, none⟩) wo.heap.size := by
        have := hR.la.lt
        rintro (h | h | h)
        · omega
        · omega
        · injection h with h; injection h with h; have := this.2.2 qb rfl; omega
      obtain ⟨x0, x1, x2, x3, x4, x5⟩ := HAA.out.below hR9.bel hbl
      have hways : x.kind = 2 ∨ x.kind = 3 ∨ x.kind = 4 ∨ ((x.kind == 2) = false ∧ (x.kind == 3) = false ∧ (x.kind == 4) = false) := by
        simp only [beq_eq_false_iff_ne]; omega
      rcases hways with hk2 | hk2 | hk2 | ⟨hk2, hk3, hk4⟩
      · rw [hk2] at x0; clear hk2
        have hD : Below w9.heap.size w9 w9.drew := Below.drewN_of w9 1
        have hRD := hR9.below hD
        have HBD : Hid (Blk w9.drew wo.heap.size 45 #[(.slice a5 L0.length c5), (.slice a8 L1.length c8)]) := Lib.hid hB9
        have HVAD : Hid (RowV w9.drew wo.heap.size (.slice a5 L0.length c5) L0) := Lib.hid (own_below HVA.out hD)
        have HVBD : Hid (RowV w9.drew wo.heap.size (.slice a8 L1.length c8) L1) := Lib.hid (own_below HVB.out hD)
        clear hD hR9 hB9 HVA HVB
        have hp := la_push hRD.la x.queue x.id x.qty x.top
        have h1 := push_refused room [L0, L1] x.queue x.id x.qty x.top rfl
        generalize pushA room [L0, L1] x.queue x.id x.qty x.top = P at hp h1
        obtain ⟨B, sN, fz⟩ := P
        go_wp2_with fail
        go_region_held3 (fun w' => w'.cell? ⟨b, off + k * 6 + 1, none⟩ = some (.int .i64 x.queue) ∧ w'.cell? ⟨b, off + k * 6 + 3, none⟩ = some (.int .i64 x.id) ∧ w'.cell? ⟨b, off + k * 6 + 4, none⟩ = some (.int .i64 x.qty) ∧ w'.cell? ⟨b, off + k * 6 + 5, none⟩ = some (.bool x.top))
          (first
            | go_keep)
          (first
            | (go_at_call 13; refine hp.mono ?_; rintro e w10 ⟨rfl, hl10, hk10⟩; obtain ⟨_, z1, _, z3, z4, z5⟩ := HAA.out.below (hRD.calls NN h1.2 hl10 hk10).bel hbl))
        clear x0 x1 x2 x3 x4 x5
        have hR10 := hRD.calls NN h1.2 hl10 hk10
        have HBE : Hid (Blk w10 wo.heap.size 45 #[(.slice a5 L0.length c5), (.slice a8 L1.length c8)]) := Lib.hid (HBD.out.keeps hk10 hwb)
        have HVA : Hid (RowV w10 wo.heap.size (.slice a5 L0.length c5) L0) := Lib.hid (own_keep HVAD.out hk10 (hRD.la.ne HVAD.out))
        have HVB : Hid (RowV w10 wo.heap.size (.slice a8 L1.length c8) L1) := Lib.hid (own_keep HVBD.out hk10 (hRD.la.ne HVBD.out))
        have HFZ : Hid (fz ≠ 0 → B = [L0, L1]) := Lib.hid h1.1
        clear hl10 hk10 hp hRD HBD HVAD HVBD h1
        go_wp2_with fail
        go_loopw [11] (fun q w' => ∃ z : Nat, q = .int .i64 z ∧ z ≤ 2 ∧ Below w10.heap.size w10 w') (fun q _ => 2 - (intOf q).toNat)
        case atStart => exact ⟨0, rfl, by omega, Below.refl _ _⟩
        case round =>
          obtain ⟨z, rfl, hz, hbz⟩ := hrel
          obtain ⟨wp, rfl⟩ : ∃ wp : World, wp = wr := ⟨_, rfl⟩
          have hRz := hR10.below hbz
          have hz3 : z = 0 ∨ z = 1 ∨ z = 2 := by omega
          rcases hz3 with rfl | rfl | rfl
          · obtain ⟨LB, hLB⟩ : ∃ LB, B[0]? = some LB := ⟨_, List.getElem?_eq_getElem (by have := hR10.two; omega)⟩
            have hlist := la_list hRz.la 0 (by omega) (by have := hR10.two; omega)
            rw [show B.getD ((0 : Int)).toNat [] = LB from getD_of hLB] at hlist
            have HQ : Hid (∀ (j : Nat) (e : Ent), LB[j]? = some e → 1 ≤ e.qty ∧ e.qty ≤ 1000000) := Lib.hid fun j e he => hR10.la.qty 0 j LB e hLB he
            have hLs : LB.length ≤ 4096 := by
              have h1 := le_sum (B.map List.length) 0 LB.length (by rw [List.getElem?_map, hLB]; rfl)
              have h2 := hR10.la.small
              omega
            have HTO : Hid (totA B 0 = qtys LB) := Lib.hid (by unfold totA; rw [if_neg (by omega)]; exact congrArg qtys (getD_of hLB))
            have HCO : Hid (cntA B 0 = LB.length) := Lib.hid (by unfold cntA; rw [if_neg (by omega)]; exact congrArg (fun l : List Ent => (l.length : Int)) (getD_of hLB))
            have HLB := Lib.hid hLB
            clear hLB
            go_wp2_with fail
            refine hlist.mono ?_
            rintro e w11 ⟨a11, c11, rfl, hown, hb11⟩
            have hR11 := hRz.below hb11
            clear hlist
            by_cases hfz : fz = 0
            · subst hfz
              go_wp2_with fail
              have HRW : Hid (RowV w11 wp.heap.size (.slice a11 LB.length c11) LB) := Lib.hid hown
              clear hown
              go_loop [13, 14] (fun s m => ∃ j : Nat, m = .int .i64 j ∧ j ≤ LB.length ∧ s = .int .i64 (qtys (LB.take j))) (fun _ m => LB.length - (intOf m).toNat)
              case atStart => exact ⟨0, rfl, Nat.zero_le _, rfl⟩
              case round =>
                obtain ⟨j, rfl, hj, rfl⟩ := hrel
                have hqb := qtys_le (LB.take j) fun i (e : Ent) he => HQ.out i e (by rw [List.getElem?_take] at he; split at he; exact he; cases he)
                have hlt : (LB.take j).length ≤ LB.length := List.length_take_le' _ _
                by_cases hjl : j < LB.length
                · obtain ⟨e, he⟩ : ∃ e, LB[j]? = some e := ⟨_, List.getElem?_eq_getElem hjl⟩
                  have hq := HQ.out j e he
                  have HT : Hid (qtys (LB.take (j + 1)) = qtys (LB.take j) + e.qty) := Lib.hid (by
                    rw [List.take_succ_eq_append_getElem hjl, qtys_app]
                    obtain ⟨_, h⟩ := get_of he
                    rw [h])
                  obtain ⟨g, cap, hv, _, e0, e1, e2, e3⟩ := HRW.out.at_ j e he
                  obtain ⟨rfl, rfl⟩ : a11 = some ⟨g, 0, none⟩ ∧ c11 = cap := by injection hv with x y z; exact ⟨x, z⟩
                  have hjl' : (j : Int) < (LB.length : Int) := by omega
                  clear hv he
                  generalize qtys (LB.take j) = Z at *
                  go_wp2_with fail
                  go_round
                  case rel => exact ⟨j + 1, by go_num, by omega, by rw [HT.out]⟩
                  case measure => simp [intOf]; omega
                · obtain rfl : j = LB.length := by omega
                  rw [List.take_length]
                  clear hqb
                  go_wp2_with fail
                  refine (la_total hR11.la 0).mono ?_
                  rintro e w12 ⟨rfl, rfl⟩
                  rw [HTO.out]
                  go_wp2_with fail
                  refine (la_count hR11.la 0).mono ?_
                  rintro e w12 ⟨rfl, rfl⟩
                  rw [HCO.out]
                  go_wp2_with fail
                  go_roundw
                  case rel => exact ⟨0 + 1, rfl, by omega, hbz.trans (hb11.mono hbz.size)⟩
                  case measure => simp [intOf]
            · have hf1 : (fz == 0) = false := by rw [beq_eq_false_iff_ne]; exact hfz
              have hf2 : (fz != 0) = true := by rw [bne_iff_ne]; exact hfz
              have hL : LB = L0 := by
                have := HFZ.out hfz
                have h2 := HLB.out
                rw [this] at h2
                injection h2 with h2
                exact h2.symm
              have hBE : Blk w11 wo.heap.size 45 #[(.slice a5 L0.length c5), (.slice a8 L1.length c8)] := (HBE.out.keeps (Below.keeps (F := fun _ => False) hbz) (fun x => x)).keeps (Below.keeps (F := fun _ => False) hb11) (fun x => x)
              have cc : w11.cell? ⟨wo.heap.size, 0, none⟩ = some (.slice a5 L0.length c5) := by rw [hBE.cell]; rfl
              obtain ⟨_, _, hv1, _, hrd1⟩ := RowV.rd (show RowV w11 wo.heap.size (.slice a5 L0.length c5) L0 from own_below (own_below HVA.out hbz) hb11)
              obtain ⟨_, _, hv2, _, hrd2⟩ := RowV.rd (show RowV w11 wp.heap.size (.slice a11 LB.length c11) LB from hown)
              obtain ⟨rfl, rfl⟩ : a5 = _ ∧ c5 = _ := by injection hv1 with x y z; exact ⟨x, z⟩
              obtain ⟨rfl, rfl⟩ : a11 = _ ∧ c11 = _ := by injection hv2 with x y z; exact ⟨x, z⟩
              have HSM := Lib.hid (same_two a5 a11 c5 c11 L0 LB w11 hL hrd1 hrd2 (by omega))
              clear hrd1 hrd2 hv1 hv2 hBE hL
              go_wp2_with fail
              clear cc
              refine HSM.out.mono ?_
              rintro e w12 ⟨rfl, hb12⟩
              clear HSM
              have hown : RowV w12 wp.heap.size (.slice a11 LB.length c11) LB := own_below hown hb12
              have hR11 := hR11.below hb12
              have hb11 : Below wp.heap.size wp w12 := hb11.trans (hb12.mono hb11.size)
              obtain ⟨w11, rfl⟩ : ∃ w11 : World, w11 = w12 := ⟨_, rfl⟩
              go_wp2_with fail
              have HRW : Hid (RowV w11 wp.heap.size (.slice a11 LB.length c11) LB) := Lib.hid hown
              clear hown
              go_loop [13, 14] (fun s m => ∃ j : Nat, m = .int .i64 j ∧ j ≤ LB.length ∧ s = .int .i64 (qtys (LB.take j))) (fun _ m => LB.length - (intOf m).toNat)
              case atStart => exact ⟨0, rfl, Nat.zero_le _, rfl⟩
              case round =>
                obtain ⟨j, rfl, hj, rfl⟩ := hrel
                have hqb := qtys_le (LB.take j) fun i (e : Ent) he => HQ.out i e (by rw [List.getElem?_take] at he; split at he; exact he; cases he)
                have hlt : (LB.take j).length ≤ LB.length := List.length_take_le' _ _
                by_cases hjl : j < LB.length
                · obtain ⟨e, he⟩ : ∃ e, LB[j]? = some e := ⟨_, List.getElem?_eq_getElem hjl⟩
                  have hq := HQ.out j e he
                  have HT : Hid (qtys (LB.take (j + 1)) = qtys (LB.take j) + e.qty) := Lib.hid (by
                    rw [List.take_succ_eq_append_getElem hjl, qtys_app]
                    obtain ⟨_, h⟩ := get_of he
                    rw [h])
                  obtain ⟨g, cap, hv, _, e0, e1, e2, e3⟩ := HRW.out.at_ j e he
                  obtain ⟨rfl, rfl⟩ : a11 = some ⟨g, 0, none⟩ ∧ c11 = cap := by injection hv with x y z; exact ⟨x, z⟩
                  have hjl' : (j : Int) < (LB.length : Int) := by omega
                  clear hv he
                  generalize qtys (LB.take j) = Z at *
                  go_wp2_with fail
                  go_round
                  case rel => exact ⟨j + 1, by go_num, by omega, by rw [HT.out]⟩
                  case measure => simp [intOf]; omega
                · obtain rfl : j = LB.length := by omega
                  rw [List.take_length]
                  clear hqb
                  go_wp2_with fail
                  refine (la_total hR11.la 0).mono ?_
                  rintro e w12 ⟨rfl, rfl⟩
                  rw [HTO.out]
                  go_wp2_with fail
                  refine (la_count hR11.la 0).mono ?_
                  rintro e w12 ⟨rfl, rfl⟩
                  rw [HCO.out]
                  go_wp2_with fail
                  go_roundw
                  case rel => exact ⟨0 + 1, rfl, by omega, hbz.trans (hb11.mono hbz.size)⟩
                  case measure => simp [intOf]
          · obtain ⟨LB, hLB⟩ : ∃ LB, B[1]? = some LB := ⟨_, List.getElem?_eq_getElem (by have := hR10.two; omega)⟩
            have hlist := la_list hRz.la 1 (by omega) (by have := hR10.two; omega)
            rw [show B.getD ((1 : Int)).toNat [] = LB from getD_of hLB] at hlist
            have HQ : Hid (∀ (j : Nat) (e : Ent), LB[j]? = some e → 1 ≤ e.qty ∧ e.qty ≤ 1000000) := Lib.hid fun j e he => hR10.la.qty 1 j LB e hLB he
            have hLs : LB.length ≤ 4096 := by
              have h1 := le_sum (B.map List.length) 1 LB.length (by rw [List.getElem?_map, hLB]; rfl)
              have h2 := hR10.la.small
              omega
            have HTO : Hid (totA B 1 = qtys LB) := Lib.hid (by unfold totA; rw [if_neg (by omega)]; exact congrArg qtys (getD_of hLB))
            have HCO : Hid (cntA B 1 = LB.length) := Lib.hid (by unfold cntA; rw [if_neg (by omega)]; exact congrArg (fun l : List Ent => (l.length : Int)) (getD_of hLB))
            have HLB := Lib.hid hLB
            clear hLB
            go_wp2_with fail
            refine hlist.mono ?_
            rintro e w11 ⟨a11, c11, rfl, hown, hb11⟩
            have hR11 := hRz.below hb11
            clear hlist
            by_cases hfz : fz = 0
            · subst hfz
              go_wp2_with fail
              have HRW : Hid (RowV w11 wp.heap.size (.slice a11 LB.length c11) LB) := Lib.hid hown
              clear hown
              go_loop [13, 14] (fun s m => ∃ j : Nat, m = .int .i64 j ∧ j ≤ LB.length ∧ s = .int .i64 (qtys (LB.take j))) (fun _ m => LB.length - (intOf m).toNat)
              case atStart => exact ⟨0, rfl, Nat.zero_le _, rfl⟩
              case round =>
                obtain ⟨j, rfl, hj, rfl⟩ := hrel
                have hqb := qtys_le (LB.take j) fun i (e : Ent) he => HQ.out i e (by rw [List.getElem?_take] at he; split at he; exact he; cases he)
                have hlt : (LB.take j).length ≤ LB.length := List.length_take_le' _ _
                by_cases hjl : j < LB.length
                · obtain ⟨e, he⟩ : ∃ e, LB[j]? = some e := ⟨_, List.getElem?_eq_getElem hjl⟩
                  have hq := HQ.out j e he
                  have HT : Hid (qtys (LB.take (j + 1)) = qtys (LB.take j) + e.qty) := Lib.hid (by
                    rw [List.take_succ_eq_append_getElem hjl, qtys_app]
                    obtain ⟨_, h⟩ := get_of he
                    rw [h])
                  obtain ⟨g, cap, hv, _, e0, e1, e2, e3⟩ := HRW.out.at_ j e he
                  obtain ⟨rfl, rfl⟩ : a11 = some ⟨g, 0, none⟩ ∧ c11 = cap := by injection hv with x y z; exact ⟨x, z⟩
                  have hjl' : (j : Int) < (LB.length : Int) := by omega
                  clear hv he
                  generalize qtys (LB.take j) = Z at *
                  go_wp2_with fail
                  go_round
                  case rel => exact ⟨j + 1, by go_num, by omega, by rw [HT.out]⟩
                  case measure => simp [intOf]; omega
                · obtain rfl : j = LB.length := by omega
                  rw [List.take_length]
                  clear hqb
                  go_wp2_with fail
                  refine (la_total hR11.la 1).mono ?_
                  rintro e w12 ⟨rfl, rfl⟩
                  rw [HTO.out]
                  go_wp2_with fail
                  refine (la_count hR11.la 1).mono ?_
                  rintro e w12 ⟨rfl, rfl⟩
                  rw [HCO.out]
                  go_wp2_with fail
                  go_roundw
                  case rel => exact ⟨1 + 1, rfl, by omega, hbz.trans (hb11.mono hbz.size)⟩
                  case measure => simp [intOf]
            · have hf1 : (fz == 0) = false := by rw [beq_eq_false_iff_ne]; exact hfz
              have hf2 : (fz != 0) = true := by rw [bne_iff_ne]; exact hfz
              have hL : LB = L1 := by
                have := HFZ.out hfz
                have h2 := HLB.out
                rw [this] at h2
                injection h2 with h2
                exact h2.symm
              have hBE : Blk w11 wo.heap.size 45 #[(.slice a5 L0.length c5), (.slice a8 L1.length c8)] := (HBE.out.keeps (Below.keeps (F := fun _ => False) hbz) (fun x => x)).keeps (Below.keeps (F := fun _ => False) hb11) (fun x => x)
              have cc : w11.cell? ⟨wo.heap.size, 1, none⟩ = some (.slice a8 L1.length c8) := by rw [hBE.cell]; rfl
              obtain ⟨_, _, hv1, _, hrd1⟩ := RowV.rd (show RowV w11 wo.heap.size (.slice a8 L1.length c8) L1 from own_below (own_below HVB.out hbz) hb11)
              obtain ⟨_, _, hv2, _, hrd2⟩ := RowV.rd (show RowV w11 wp.heap.size (.slice a11 LB.length c11) LB from hown)
              obtain ⟨rfl, rfl⟩ : a8 = _ ∧ c8 = _ := by injection hv1 with x y z; exact ⟨x, z⟩
              obtain ⟨rfl, rfl⟩ : a11 = _ ∧ c11 = _ := by injection hv2 with x y z; exact ⟨x, z⟩
              have HSM := Lib.hid (same_two a8 a11 c8 c11 L1 LB w11 hL hrd1 hrd2 (by omega))
              clear hrd1 hrd2 hv1 hv2 hBE hL
              go_wp2_with fail
              clear cc
              refine HSM.out.mono ?_
              rintro e w12 ⟨rfl, hb12⟩
              clear HSM
              have hown : RowV w12 wp.heap.size (.slice a11 LB.length c11) LB := own_below hown hb12
              have hR11 := hR11.below hb12
              have hb11 : Below wp.heap.size wp w12 := hb11.trans (hb12.mono hb11.size)
              obtain ⟨w11, rfl⟩ : ∃ w11 : World, w11 = w12 := ⟨_, rfl⟩
              go_wp2_with fail
              have HRW : Hid (RowV w11 wp.heap.size (.slice a11 LB.length c11) LB) := Lib.hid hown
              clear hown
              go_loop [13, 14] (fun s m => ∃ j : Nat, m = .int .i64 j ∧ j ≤ LB.length ∧ s = .int .i64 (qtys (LB.take j))) (fun _ m => LB.length - (intOf m).toNat)
              case atStart => exact ⟨0, rfl, Nat.zero_le _, rfl⟩
              case round =>
                obtain ⟨j, rfl, hj, rfl⟩ := hrel
                have hqb := qtys_le (LB.take j) fun i (e : Ent) he => HQ.out i e (by rw [List.getElem?_take] at he; split at he; exact he; cases he)
                have hlt : (LB.take j).length ≤ LB.length := List.length_take_le' _ _
                by_cases hjl : j < LB.length
                · obtain ⟨e, he⟩ : ∃ e, LB[j]? = some e := ⟨_, List.getElem?_eq_getElem hjl⟩
                  have hq := HQ.out j e he
                  have HT : Hid (qtys (LB.take (j + 1)) = qtys (LB.take j) + e.qty) := Lib.hid (by
                    rw [List.take_succ_eq_append_getElem hjl, qtys_app]
                    obtain ⟨_, h⟩ := get_of he
                    rw [h])
                  obtain ⟨g, cap, hv, _, e0, e1, e2, e3⟩ := HRW.out.at_ j e he
                  obtain ⟨rfl, rfl⟩ : a11 = some ⟨g, 0, none⟩ ∧ c11 = cap := by injection hv with x y z; exact ⟨x, z⟩
                  have hjl' : (j : Int) < (LB.length : Int) := by omega
                  clear hv he
                  generalize qtys (LB.take j) = Z at *
                  go_wp2_with fail
                  go_round
                  case rel => exact ⟨j + 1, by go_num, by omega, by rw [HT.out]⟩
                  case measure => simp [intOf]; omega
                · obtain rfl : j = LB.length := by omega
                  rw [List.take_length]
                  clear hqb
                  go_wp2_with fail
                  refine (la_total hR11.la 1).mono ?_
                  rintro e w12 ⟨rfl, rfl⟩
                  rw [HTO.out]
                  go_wp2_with fail
                  refine (la_count hR11.la 1).mono ?_
                  rintro e w12 ⟨rfl, rfl⟩
                  rw [HCO.out]
                  go_wp2_with fail
                  go_roundw
                  case rel => exact ⟨1 + 1, rfl, by omega, hbz.trans (hb11.mono hbz.size)⟩
                  case measure => simp [intOf]
          · go_wp2_with fail
            go_roundw
            case rel => exact ⟨k + 1, by go_num, by omega, B, hRz⟩
            case measure => simp [intOf]; omega
      · rw [hk2] at x0; clear hk2
        have hD : Below w9.heap.size w9 w9.drew := Below.drewN_of w9 1
        have hRD := hR9.below hD
        have HBD : Hid (Blk w9.drew wo.heap.size 45 #[(.slice a5 L0.length c5), (.slice a8 L1.length c8)]) := Lib.hid hB9
        have HVAD : Hid (RowV w9.drew wo.heap.size (.slice a5 L0.length c5) L0) := Lib.hid (own_below HVA.out hD)
        have HVBD : Hid (RowV w9.drew wo.heap.size (.slice a8 L1.length c8) L1) := Lib.hid (own_below HVB.out hD)
        go_wp2_with fail
        go_still_tail 11, (by kernel_rfl)
        change wpList _ _ _ _ _ w9.drew
        clear hD hR9 hB9 HVA HVB x0 x1 x2 x3 x4 x5
        generalize w9.drew = w9d at *
        have hp := la_take hRD.la x.slot x.qty
        have h1 := take_refused [L0, L1] x.slot x.qty rfl
        generalize takeA [L0, L1] x.slot x.qty = P at hp h1
        obtain ⟨B, fz⟩ := P
        go_wp2_with fail
        refine hp.mono ?_
        rintro e w10 ⟨rfl, hl10, hk10⟩
        clear hp
        have hR10 := hRD.calls NN h1.2 hl10 hk10
        have HBE : Hid (Blk w10 wo.heap.size 45 #[(.slice a5 L0.length c5), (.slice a8 L1.length c8)]) := Lib.hid (HBD.out.keeps hk10 hwb)
        have HVA : Hid (RowV w10 wo.heap.size (.slice a5 L0.length c5) L0) := Lib.hid (own_keep HVAD.out hk10 (hRD.la.ne HVAD.out))
        have HVB : Hid (RowV w10 wo.heap.size (.slice a8 L1.length c8) L1) := Lib.hid (own_keep HVBD.out hk10 (hRD.la.ne HVBD.out))
        have HFZ : Hid (fz ≠ 0 → B = [L0, L1]) := Lib.hid h1.1
        clear hl10 hk10 hRD HBD HVAD HVBD h1
        go_wp2_with fail
        go_loopw [11] (fun q w' => ∃ z : Nat, q = .int .i64 z ∧ z ≤ 2 ∧ Below w10.heap.size w10 w') (fun q _ => 2 - (intOf q).toNat)
        case atStart => exact ⟨0, rfl, by omega, Below.refl _ _⟩
        case round =>
          obtain ⟨z, rfl, hz, hbz⟩ := hrel
          obtain ⟨wp, rfl⟩ : ∃ wp : World, wp = wr := ⟨_, rfl⟩
          have hRz := hR10.below hbz
          have hz3 : z = 0 ∨ z = 1 ∨ z = 2 := by omega
          rcases hz3 with rfl | rfl | rfl
          · obtain ⟨LB, hLB⟩ : ∃ LB, B[0]? = some LB := ⟨_, List.getElem?_eq_getElem (by have := hR10.two; omega)⟩
            have hlist := la_list hRz.la 0 (by omega) (by have := hR10.two; omega)
            rw [show B.getD ((0 : Int)).toNat [] = LB from getD_of hLB] at hlist
            have HQ : Hid (∀ (j : Nat) (e : Ent), LB[j]? = some e → 1 ≤ e.qty ∧ e.qty ≤ 1000000) := Lib.hid fun j e he => hR10.la.qty 0 j LB e hLB he
            have hLs : LB.length ≤ 4096 := by
              have h1 := le_sum (B.map List.length) 0 LB.length (by rw [List.getElem?_map, hLB]; rfl)
              have h2 := hR10.la.small
              omega
            have HTO : Hid (totA B 0 = qtys LB) := Lib.hid (by unfold totA; rw [if_neg (by omega)]; exact congrArg qtys (getD_of hLB))
            have HCO : Hid (cntA B 0 = LB.length) := Lib.hid (by unfold cntA; rw [if_neg (by omega)]; exact congrArg (fun l : List Ent => (l.length : Int)) (getD_of hLB))
            have HLB := Lib.hid hLB
            clear hLB
            go_wp2_with fail
            refine hlist.mono ?_
            rintro e w11 ⟨a11, c11, rfl, hown, hb11⟩
            have hR11 := hRz.below hb11
            clear hlist
            by_cases hfz : fz = 0
            · subst hfz
              go_wp2_with fail
              have HRW : Hid (RowV w11 wp.heap.size (.slice a11 LB.length c11) LB) := Lib.hid hown
              clear hown
              go_loop [13, 14] (fun s m => ∃ j : Nat, m = .int .i64 j ∧ j ≤ LB.length ∧ s = .int .i64 (qtys (LB.take j))) (fun _ m => LB.length - (intOf m).toNat)
              case atStart => exact ⟨0, rfl, Nat.zero_le _, rfl⟩
              case round =>
                obtain ⟨j, rfl, hj, rfl⟩ := hrel
                have hqb := qtys_le (LB.take j) fun i (e : Ent) he => HQ.out i e (by rw [List.getElem?_take] at he; split at he; exact he; cases he)
                have hlt : (LB.take j).length ≤ LB.length := List.length_take_le' _ _
                by_cases hjl : j < LB.length
                · obtain ⟨e, he⟩ : ∃ e, LB[j]? = some e := ⟨_, List.getElem?_eq_getElem hjl⟩
                  have hq := HQ.out j e he
                  have HT : Hid (qtys (LB.take (j + 1)) = qtys (LB.take j) + e.qty) := Lib.hid (by
                    rw [List.take_succ_eq_append_getElem hjl, qtys_app]
                    obtain ⟨_, h⟩ := get_of he
                    rw [h])
                  obtain ⟨g, cap, hv, _, e0, e1, e2, e3⟩ := HRW.out.at_ j e he
                  obtain ⟨rfl, rfl⟩ : a11 = some ⟨g, 0, none⟩ ∧ c11 = cap := by injection hv with x y z; exact ⟨x, z⟩
                  have hjl' : (j : Int) < (LB.length : Int) := by omega
                  clear hv he
                  generalize qtys (LB.take j) = Z at *
                  go_wp2_with fail
                  go_round
                  case rel => exact ⟨j + 1, by go_num, by omega, by rw [HT.out]⟩
                  case measure => simp [intOf]; omega
                · obtain rfl : j = LB.length := by omega
                  rw [List.take_length]
                  clear hqb
                  go_wp2_with fail
                  refine (la_total hR11.la 0).mono ?_
                  rintro e w12 ⟨rfl, rfl⟩
                  rw [HTO.out]
                  go_wp2_with fail
                  refine (la_count hR11.la 0).mono ?_
                  rintro e w12 ⟨rfl, rfl⟩
                  rw [HCO.out]
                  go_wp2_with fail
                  go_roundw
                  case rel => exact ⟨0 + 1, rfl, by omega, hbz.trans (hb11.mono hbz.size)⟩
                  case measure => simp [intOf]
            · have hf1 : (fz == 0) = false := by rw [beq_eq_false_iff_ne]; exact hfz
              have hf2 : (fz != 0) = true := by rw [bne_iff_ne]; exact hfz
              have hL : LB = L0 := by
                have := HFZ.out hfz
                have h2 := HLB.out
                rw [this] at h2
                injection h2 with h2
                exact h2.symm
              have hBE : Blk w11 wo.heap.size 45 #[(.slice a5 L0.length c5), (.slice a8 L1.length c8)] := (HBE.out.keeps (Below.keeps (F := fun _ => False) hbz) (fun x => x)).keeps (Below.keeps (F := fun _ => False) hb11) (fun x => x)
              have cc : w11.cell? ⟨wo.heap.size, 0, none⟩ = some (.slice a5 L0.length c5) := by rw [hBE.cell]; rfl
              obtain ⟨_, _, hv1, _, hrd1⟩ := RowV.rd (show RowV w11 wo.heap.size (.slice a5 L0.length c5) L0 from own_below (own_below HVA.out hbz) hb11)
              obtain ⟨_, _, hv2, _, hrd2⟩ := RowV.rd (show RowV w11 wp.heap.size (.slice a11 LB.length c11) LB from hown)
              obtain ⟨rfl, rfl⟩ : a5 = _ ∧ c5 = _ := by injection hv1 with x y z; exact ⟨x, z⟩
              obtain ⟨rfl, rfl⟩ : a11 = _ ∧ c11 = _ := by injection hv2 with x y z; exact ⟨x, z⟩
              have HSM := Lib.hid (same_two a5 a11 c5 c11 L0 LB w11 hL hrd1 hrd2 (by omega))
              clear hrd1 hrd2 hv1 hv2 hBE hL
              go_wp2_with fail
              clear cc
              refine HSM.out.mono ?_
              rintro e w12 ⟨rfl, hb12⟩
              clear HSM
              have hown : RowV w12 wp.heap.size (.slice a11 LB.length c11) LB := own_below hown hb12
              have hR11 := hR11.below hb12
              have hb11 : Below wp.heap.size wp w12 := hb11.trans (hb12.mono hb11.size)
              obtain ⟨w11, rfl⟩ : ∃ w11 : World, w11 = w12 := ⟨_, rfl⟩
              go_wp2_with fail
              have HRW : Hid (RowV w11 wp.heap.size (.slice a11 LB.length c11) LB) := Lib.hid hown
              clear hown
              go_loop [13, 14] (fun s m => ∃ j : Nat, m = .int .i64 j ∧ j ≤ LB.length ∧ s = .int .i64 (qtys (LB.take j))) (fun _ m => LB.length - (intOf m).toNat)
              case atStart => exact ⟨0, rfl, Nat.zero_le _, rfl⟩
              case round =>
                obtain ⟨j, rfl, hj, rfl⟩ := hrel
                have hqb := qtys_le (LB.take j) fun i (e : Ent) he => HQ.out i e (by rw [List.getElem?_take] at he; split at he; exact he; cases he)
                have hlt : (LB.take j).length ≤ LB.length := List.length_take_le' _ _
                by_cases hjl : j < LB.length
                · obtain ⟨e, he⟩ : ∃ e, LB[j]? = some e := ⟨_, List.getElem?_eq_getElem hjl⟩
                  have hq := HQ.out j e he
                  have HT : Hid (qtys (LB.take (j + 1)) = qtys (LB.take j) + e.qty) := Lib.hid (by
                    rw [List.take_succ_eq_append_getElem hjl, qtys_app]
                    obtain ⟨_, h⟩ := get_of he
                    rw [h])
                  obtain ⟨g, cap, hv, _, e0, e1, e2, e3⟩ := HRW.out.at_ j e he
                  obtain ⟨rfl, rfl⟩ : a11 = some ⟨g, 0, none⟩ ∧ c11 = cap := by injection hv with x y z; exact ⟨x, z⟩
                  have hjl' : (j : Int) < (LB.length : Int) := by omega
                  clear hv he
                  generalize qtys (LB.take j) = Z at *
                  go_wp2_with fail
                  go_round
                  case rel => exact ⟨j + 1, by go_num, by omega, by rw [HT.out]⟩
                  case measure => simp [intOf]; omega
                · obtain rfl : j = LB.length := by omega
                  rw [List.take_length]
                  clear hqb
                  go_wp2_with fail
                  refine (la_total hR11.la 0).mono ?_
                  rintro e w12 ⟨rfl, rfl⟩
                  rw [HTO.out]
                  go_wp2_with fail
                  refine (la_count hR11.la 0).mono ?_
                  rintro e w12 ⟨rfl, rfl⟩
                  rw [HCO.out]
                  go_wp2_with fail
                  go_roundw
                  case rel => exact ⟨0 + 1, rfl, by omega, hbz.trans (hb11.mono hbz.size)⟩
                  case measure => simp [intOf]
          · obtain ⟨LB, hLB⟩ : ∃ LB, B[1]? = some LB := ⟨_, List.getElem?_eq_getElem (by have := hR10.two; omega)⟩
            have hlist := la_list hRz.la 1 (by omega) (by have := hR10.two; omega)
            rw [show B.getD ((1 : Int)).toNat [] = LB from getD_of hLB] at hlist
            have HQ : Hid (∀ (j : Nat) (e : Ent), LB[j]? = some e → 1 ≤ e.qty ∧ e.qty ≤ 1000000) := Lib.hid fun j e he => hR10.la.qty 1 j LB e hLB he
            have hLs : LB.length ≤ 4096 := by
              have h1 := le_sum (B.map List.length) 1 LB.length (by rw [List.getElem?_map, hLB]; rfl)
              have h2 := hR10.la.small
              omega
            have HTO : Hid (totA B 1 = qtys LB) := Lib.hid (by unfold totA; rw [if_neg (by omega)]; exact congrArg qtys (getD_of hLB))
            have HCO : Hid (cntA B 1 = LB.length) := Lib.hid (by unfold cntA; rw [if_neg (by omega)]; exact congrArg (fun l : List Ent => (l.length : Int)) (getD_of hLB))
            have HLB := Lib.hid hLB
            clear hLB
            go_wp2_with fail
            refine hlist.mono ?_
            rintro e w11 ⟨a11, c11, rfl, hown, hb11⟩
            have hR11 := hRz.below hb11
            clear hlist
            by_cases hfz : fz = 0
            · subst hfz
              go_wp2_with fail
              have HRW : Hid (RowV w11 wp.heap.size (.slice a11 LB.length c11) LB) := Lib.hid hown
              clear hown
              go_loop [13, 14] (fun s m => ∃ j : Nat, m = .int .i64 j ∧ j ≤ LB.length ∧ s = .int .i64 (qtys (LB.take j))) (fun _ m => LB.length - (intOf m).toNat)
              case atStart => exact ⟨0, rfl, Nat.zero_le _, rfl⟩
              case round =>
                obtain ⟨j, rfl, hj, rfl⟩ := hrel
                have hqb := qtys_le (LB.take j) fun i (e : Ent) he => HQ.out i e (by rw [List.getElem?_take] at he; split at he; exact he; cases he)
                have hlt : (LB.take j).length ≤ LB.length := List.length_take_le' _ _
                by_cases hjl : j < LB.length
                · obtain ⟨e, he⟩ : ∃ e, LB[j]? = some e := ⟨_, List.getElem?_eq_getElem hjl⟩
                  have hq := HQ.out j e he
                  have HT : Hid (qtys (LB.take (j + 1)) = qtys (LB.take j) + e.qty) := Lib.hid (by
                    rw [List.take_succ_eq_append_getElem hjl, qtys_app]
                    obtain ⟨_, h⟩ := get_of he
                    rw [h])
                  obtain ⟨g, cap, hv, _, e0, e1, e2, e3⟩ := HRW.out.at_ j e he
                  obtain ⟨rfl, rfl⟩ : a11 = some ⟨g, 0, none⟩ ∧ c11 = cap := by injection hv with x y z; exact ⟨x, z⟩
                  have hjl' : (j : Int) < (LB.length : Int) := by omega
                  clear hv he
                  generalize qtys (LB.take j) = Z at *
                  go_wp2_with fail
                  go_round
                  case rel => exact ⟨j + 1, by go_num, by omega, by rw [HT.out]⟩
                  case measure => simp [intOf]; omega
                · obtain rfl : j = LB.length := by omega
                  rw [List.take_length]
                  clear hqb
                  go_wp2_with fail
                  refine (la_total hR11.la 1).mono ?_
                  rintro e w12 ⟨rfl, rfl⟩
                  rw [HTO.out]
                  go_wp2_with fail
                  refine (la_count hR11.la 1).mono ?_
                  rintro e w12 ⟨rfl, rfl⟩
                  rw [HCO.out]
                  go_wp2_with fail
                  go_roundw
                  case rel => exact ⟨1 + 1, rfl, by omega, hbz.trans (hb11.mono hbz.size)⟩
                  case measure => simp [intOf]
            · have hf1 : (fz == 0) = false := by rw [beq_eq_false_iff_ne]; exact hfz
              have hf2 : (fz != 0) = true := by rw [bne_iff_ne]; exact hfz
              have hL : LB = L1 := by
                have := HFZ.out hfz
                have h2 := HLB.out
                rw [this] at h2
                injection h2 with h2
                exact h2.symm
              have hBE : Blk w11 wo.heap.size 45 #[(.slice a5 L0.length c5), (.slice a8 L1.length c8)] := (HBE.out.keeps (Below.keeps (F := fun _ => False) hbz) (fun x => x)).keeps (Below.keeps (F := fun _ => False) hb11) (fun x => x)
              have cc : w11.cell? ⟨wo.heap.size, 1, none⟩ = some (.slice a8 L1.length c8) := by rw [hBE.cell]; rfl
              obtain ⟨_, _, hv1, _, hrd1⟩ := RowV.rd (show RowV w11 wo.heap.size (.slice a8 L1.length c8) L1 from own_below (own_below HVB.out hbz) hb11)
              obtain ⟨_, _, hv2, _, hrd2⟩ := RowV.rd (show RowV w11 wp.heap.size (.slice a11 LB.length c11) LB from hown)
              obtain ⟨rfl, rfl⟩ : a8 = _ ∧ c8 = _ := by injection hv1 with x y z; exact ⟨x, z⟩
              obtain ⟨rfl, rfl⟩ : a11 = _ ∧ c11 = _ := by injection hv2 with x y z; exact ⟨x, z⟩
              have HSM := Lib.hid (same_two a8 a11 c8 c11 L1 LB w11 hL hrd1 hrd2 (by omega))
              clear hrd1 hrd2 hv1 hv2 hBE hL
              go_wp2_with fail
              clear cc
              refine HSM.out.mono ?_
              rintro e w12 ⟨rfl, hb12⟩
              clear HSM
              have hown : RowV w12 wp.heap.size (.slice a11 LB.length c11) LB := own_below hown hb12
              have hR11 := hR11.below hb12
              have hb11 : Below wp.heap.size wp w12 := hb11.trans (hb12.mono hb11.size)
              obtain ⟨w11, rfl⟩ : ∃ w11 : World, w11 = w12 := ⟨_, rfl⟩
              go_wp2_with fail
              have HRW : Hid (RowV w11 wp.heap.size (.slice a11 LB.length c11) LB) := Lib.hid hown
              clear hown
              go_loop [13, 14] (fun s m => ∃ j : Nat, m = .int .i64 j ∧ j ≤ LB.length ∧ s = .int .i64 (qtys (LB.take j))) (fun _ m => LB.length - (intOf m).toNat)
              case atStart => exact ⟨0, rfl, Nat.zero_le _, rfl⟩
              case round =>
                obtain ⟨j, rfl, hj, rfl⟩ := hrel
                have hqb := qtys_le (LB.take j) fun i (e : Ent) he => HQ.out i e (by rw [List.getElem?_take] at he; split at he; exact he; cases he)
                have hlt : (LB.take j).length ≤ LB.length := List.length_take_le' _ _
                by_cases hjl : j < LB.length
                · obtain ⟨e, he⟩ : ∃ e, LB[j]? = some e := ⟨_, List.getElem?_eq_getElem hjl⟩
                  have hq := HQ.out j e he
                  have HT : Hid (qtys (LB.take (j + 1)) = qtys (LB.take j) + e.qty) := Lib.hid (by
                    rw [List.take_succ_eq_append_getElem hjl, qtys_app]
                    obtain ⟨_, h⟩ := get_of he
                    rw [h])
                  obtain ⟨g, cap, hv, _, e0, e1, e2, e3⟩ := HRW.out.at_ j e he
                  obtain ⟨rfl, rfl⟩ : a11 = some ⟨g, 0, none⟩ ∧ c11 = cap := by injection hv with x y z; exact ⟨x, z⟩
                  have hjl' : (j : Int) < (LB.length : Int) := by omega
                  clear hv he
                  generalize qtys (LB.take j) = Z at *
                  go_wp2_with fail
                  go_round
                  case rel => exact ⟨j + 1, by go_num, by omega, by rw [HT.out]⟩
                  case measure => simp [intOf]; omega
                · obtain rfl : j = LB.length := by omega
                  rw [List.take_length]
                  clear hqb
                  go_wp2_with fail
                  refine (la_total hR11.la 1).mono ?_
                  rintro e w12 ⟨rfl, rfl⟩
                  rw [HTO.out]
                  go_wp2_with fail
                  refine (la_count hR11.la 1).mono ?_
                  rintro e w12 ⟨rfl, rfl⟩
                  rw [HCO.out]
                  go_wp2_with fail
                  go_roundw
                  case rel => exact ⟨1 + 1, rfl, by omega, hbz.trans (hb11.mono hbz.size)⟩
                  case measure => simp [intOf]
          · go_wp2_with fail
            go_roundw
            case rel => exact ⟨k + 1, by go_num, by omega, B, hRz⟩
            case measure => simp [intOf]; omega
      · rw [hk2] at x0; clear hk2
        have hD : Below w9.heap.size w9 w9.drew := Below.drewN_of w9 1
        have hRD := hR9.below hD
        have HBD : Hid (Blk w9.drew wo.heap.size 45 #[(.slice a5 L0.length c5), (.slice a8 L1.length c8)]) := Lib.hid hB9
        have HVAD : Hid (RowV w9.drew wo.heap.size (.slice a5 L0.length c5) L0) := Lib.hid (own_below HVA.out hD)
        have HVBD : Hid (RowV w9.drew wo.heap.size (.slice a8 L1.length c8) L1) := Lib.hid (own_below HVB.out hD)
        go_wp2_with fail
        go_still_tail 11, (by kernel_rfl)
        change wpList _ _ _ _ _ w9.drew
        clear hD hR9 hB9 HVA HVB x0 x1 x2 x3 x4 x5
        generalize w9.drew = w9d at *
        have hp := la_top hRD.la x.slot x.top
        have h1 := top_refused [L0, L1] x.slot x.top rfl
        generalize topA [L0, L1] x.slot x.top = P at hp h1
        obtain ⟨B, fz⟩ := P
        go_wp2_with fail
        refine hp.mono ?_
        rintro e w10 ⟨rfl, hl10, hk10⟩
        clear hp
        have hR10 := hRD.calls NN h1.2 hl10 hk10
        have HBE : Hid (Blk w10 wo.heap.size 45 #[(.slice a5 L0.length c5), (.slice a8 L1.length c8)]) := Lib.hid (HBD.out.keeps hk10 hwb)
        have HVA : Hid (RowV w10 wo.heap.size (.slice a5 L0.length c5) L0) := Lib.hid (own_keep HVAD.out hk10 (hRD.la.ne HVAD.out))
        have HVB : Hid (RowV w10 wo.heap.size (.slice a8 L1.length c8) L1) := Lib.hid (own_keep HVBD.out hk10 (hRD.la.ne HVBD.out))
        have HFZ : Hid (fz ≠ 0 → B = [L0, L1]) := Lib.hid h1.1
        clear hl10 hk10 hRD HBD HVAD HVBD h1
        go_wp2_with fail
        go_loopw [11] (fun q w' => ∃ z : Nat, q = .int .i64 z ∧ z ≤ 2 ∧ Below w10.heap.size w10 w') (fun q _ => 2 - (intOf q).toNat)
        case atStart => exact ⟨0, rfl, by omega, Below.refl _ _⟩
        case round =>
          obtain ⟨z, rfl, hz, hbz⟩ := hrel
          obtain ⟨wp, rfl⟩ : ∃ wp : World, wp = wr := ⟨_, rfl⟩
          have hRz := hR10.below hbz
          have hz3 : z = 0 ∨ z = 1 ∨ z = 2 := by omega
          rcases hz3 with rfl | rfl | rfl
          · obtain ⟨LB, hLB⟩ : ∃ LB, B[0]? = some LB := ⟨_, List.getElem?_eq_getElem (by have := hR10.two; omega)⟩
            have hlist := la_list hRz.la 0 (by omega) (by have := hR10.two; omega)
            rw [show B.getD ((0 : Int)).toNat [] = LB from getD_of hLB] at hlist
            have HQ : Hid (∀ (j : Nat) (e : Ent), LB[j]? = some e → 1 ≤ e.qty ∧ e.qty ≤ 1000000) := Lib.hid fun j e he => hR10.la.qty 0 j LB e hLB he
            have hLs : LB.length ≤ 4096 := by
              have h1 := le_sum (B.map List.length) 0 LB.length (by rw [List.getElem?_map, hLB]; rfl)
              have h2 := hR10.la.small
              omega
            have HTO : Hid (totA B 0 = qtys LB) := Lib.hid (by unfold totA; rw [if_neg (by omega)]; exact congrArg qtys (getD_of hLB))
            have HCO : Hid (cntA B 0 = LB.length) := Lib.hid (by unfold cntA; rw [if_neg (by omega)]; exact congrArg (fun l : List Ent => (l.length : Int)) (getD_of hLB))
            have HLB := Lib.hid hLB
            clear hLB
            go_wp2_with fail
            refine hlist.mono ?_
            rintro e w11 ⟨a11, c11, rfl, hown, hb11⟩
            have hR11 := hRz.below hb11
            clear hlist
            by_cases hfz : fz = 0
            · subst hfz
              go_wp2_with fail
              have HRW : Hid (RowV w11 wp.heap.size (.slice a11 LB.length c11) LB) := Lib.hid hown
              clear hown
              go_loop [13, 14] (fun s m => ∃ j : Nat, m = .int .i64 j ∧ j ≤ LB.length ∧ s = .int .i64 (qtys (LB.take j))) (fun _ m => LB.length - (intOf m).toNat)
              case atStart => exact ⟨0, rfl, Nat.zero_le _, rfl⟩
              case round =>
                obtain ⟨j, rfl, hj, rfl⟩ := hrel
                have hqb := qtys_le (LB.take j) fun i (e : Ent) he => HQ.out i e (by rw [List.getElem?_take] at he; split at he; exact he; cases he)
                have hlt : (LB.take j).length ≤ LB.length := List.length_take_le' _ _
                by_cases hjl : j < LB.length
                · obtain ⟨e, he⟩ : ∃ e, LB[j]? = some e := ⟨_, List.getElem?_eq_getElem hjl⟩
                  have hq := HQ.out j e he
                  have HT : Hid (qtys (LB.take (j + 1)) = qtys (LB.take j) + e.qty) := Lib.hid (by
                    rw [List.take_succ_eq_append_getElem hjl, qtys_app]
                    obtain ⟨_, h⟩ := get_of he
                    rw [h])
                  obtain ⟨g, cap, hv, _, e0, e1, e2, e3⟩ := HRW.out.at_ j e he
                  obtain ⟨rfl, rfl⟩ : a11 = some ⟨g, 0, none⟩ ∧ c11 = cap := by injection hv with x y z; exact ⟨x, z⟩
                  have hjl' : (j : Int) < (LB.length : Int) := by omega
                  clear hv he
                  generalize qtys (LB.take j) = Z at *
                  go_wp2_with fail
                  go_round
                  case rel => exact ⟨j + 1, by go_num, by omega, by rw [HT.out]⟩
                  case measure => simp [intOf]; omega
                · obtain rfl : j = LB.length := by omega
                  rw [List.take_length]
                  clear hqb
                  go_wp2_with fail
                  refine (la_total hR11.la 0).mono ?_
                  rintro e w12 ⟨rfl, rfl⟩
                  rw [HTO.out]
                  go_wp2_with fail
                  refine (la_count hR11.la 0).mono ?_
                  rintro e w12 ⟨rfl, rfl⟩
                  rw [HCO.out]
                  go_wp2_with fail
                  go_roundw
                  case rel => exact ⟨0 + 1, rfl, by omega, hbz.trans (hb11.mono hbz.size)⟩
                  case measure => simp [intOf]
            · have hf1 : (fz == 0) = false := by rw [beq_eq_false_iff_ne]; exact hfz
              have hf2 : (fz != 0) = true := by rw [bne_iff_ne]; exact hfz
              have hL : LB = L0 := by
                have := HFZ.out hfz
                have h2 := HLB.out
                rw [this] at h2
                injection h2 with h2
                exact h2.symm
              have hBE : Blk w11 wo.heap.size 45 #[(.slice a5 L0.length c5), (.slice a8 L1.length c8)] := (HBE.out.keeps (Below.keeps (F := fun _ => False) hbz) (fun x => x)).keeps (Below.keeps (F := fun _ => False) hb11) (fun x => x)
              have cc : w11.cell? ⟨wo.heap.size, 0, none⟩ = some (.slice a5 L0.length c5) := by rw [hBE.cell]; rfl
              obtain ⟨_, _, hv1, _, hrd1⟩ := RowV.rd (show RowV w11 wo.heap.size (.slice a5 L0.length c5) L0 from own_below (own_below HVA.out hbz) hb11)
              obtain ⟨_, _, hv2, _, hrd2⟩ := RowV.rd (show RowV w11 wp.heap.size (.slice a11 LB.length c11) LB from hown)
              obtain ⟨rfl, rfl⟩ : a5 = _ ∧ c5 = _ := by injection hv1 with x y z; exact ⟨x, z⟩
              obtain ⟨rfl, rfl⟩ : a11 = _ ∧ c11 = _ := by injection hv2 with x y z; exact ⟨x, z⟩
              have HSM := Lib.hid (same_two a5 a11 c5 c11 L0 LB w11 hL hrd1 hrd2 (by omega))
              clear hrd1 hrd2 hv1 hv2 hBE hL
              go_wp2_with fail
              clear cc
              refine HSM.out.mono ?_
              rintro e w12 ⟨rfl, hb12⟩
              clear HSM
              have hown : RowV w12 wp.heap.size (.slice a11 LB.length c11) LB := own_below hown hb12
              have hR11 := hR11.below hb12
              have hb11 : Below wp.heap.size wp w12 := hb11.trans (hb12.mono hb11.size)
              obtain ⟨w11, rfl⟩ : ∃ w11 : World, w11 = w12 := ⟨_, rfl⟩
              go_wp2_with fail
              have HRW : Hid (RowV w11 wp.heap.size (.slice a11 LB.length c11) LB) := Lib.hid hown
              clear hown
              go_loop [13, 14] (fun s m => ∃ j : Nat, m = .int .i64 j ∧ j ≤ LB.length ∧ s = .int .i64 (qtys (LB.take j))) (fun _ m => LB.length - (intOf m).toNat)
              case atStart => exact ⟨0, rfl, Nat.zero_le _, rfl⟩
              case round =>
                obtain ⟨j, rfl, hj, rfl⟩ := hrel
                have hqb := qtys_le (LB.take j) fun i (e : Ent) he => HQ.out i e (by rw [List.getElem?_take] at he; split at he; exact he; cases he)
                have hlt : (LB.take j).length ≤ LB.length := List.length_take_le' _ _
                by_cases hjl : j < LB.length
                · obtain ⟨e, he⟩ : ∃ e, LB[j]? = some e := ⟨_, List.getElem?_eq_getElem hjl⟩
                  have hq := HQ.out j e he
                  have HT : Hid (qtys (LB.take (j + 1)) = qtys (LB.take j) + e.qty) := Lib.hid (by
                    rw [List.take_succ_eq_append_getElem hjl, qtys_app]
                    obtain ⟨_, h⟩ := get_of he
                    rw [h])
                  obtain ⟨g, cap, hv, _, e0, e1, e2, e3⟩ := HRW.out.at_ j e he
                  obtain ⟨rfl, rfl⟩ : a11 = some ⟨g, 0, none⟩ ∧ c11 = cap := by injection hv with x y z; exact ⟨x, z⟩
                  have hjl' : (j : Int) < (LB.length : Int) := by omega
                  clear hv he
                  generalize qtys (LB.take j) = Z at *
                  go_wp2_with fail
                  go_round
                  case rel => exact ⟨j + 1, by go_num, by omega, by rw [HT.out]⟩
                  case measure => simp [intOf]; omega
                · obtain rfl : j = LB.length := by omega
                  rw [List.take_length]
                  clear hqb
                  go_wp2_with fail
                  refine (la_total hR11.la 0).mono ?_
                  rintro e w12 ⟨rfl, rfl⟩
                  rw [HTO.out]
                  go_wp2_with fail
                  refine (la_count hR11.la 0).mono ?_
                  rintro e w12 ⟨rfl, rfl⟩
                  rw [HCO.out]
                  go_wp2_with fail
                  go_roundw
                  case rel => exact ⟨0 + 1, rfl, by omega, hbz.trans (hb11.mono hbz.size)⟩
                  case measure => simp [intOf]
          · obtain ⟨LB, hLB⟩ : ∃ LB, B[1]? = some LB := ⟨_, List.getElem?_eq_getElem (by have := hR10.two; omega)⟩
            have hlist := la_list hRz.la 1 (by omega) (by have := hR10.two; omega)
            rw [show B.getD ((1 : Int)).toNat [] = LB from getD_of hLB] at hlist
            have HQ : Hid (∀ (j : Nat) (e : Ent), LB[j]? = some e → 1 ≤ e.qty ∧ e.qty ≤ 1000000) := Lib.hid fun j e he => hR10.la.qty 1 j LB e hLB he
            have hLs : LB.length ≤ 4096 := by
              have h1 := le_sum (B.map List.length) 1 LB.length (by rw [List.getElem?_map, hLB]; rfl)
              have h2 := hR10.la.small
              omega
            have HTO : Hid (totA B 1 = qtys LB) := Lib.hid (by unfold totA; rw [if_neg (by omega)]; exact congrArg qtys (getD_of hLB))
            have HCO : Hid (cntA B 1 = LB.length) := Lib.hid (by unfold cntA; rw [if_neg (by omega)]; exact congrArg (fun l : List Ent => (l.length : Int)) (getD_of hLB))
            have HLB := Lib.hid hLB
            clear hLB
            go_wp2_with fail
            refine hlist.mono ?_
            rintro e w11 ⟨a11, c11, rfl, hown, hb11⟩
            have hR11 := hRz.below hb11
            clear hlist
            by_cases hfz : fz = 0
            · subst hfz
              go_wp2_with fail
              have HRW : Hid (RowV w11 wp.heap.size (.slice a11 LB.length c11) LB) := Lib.hid hown
              clear hown
              go_loop [13, 14] (fun s m => ∃ j : Nat, m = .int .i64 j ∧ j ≤ LB.length ∧ s = .int .i64 (qtys (LB.take j))) (fun _ m => LB.length - (intOf m).toNat)
              case atStart => exact ⟨0, rfl, Nat.zero_le _, rfl⟩
              case round =>
                obtain ⟨j, rfl, hj, rfl⟩ := hrel
                have hqb := qtys_le (LB.take j) fun i (e : Ent) he => HQ.out i e (by rw [List.getElem?_take] at he; split at he; exact he; cases he)
                have hlt : (LB.take j).length ≤ LB.length := List.length_take_le' _ _
                by_cases hjl : j < LB.length
                · obtain ⟨e, he⟩ : ∃ e, LB[j]? = some e := ⟨_, List.getElem?_eq_getElem hjl⟩
                  have hq := HQ.out j e he
                  have HT : Hid (qtys (LB.take (j + 1)) = qtys (LB.take j) + e.qty) := Lib.hid (by
                    rw [List.take_succ_eq_append_getElem hjl, qtys_app]
                    obtain ⟨_, h⟩ := get_of he
                    rw [h])
                  obtain ⟨g, cap, hv, _, e0, e1, e2, e3⟩ := HRW.out.at_ j e he
                  obtain ⟨rfl, rfl⟩ : a11 = some ⟨g, 0, none⟩ ∧ c11 = cap := by injection hv with x y z; exact ⟨x, z⟩
                  have hjl' : (j : Int) < (LB.length : Int) := by omega
                  clear hv he
                  generalize qtys (LB.take j) = Z at *
                  go_wp2_with fail
                  go_round
                  case rel => exact ⟨j + 1, by go_num, by omega, by rw [HT.out]⟩
                  case measure => simp [intOf]; omega
                · obtain rfl : j = LB.length := by omega
                  rw [List.take_length]
                  clear hqb
                  go_wp2_with fail
                  refine (la_total hR11.la 1).mono ?_
                  rintro e w12 ⟨rfl, rfl⟩
                  rw [HTO.out]
                  go_wp2_with fail
                  refine (la_count hR11.la 1).mono ?_
                  rintro e w12 ⟨rfl, rfl⟩
                  rw [HCO.out]
                  go_wp2_with fail
                  go_roundw
                  case rel => exact ⟨1 + 1, rfl, by omega, hbz.trans (hb11.mono hbz.size)⟩
                  case measure => simp [intOf]
            · have hf1 : (fz == 0) = false := by rw [beq_eq_false_iff_ne]; exact hfz
              have hf2 : (fz != 0) = true := by rw [bne_iff_ne]; exact hfz
              have hL : LB = L1 := by
                have := HFZ.out hfz
                have h2 := HLB.out
                rw [this] at h2
                injection h2 with h2
                exact h2.symm
              have hBE : Blk w11 wo.heap.size 45 #[(.slice a5 L0.length c5), (.slice a8 L1.length c8)] := (HBE.out.keeps (Below.keeps (F := fun _ => False) hbz) (fun x => x)).keeps (Below.keeps (F := fun _ => False) hb11) (fun x => x)
              have cc : w11.cell? ⟨wo.heap.size, 1, none⟩ = some (.slice a8 L1.length c8) := by rw [hBE.cell]; rfl
              obtain ⟨_, _, hv1, _, hrd1⟩ := RowV.rd (show RowV w11 wo.heap.size (.slice a8 L1.length c8) L1 from own_below (own_below HVB.out hbz) hb11)
              obtain ⟨_, _, hv2, _, hrd2⟩ := RowV.rd (show RowV w11 wp.heap.size (.slice a11 LB.length c11) LB from hown)
              obtain ⟨rfl, rfl⟩ : a8 = _ ∧ c8 = _ := by injection hv1 with x y z; exact ⟨x, z⟩
              obtain ⟨rfl, rfl⟩ : a11 = _ ∧ c11 = _ := by injection hv2 with x y z; exact ⟨x, z⟩
              have HSM := Lib.hid (same_two a8 a11 c8 c11 L1 LB w11 hL hrd1 hrd2 (by omega))
              clear hrd1 hrd2 hv1 hv2 hBE hL
              go_wp2_with fail
              clear cc
              refine HSM.out.mono ?_
              rintro e w12 ⟨rfl, hb12⟩
              clear HSM
              have hown : RowV w12 wp.heap.size (.slice a11 LB.length c11) LB := own_below hown hb12
              have hR11 := hR11.below hb12
              have hb11 : Below wp.heap.size wp w12 := hb11.trans (hb12.mono hb11.size)
              obtain ⟨w11, rfl⟩ : ∃ w11 : World, w11 = w12 := ⟨_, rfl⟩
              go_wp2_with fail
              have HRW : Hid (RowV w11 wp.heap.size (.slice a11 LB.length c11) LB) := Lib.hid hown
              clear hown
              go_loop [13, 14] (fun s m => ∃ j : Nat, m = .int .i64 j ∧ j ≤ LB.length ∧ s = .int .i64 (qtys (LB.take j))) (fun _ m => LB.length - (intOf m).toNat)
              case atStart => exact ⟨0, rfl, Nat.zero_le _, rfl⟩
              case round =>
                obtain ⟨j, rfl, hj, rfl⟩ := hrel
                have hqb := qtys_le (LB.take j) fun i (e : Ent) he => HQ.out i e (by rw [List.getElem?_take] at he; split at he; exact he; cases he)
                have hlt : (LB.take j).length ≤ LB.length := List.length_take_le' _ _
                by_cases hjl : j < LB.length
                · obtain ⟨e, he⟩ : ∃ e, LB[j]? = some e := ⟨_, List.getElem?_eq_getElem hjl⟩
                  have hq := HQ.out j e he
                  have HT : Hid (qtys (LB.take (j + 1)) = qtys (LB.take j) + e.qty) := Lib.hid (by
                    rw [List.take_succ_eq_append_getElem hjl, qtys_app]
                    obtain ⟨_, h⟩ := get_of he
                    rw [h])
                  obtain ⟨g, cap, hv, _, e0, e1, e2, e3⟩ := HRW.out.at_ j e he
                  obtain ⟨rfl, rfl⟩ : a11 = some ⟨g, 0, none⟩ ∧ c11 = cap := by injection hv with x y z; exact ⟨x, z⟩
                  have hjl' : (j : Int) < (LB.length : Int) := by omega
                  clear hv he
                  generalize qtys (LB.take j) = Z at *
                  go_wp2_with fail
                  go_round
                  case rel => exact ⟨j + 1, by go_num, by omega, by rw [HT.out]⟩
                  case measure => simp [intOf]; omega
                · obtain rfl : j = LB.length := by omega
                  rw [List.take_length]
                  clear hqb
                  go_wp2_with fail
                  refine (la_total hR11.la 1).mono ?_
                  rintro e w12 ⟨rfl, rfl⟩
                  rw [HTO.out]
                  go_wp2_with fail
                  refine (la_count hR11.la 1).mono ?_
                  rintro e w12 ⟨rfl, rfl⟩
                  rw [HCO.out]
                  go_wp2_with fail
                  go_roundw
                  case rel => exact ⟨1 + 1, rfl, by omega, hbz.trans (hb11.mono hbz.size)⟩
                  case measure => simp [intOf]
          · go_wp2_with fail
            go_roundw
            case rel => exact ⟨k + 1, by go_num, by omega, B, hRz⟩
            case measure => simp [intOf]; omega
      · go_wp2_with fail
        obtain ⟨w10, rfl⟩ : ∃ w10 : World, w10 = w9 := ⟨_, rfl⟩
        obtain ⟨B, hB⟩ : ∃ B, B = [L0, L1] := ⟨_, rfl⟩
        have hR10 : Rf W w10 (W.heap.size + 1) W.heap.size qb room B := by rw [hB]; exact hR9
        clear hB hR9 hB9
        go_loopw [11] (fun q w' => ∃ z : Nat, q = .int .i64 z ∧ z ≤ 2 ∧ Below w10.heap.size w10 w') (fun q _ => 2 - (intOf q).toNat)
        case atStart => exact ⟨0, rfl, by omega, Below.refl _ _⟩
        case round =>
          obtain ⟨z, rfl, hz, hbz⟩ := hrel
          obtain ⟨wp, rfl⟩ : ∃ wp : World, wp = wr := ⟨_, rfl⟩
          have hRz := hR10.below hbz
          have hz3 : z = 0 ∨ z = 1 ∨ z = 2 := by omega
          rcases hz3 with rfl | rfl | rfl
          · obtain ⟨LB, hLB⟩ : ∃ LB, B[0]? = some LB := ⟨_, List.getElem?_eq_getElem (by have := hR10.two; omega)⟩
            have hlist := la_list hRz.la 0 (by omega) (by have := hR10.two; omega)
            rw [show B.getD ((0 : Int)).toNat [] = LB from getD_of hLB] at hlist
            have HQ : Hid (∀ (j : Nat) (e : Ent), LB[j]? = some e → 1 ≤ e.qty ∧ e.qty ≤ 1000000) := Lib.hid fun j e he => hR10.la.qty 0 j LB e hLB he
            have hLs : LB.length ≤ 4096 := by
              have h1 := le_sum (B.map List.length) 0 LB.length (by rw [List.getElem?_map, hLB]; rfl)
              have h2 := hR10.la.small
              omega
            have HTO : Hid (totA B 0 = qtys LB) := Lib.hid (by unfold totA; rw [if_neg (by omega)]; exact congrArg qtys (getD_of hLB))
            have HCO : Hid (cntA B 0 = LB.length) := Lib.hid (by unfold cntA; rw [if_neg (by omega)]; exact congrArg (fun l : List Ent => (l.length : Int)) (getD_of hLB))
            have HLB := Lib.hid hLB
            clear hLB
            go_wp2_with fail
            refine hlist.mono ?_
            rintro e w11 ⟨a11, c11, rfl, hown, hb11⟩
            have hR11 := hRz.below hb11
            clear hlist
            go_wp2_with fail
            have HRW : Hid (RowV w11 wp.heap.size (.slice a11 LB.length c11) LB) := Lib.hid hown
            clear hown
            go_loop [13, 14] (fun s m => ∃ j : Nat, m = .int .i64 j ∧ j ≤ LB.length ∧ s = .int .i64 (qtys (LB.take j))) (fun _ m => LB.length - (intOf m).toNat)
            case atStart => exact ⟨0, rfl, Nat.zero_le _, rfl⟩
            case round =>
              obtain ⟨j, rfl, hj, rfl⟩ := hrel
              have hqb := qtys_le (LB.take j) fun i (e : Ent) he => HQ.out i e (by rw [List.getElem?_take] at he; split at he; exact he; cases he)
              have hlt : (LB.take j).length ≤ LB.length := List.length_take_le' _ _
              by_cases hjl : j < LB.length
              · obtain ⟨e, he⟩ : ∃ e, LB[j]? = some e := ⟨_, List.getElem?_eq_getElem hjl⟩
                have hq := HQ.out j e he
                have HT : Hid (qtys (LB.take (j + 1)) = qtys (LB.take j) + e.qty) := Lib.hid (by
                  rw [List.take_succ_eq_append_getElem hjl, qtys_app]
                  obtain ⟨_, h⟩ := get_of he
                  rw [h])
                obtain ⟨g, cap, hv, _, e0, e1, e2, e3⟩ := HRW.out.at_ j e he
                obtain ⟨rfl, rfl⟩ : a11 = some ⟨g, 0, none⟩ ∧ c11 = cap := by injection hv with x y z; exact ⟨x, z⟩
                have hjl' : (j : Int) < (LB.length : Int) := by omega
                clear hv he
                generalize qtys (LB.take j) = Z at *
                go_wp2_with fail
                go_round
                case rel => exact ⟨j + 1, by go_num, by omega, by rw [HT.out]⟩
                case measure => simp [intOf]; omega
              · obtain rfl : j = LB.length := by omega
                rw [List.take_length]
                clear hqb
                go_wp2_with fail
                refine (la_total hR11.la 0).mono ?_
                rintro e w12 ⟨rfl, rfl⟩
                rw [HTO.out]
                go_wp2_with fail
                refine (la_count hR11.la 0).mono ?_
                rintro e w12 ⟨rfl, rfl⟩
                rw [HCO.out]
                go_wp2_with fail
                go_roundw
                case rel => exact ⟨0 + 1, rfl, by omega, hbz.trans (hb11.mono hbz.size)⟩
                case measure => simp [intOf]
          · obtain ⟨LB, hLB⟩ : ∃ LB, B[1]? = some LB := ⟨_, List.getElem?_eq_getElem (by have := hR10.two; omega)⟩
            have hlist := la_list hRz.la 1 (by omega) (by have := hR10.two; omega)
            rw [show B.getD ((1 : Int)).toNat [] = LB from getD_of hLB] at hlist
            have HQ : Hid (∀ (j : Nat) (e : Ent), LB[j]? = some e → 1 ≤ e.qty ∧ e.qty ≤ 1000000) := Lib.hid fun j e he => hR10.la.qty 1 j LB e hLB he
            have hLs : LB.length ≤ 4096 := by
              have h1 := le_sum (B.map List.length) 1 LB.length (by rw [List.getElem?_map, hLB]; rfl)
              have h2 := hR10.la.small
              omega
            have HTO : Hid (totA B 1 = qtys LB) := Lib.hid (by unfold totA; rw [if_neg (by omega)]; exact congrArg qtys (getD_of hLB))
            have HCO : Hid (cntA B 1 = LB.length) := Lib.hid (by unfold cntA; rw [if_neg (by omega)]; exact congrArg (fun l : List Ent => (l.length : Int)) (getD_of hLB))
            have HLB := Lib.hid hLB
            clear hLB
            go_wp2_with fail
            refine hlist.mono ?_
            rintro e w11 ⟨a11, c11, rfl, hown, hb11⟩
            have hR11 := hRz.below hb11
            clear hlist
            go_wp2_with fail
            have HRW : Hid (RowV w11 wp.heap.size (.slice a11 LB.length c11) LB) := Lib.hid hown
            clear hown
            go_loop [13, 14] (fun s m => ∃ j : Nat, m = .int .i64 j ∧ j ≤ LB.length ∧ s = .int .i64 (qtys (LB.take j))) (fun _ m => LB.length - (intOf m).toNat)
            case atStart => exact ⟨0, rfl, Nat.zero_le _, rfl⟩
            case round =>
              obtain ⟨j, rfl, hj, rfl⟩ := hrel
              have hqb := qtys_le (LB.take j) fun i (e : Ent) he => HQ.out i e (by rw [List.getElem?_take] at he; split at he; exact he; cases he)
              have hlt : (LB.take j).length ≤ LB.length := List.length_take_le' _ _
              by_cases hjl : j < LB.length
              · obtain ⟨e, he⟩ : ∃ e, LB[j]? = some e := ⟨_, List.getElem?_eq_getElem hjl⟩
                have hq := HQ.out j e he
                have HT : Hid (qtys (LB.take (j + 1)) = qtys (LB.take j) + e.qty) := Lib.hid (by
                  rw [List.take_succ_eq_append_getElem hjl, qtys_app]
                  obtain ⟨_, h⟩ := get_of he
                  rw [h])
                obtain ⟨g, cap, hv, _, e0, e1, e2, e3⟩ := HRW.out.at_ j e he
                obtain ⟨rfl, rfl⟩ : a11 = some ⟨g, 0, none⟩ ∧ c11 = cap := by injection hv with x y z; exact ⟨x, z⟩
                have hjl' : (j : Int) < (LB.length : Int) := by omega
                clear hv he
                generalize qtys (LB.take j) = Z at *
                go_wp2_with fail
                go_round
                case rel => exact ⟨j + 1, by go_num, by omega, by rw [HT.out]⟩
                case measure => simp [intOf]; omega
              · obtain rfl : j = LB.length := by omega
                rw [List.take_length]
                clear hqb
                go_wp2_with fail
                refine (la_total hR11.la 1).mono ?_
                rintro e w12 ⟨rfl, rfl⟩
                rw [HTO.out]
                go_wp2_with fail
                refine (la_count hR11.la 1).mono ?_
                rintro e w12 ⟨rfl, rfl⟩
                rw [HCO.out]
                go_wp2_with fail
                go_roundw
                case rel => exact ⟨1 + 1, rfl, by omega, hbz.trans (hb11.mono hbz.size)⟩
                case measure => simp [intOf]
          · go_wp2_with fail
            go_roundw
            case rel => exact ⟨k + 1, by go_num, by omega, B, hRz⟩
            case measure => simp [intOf]; omega
    · go_wp2_with fail
      all_goals
        refine (known_any _).mono ?_
        rintro e w1 ⟨rfl, hb1⟩
        go_wp2_with fail
        go_ret
        exact ⟨rfl, hR.bel.trans (hb1.mono hR.bel.size)⟩
end Go.Proofs.Ytbpmoomklknkkaa
