/- The walks of the document's arena: Get, Top, New, Open. -/
import Derived.Test.YtbpmoomklknkkaaDoc2
namespace Go.Proofs.Ytbpmoomklknkkaa
open Go.RowKit

theorem info_doc : (Try.prog.info? 77).map (fun i => (i.zero, i.size, i.bytes)) = some (some (.agg #[.int .i64 0, .int .i64 0, .int .i64 0, .bool false]), 4, 32) := by kernel_rfl
theorem info_docs : (Try.prog.info? 75).map (fun i => (i.zero, i.size, i.bytes)) = some (some (.slice none 0 0), 1, 24) := by kernel_rfl
theorem made_nones (n : Nat) : madeCells (Value.bool false).cells (n * 1) = usedC n [] := by
  apply Array.toList_inj.1
  apply List.ext_getElem?
  intro j
  unfold usedC
  have hz : ∀ j, tk [] j = false := by
    intro j
    refine tk_false ?_
    rintro ⟨n, k, L, e, h1, h2, _⟩
    simp at h1
  simp only [madeCells, Array.toList_map, Array.toList_range, List.getElem?_map, Nat.mul_one]
  by_cases hj : j < n
  · rw [List.getElem?_range hj]; simp [hz, Value.cells, Nat.mod_one]
  · rw [List.getElem?_eq_none (by simpa using hj)]; rfl

set_option maxHeartbeats 400000 in
theorem dnew (n : Nat) (w : World) (hn2 : n ≤ 4096) :
    Calls Try.prog 21 #[.int .i64 n] w fun e w' => e = .returned (.pointer (some ⟨w.heap.size + 1, 0, none⟩)) ∧ RA w' w.heap.size (w.heap.size + 1) w.heap.size none 0 n [] [] (fun _ => (none, 0)) ∧ Keeps (fun _ => False) w w' := by
  obtain ⟨i0, hi, hz0, hz1, hz2⟩ := info_parts info_bool
  have hmk := run_makeSlice (P := Try.prog) w 29 4 i0 _ Try.underlying29 hi hz0 .i64 .i64 n n (by omega) (by omega) (by rw [hz1]; omega) (by rw [hz2]; omega) (by omega)
  rw [hz1, Int.toNat_natCast, made_nones] at hmk
  clear hi hz0 hz1 hz2
  go_enter Try.func21, Try.ntmps21
  go_wp2
  go_ret
  refine ⟨by trivial, ⟨?_, (Blk.new w _ _).alloc _, World.ownsRow_nil _ _ _ _, fun i hi => absurd hi (Nat.not_lt_zero _), fun i j hi => absurd hi (Nat.not_lt_zero _), by omega, Nat.le_refl _⟩, ?_⟩
  · have h1 : (w.alloc (.cells (usedC n []) 4)).heap.size = w.heap.size + 1 := by simp
    have h2 := Blk.new (w.alloc (.cells (usedC n []) 4)) 70 #[.slice (some ⟨w.heap.size, 0, none⟩) n n, .slice none 0 0]
    rw [h1] at h2
    simpa using h2
  · exact ((Keeps.refl _ _).alloc _).alloc _

section
variable {w w' : World} {B pb ub : Nat} {qa : Option Addr} {qk room : Nat} {U A : List (List Ent)} {V : Nat → Option Addr × Nat}
theorem RA.found (h : RA w B pb ub qa qk room U A V) {i : Int} {n j : Nat} {e : Ent} (hf : findA A i = some (n, j, e)) :
    ∃ L qb g c, A[n]? = some L ∧ L[j]? = some e ∧ i = (e.slot : Int) ∧ n < A.length ∧ j < L.length ∧ qa = some ⟨qb, 0, none⟩ ∧ w.cell? ⟨qb, n, none⟩ = some (.slice (some ⟨g, 0, none⟩) L.length c) ∧ V n = (some ⟨g, 0, none⟩, c) ∧ g < w.heap.size ∧ EntAt w g (j * 4) e := by
  obtain ⟨L, h1, h2, h3⟩ := findA_some hf
  have hn := lt_of_get h1
  obtain ⟨qb, rfl⟩ := h.qrow (by omega)
  have cq := h.cq hn
  have hrow := h.row n hn
  rw [getD_of h1] at hrow
  obtain ⟨g, cap, hv, hg, he⟩ := hrow.at_ j e h2
  refine ⟨L, qb, g, cap, h1, h2, h3, hn, lt_of_get h2, rfl, by rw [cq, hv], ?_, hg, he⟩
  unfold vd at hv
  injection hv with v1 v2 v3
  exact Prod.ext v1 v3
theorem atT_none {i : Int} (hf : findA A i = none) : atT A i = .tuple #[.int .i64 0, .int .i64 0, .bool false] := by unfold atT; rw [hf]
theorem atT_some {i : Int} {n j : Nat} {e : Ent} (hf : findA A i = some (n, j, e)) : atT A i = .tuple #[.int .i64 n, .int .i64 j, .bool true] := by unfold atT; rw [hf]

set_option maxHeartbeats 1000000 in
theorem dget_any (h : RA w B pb ub qa qk room U A V) (hf : Fit A) (i : Int) :
    Calls Try.prog 35 #[.pointer (some ⟨pb, 0, none⟩), .int .i64 i] w fun e w' => e = .returned (.tuple #[(entOf A i).1, .bool (entOf A i).2]) ∧ Below w.heap.size w w' := by
  have H := Lib.hid h
  have HF := Lib.hid hf
  cases hfa : findA A i with
  | none =>
    have HT := Lib.hid (atT_none hfa)
    have HE : Hid (entOf A i = (.agg #[.int .i64 0, .int .i64 0, .int .i64 0, .bool false], false)) := Lib.hid (by unfold entOf; rw [hfa])
    clear h hf hfa
    rw [HE.out]
    go_enter Try.func35, Try.ntmps35
    go_wp2_with (go_at_call 37; refine (at_any (H.out.below ((Below.refl _ _).alloc (Nat.le_refl _) _)) HF.out i).mono ?_; rintro e w1 ⟨rfl, rfl⟩; rw [HT.out])
    exact bodyPost_ret (v := .tuple #[.agg #[.int .i64 0, .int .i64 0, .int .i64 0, .bool false], .bool false]) (by simp [results, Try.results35, go_sem]) rfl ⟨rfl, (Below.refl _ _).alloc (Nat.le_refl _) _⟩
  | some x =>
    obtain ⟨n, j, e⟩ := x
    have HT := Lib.hid (atT_some hfa)
    have HE : Hid (entOf A i = (e.agg, true)) := Lib.hid (by unfold entOf; rw [hfa])
    obtain ⟨L, qb, g, c, h1, h2, h3, hn, hj, rfl, cq, hV, hg, e0, e1, e2, e3⟩ := h.found hfa
    have c1 := h.c1
    have hn' : (n : Int) < (A.length : Int) := by omega
    have hj' : (j : Int) < (L.length : Int) := by omega
    have hpb := h.lt pb (.inl rfl)
    have hqb := h.lt qb (.inr (.inr (.inl rfl)))
    have HFA := Lib.hid hfa
    clear h hf hfa h1 h2 h3 hV
    rw [HE.out]
    unfold Ent.agg
    go_enter Try.func35, Try.ntmps35
    go_wp2_with (go_at_call 37; refine (at_any (H.out.below ((Below.refl _ _).alloc (Nat.le_refl _) _)) HF.out i).mono ?_; rintro e w1 ⟨rfl, rfl⟩; rw [HT.out])
    exact bodyPost_ret (v := .tuple #[.agg #[.int .i64 e.slot, .int .i64 e.id, .int .i64 e.qty, .bool e.top], .bool true]) (by simp [results, Try.results35, go_sem]) rfl ⟨rfl, (Below.refl _ _).alloc (Nat.le_refl _) _⟩

set_option maxHeartbeats 1000000 in
theorem dtop_any (h : RA w B pb ub qa qk room A A V) (hf : Fit A) (i : Int) (t : Bool) :
    Calls Try.prog 32 #[.pointer (some ⟨pb, 0, none⟩), .int .i64 i, .bool t] w fun e w' => e = .returned (.int .i64 (topA A i t).2) ∧ RA w' B pb ub qa qk room (topA A i t).1 (topA A i t).1 V ∧ Keeps (RF pb ub qa A V) w w' := by
  have H := Lib.hid h
  have HF := Lib.hid hf
  cases hfa : findA A i with
  | none =>
    have HT := Lib.hid (atT_none hfa)
    have HE : Hid (topA A i t = (A, 26)) := Lib.hid (by unfold topA; rw [hfa])
    clear h hf hfa
    rw [HE.out]
    go_enter Try.func32, Try.ntmps32
    go_wp2_with (go_at_call 37; refine (at_any H.out HF.out i).mono ?_; rintro e w1 ⟨rfl, rfl⟩; rw [HT.out])
    go_ret
    exact ⟨rfl, H.out, Keeps.refl _ _⟩
  | some x =>
    obtain ⟨n, j, e⟩ := x
    have HT := Lib.hid (atT_some hfa)
    obtain ⟨L, qb, g, c, h1, h2, h3, hn, hj, rfl, cq, hV, hg, e0, e1, e2, e3⟩ := h.found hfa
    have HE : Hid (topA A i t = (A.set n (L.set j { e with top := t }), 0)) := Lib.hid (by unfold topA; rw [hfa]; simp only [getD_of h1])
    have c1 := h.c1
    have hn' : (n : Int) < (A.length : Int) := by omega
    have hj' : (j : Int) < (L.length : Int) := by omega
    have HN := Lib.hid (h.ent h1 (by rw [hV]) h2 (k := 3) (by omega) (.bool t) (e' := { e with top := t }) rfl)
    have HTK := Lib.hid (taken_turn h1 h2 (e' := { e with top := t }) rfl)
    have fz : w.frozen? ⟨g, j * 4 + 3, none⟩ = false := by
      have hrow := h.row n hn
      unfold vd at hrow
      rw [hV] at hrow
      exact World.ownsRow.frozenAt hrow _
    clear h hf hfa h1 h2 h3 hV
    rw [HE.out]
    go_enter Try.func32, Try.ntmps32
    go_wp2_with (go_at_call 37; refine (at_any H.out HF.out i).mono ?_; rintro e w1 ⟨rfl, rfl⟩; rw [HT.out])
    go_ret
    exact ⟨rfl, HN.out.1.used_same fun k => (HTK.out k).symm, HN.out.2⟩

set_option maxHeartbeats 1000000 in
theorem dopen_any (h : RA w B pb ub qa qk room A A V) (hm : A.length ≤ 1000000) (hB : B ≤ w.heap.size) :
    Calls Try.prog 29 #[.pointer (some ⟨pb, 0, none⟩)] w fun e w' => e = .returned (.int .i64 A.length) ∧ (∃ qb qk', RA w' B pb ub (some ⟨qb, 0, none⟩) qk' room (A ++ [[]]) (A ++ [[]]) (upd V A.length (none, 0))) ∧ Keeps (RF pb ub qa A V) w w' := by
  obtain ⟨i0, hi, hz0, hz1, hz2⟩ := info_parts info_docs
  have c1 := h.c1
  have H := Lib.hid h
  clear h
  go_enter Try.func29, Try.ntmps29
  go_wp2_with (first
    | (at_builtin; refine wpList_append_own_at _ rfl (.tmp 7) (.tmp 8) _ rfl B 75 i0 _ 1 24 Try.underlying68 hi hz0 hz1 hz2 rfl (by omega) (.slice qa A.length qk) A.length (qcs A V) rfl (H.out.hq.alloc _) ⟨w.heap.size, 0, none⟩ 1 1 [.slice none 0 0] rfl rfl ?c1 ?c2 ?c3 ?c4 ?c5 ?_))
  case c1 =>
    intro j u hj
    have h4 : j = 0 := by
      have := lt_of_get hj
      simp at this; exact this
    subst h4
    simp at hj
    subst hj
    have := (Blk.new w 75 #[.slice none 0 0]).cell 0
    exact this
  case c2 => decide
  case c3 => unfold maxLen; omega
  case c4 => omega
  case c5 => simp; omega
  intro v' w2 hown hg _ hat
  obtain ⟨g, cap, hv⟩ : ∃ g cap, v' = .slice (some ⟨g, 0, none⟩) (A.length + 1) cap := by
    rcases hown.2 with ⟨_, h0⟩ | ⟨g, cap, _, hv, _⟩
    · omega
    · exact ⟨g, cap, hv⟩
  rw [hv] at hown hat ⊢
  have hD : Below w.heap.size w (w.alloc (.cells #[.slice none 0 0] 75)) := (Below.refl _ _).alloc (Nat.le_refl _) _
  have hk2 : Keeps (fun k => (Value.slice qa A.length qk).ownBlock = some k) w w2 := (Below.keeps hD).step (grown_keeps hg) (fun _ _ x => x)
  have hno : ∀ k t, Tyd w k t → t ≠ 75 → ¬ (Value.slice qa A.length qk).ownBlock = some k := fun k t ht hne he => ht.ne (own_tyd H.out.hq k he) hne rfl
  have hp2 := H.out.hp.keeps hk2 (hno _ _ H.out.hp.tyd (by decide))
  have hu2 := H.out.hu.keeps hk2 (hno _ _ H.out.hu.tyd (by decide))
  have c1' : w2.cell? ⟨pb, 1, none⟩ = some (.slice qa A.length qk) := by rw [hp2.cell]; rfl
  have f1' : w2.frozen? ⟨pb, 1, none⟩ = false := hp2.frozen 1
  have HP2 := Lib.hid hp2
  have HU2 := Lib.hid hu2
  have HOWN := Lib.hid hown
  have HK2 := Lib.hid hk2
  have HNO := Lib.hid hno
  clear hp2 hu2 hown hat hg hk2 hno hv hi hz0 hz1 hz2 c1 hD
  go_wp2_with fail
  go_ret
  have hl : (A ++ [([] : List Ent)]).length = A.length + 1 := by simp
  have hkp : Keeps (fun k => k = pb) w2 (w2.setCell ⟨pb, 1, none⟩ (.slice (some ⟨g, 0, none⟩) (A.length + 1) cap)) := (Keeps.refl (fun k => k = pb) w2).setCell (p := ⟨pb, 1, none⟩) (fun _ => rfl) _
  refine ⟨rfl, ⟨g, cap, ?_, ?_, ?_, ?_, ?_, H.out.bp, H.out.bu⟩, ?_⟩
  · have := HP2.out.set_ 1 (.slice (some ⟨g, 0, none⟩) (A.length + 1) cap)
    rw [hl]
    simpa using this
  · have e1 : usedC room (A ++ [[]]) = usedC room A := usedC_same fun i => by
      constructor
      · rintro ⟨n, j, L, e, h1, h2, h3⟩
        rcases get_push h1 with h | h
        · exact ⟨n, j, L, e, h, h2, h3⟩
        · subst h; simp at h2
      · rintro ⟨n, j, L, e, h1, h2, h3⟩
        exact ⟨n, j, L, e, by rw [List.getElem?_append_left (lt_of_get h1)]; exact h1, h2, h3⟩
    rw [e1]
    exact HU2.out.keeps hkp (HU2.out.tyd.ne HP2.out.tyd (by decide))
  · have h1 := own_keep HOWN.out hkp (fun k hk => (own_tyd HOWN.out k hk).ne HP2.out.tyd (by decide))
    rw [qcs_open] at h1
    rw [hl]
    exact h1
  · intro i hi
    rw [hl] at hi
    by_cases hin : i < A.length
    · rw [vd_app_lt hin, getD_app_lt hin]
      have h1 := own_keep (H.out.row i hin) HK2.out (fun k hk => HNO.out k _ (own_tyd (H.out.row i hin) k hk) (by decide))
      exact own_keep h1 hkp (fun k hk => (own_tyd h1 k hk).ne HP2.out.tyd (by decide))
    · obtain rfl : i = A.length := by omega
      rw [vd_app_eq, getD_app_eq]
      exact World.ownsRow_nil _ _ _ _
  · intro i j hi hj hij k h1 h2
    rw [hl] at hi hj
    by_cases hin : i < A.length
    · rw [vd_app_lt hin] at h1
      by_cases hjn : j < A.length
      · rw [vd_app_lt hjn] at h2
        exact H.out.apart i j hin hjn hij k h1 h2
      · obtain rfl : j = A.length := by omega
        rw [vd_app_eq] at h2; cases h2
    · obtain rfl : i = A.length := by omega
      rw [vd_app_eq] at h1; cases h1
  · exact (HK2.out.more fun k hk => .inr (.inr (.inl (qa_of H.out.hq hk)))).setCell (p := ⟨pb, 1, none⟩) (fun _ => .inl rfl) _
end
end Go.Proofs.Ytbpmoomklknkkaa
