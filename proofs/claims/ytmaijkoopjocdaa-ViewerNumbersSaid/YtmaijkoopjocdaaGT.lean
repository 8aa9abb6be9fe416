/- Merged: RApply ROn RTake. -/
import Derived.Test.YtmaijkoopjocdaaGR
import Derived.Test.YtmaijkoopjocdaaRApG2
import Derived.Test.YtmaijkoopjocdaaRView
import Derived.Deep.DeepCutAuto
import Derived.Test.YtmaijkoopjocdaaGH
/- cornhillref19.Apply, joined. -/
namespace Go.Proofs.Ytmaijkoopjocdaa
open Go.RowKit Go.Lib

theorem rapply_any {w : World} {B : Nat} {v : Value} {V : Vw} (h : VO RPR RLV w B v V) (hB : B ≤ w.heap.size) (hl : V.length ≤ 255) {K : Nat} (hK : LenV V K) (hK2 : K ≤ 800000) (hsrt : SrtV V) {m : Mg} (hf : Fine V.length m) :
  Calls Try.prog 28 #[.agg #[v], m.agg] w fun e w' => ∃ v', e = .returned (.tuple #[.agg #[v'], .int .i64 0]) ∧ VO RPR RLV w' B v' (appV m V) ∧ Below w.heap.size w w' := by
 obtain ⟨f1, f2, f3, f4, f5, f6⟩ := hf
 obtain ⟨q, ii, d, p, t, c, im⟩ := m
 dsimp only at f1 f2 f3 f4 f5 f6
 obtain ⟨i, rfl⟩ : ∃ i : Nat, ii = i := ⟨ii.toNat, by omega⟩
 have hi : i < V.length := by omega
 rcases f3 with rfl | rfl
 ·exact rapply_1 h hB hl hK hK2 hsrt hi f4 f5 f6
 ·exact rapply_2 h hB hl hK hK2 hsrt hi f4 f5 f6
end Go.Proofs.Ytmaijkoopjocdaa

/- The walk of cornhillref21.Viewer's on. -/
namespace Go.Proofs.Ytmaijkoopjocdaa
open Go.RowKit Go.Lib

theorem Lay.Row.some_of {α : Type} {Y : Lay α} {w : World} {B : Nat} {v : Value} {L : List α} (h : Y.Row w B v L) (hv : v.ownBlock ≠ none) : ∃ g cap cur, v = .slice (some ⟨g, 0, none⟩) L.length cap ∧ B ≤ g ∧ Blk w g Y.t cur := by
 rcases h.2 with ⟨rfl, h0⟩ | ⟨g, cap, cur, hv, hb, hh, _⟩
 ·exact absurd rfl hv
 ·exact ⟨g, cap, cur, hv, hb, hh⟩
/-- append of many that are read, as a step of a region that draws its order -/
theorem Lay.stepsN {α : Type} (Y : Lay α) {w : World} {ops : Array Oper} {o : Oper} {a : Act} {K : Act → World → Prop} {Q : Exit → Act → World → Prop} {E : Prop} (hgd : o.guard = none) (s x : Operand)
  (ho : o.op = .call { callee := .builtin .append, args := #[s, x], argTypes := #[Y.ts, Y.ts] })
  (B g0 c0 n m : Nat) (L : List α) (hn : L.length = n) (hs : a.eval s = .slice (some ⟨g0, 0, none⟩) n c0) (hown : Y.Row w B (.slice (some ⟨g0, 0, none⟩) n c0) L)
  (b off c : Nat) (M : List α) (hm : M.length = m) (hx : a.eval x = .slice (some ⟨b, off, none⟩) m c) (hr : Y.Rd w (some ⟨b, off, none⟩) M)
  (nm : Nat) (hnm : n + m = nm) (hle : n + m ≤ 1000000) (hbase : B ≤ w.heap.size)
  (h : ∀ g cap w', Y.Row w' B (.slice (some ⟨g, 0, none⟩) nm cap) (L ++ M) → w.grownBy w' (some g0) → (g = g0 ∨ g = w.heap.size) → K (a.put o.dst (.slice (some ⟨g, 0, none⟩) nm cap)) w') :
  if Region.wanted o (yielded ops a.tmps) = true then Oper.wp Try.prog o a w K Q else E := by
 subst hn
 subst hm
 subst hnm
 have hw : Region.wanted o (yielded ops a.tmps) = true := by simp [Region.wanted, hgd]
 rw [if_pos hw]
 obtain ⟨v', w', hrun, h2, h3, h5⟩ := Y.run_append o.type hown ⟨b, off, none⟩ c M ⟨b, off, rfl⟩ hr hle hbase
 obtain ⟨g, cap, cur, rfl, _, _⟩ := h2.some_of (by
  rcases h5 with h5 | h5
  ·rw [h5]; simp [Value.ownBlock]
  ·rw [h5]; simp)
 unfold Oper.wp execOp
 simp only [ho, resolve, invoke, builtin, Sem.run_bind, Sem.run_pure, Result.andThen_ok, List.map_toArray, List.map_cons, List.map_nil, hs, hx, hrun]
 rw [List.length_append] at h2 ⊢
 refine h g cap w' h2 h3 ?_
 rcases h5 with h5 | h5
 ·have h6 : some g = some g0 := h5
  injection h6 with h6
  exact .inl h6
 ·have h6 : some g = some w.heap.size := h5
  injection h6 with h6
  exact .inr h6
theorem heldI_none {q : Int} {H : List Mg} (h : H.findIdx? (fun m => m.seq == q) = none) : heldI q 0 H = -1 := by rw [heldI_eq, h]
theorem heldI_some {q : Int} {H : List Mg} {k : Nat} (h : H.findIdx? (fun m => m.seq == q) = some k) : heldI q 0 H = k := by
 rw [heldI_eq, h]
 show ((0 + k : Nat) : Int) = k
 rw [Nat.zero_add]
theorem find_none_of {q : Int} {H : List Mg} (h : ∀ m ∈ H, m.seq ≠ q) : H.findIdx? (fun m => m.seq == q) = none := by
 rw [List.findIdx?_eq_none_iff]
 intro m hm
 exact beq_eq_false_iff_ne.2 (h m hm)
theorem onR_none {f : Nat} {s : LSt} (h : s.H.findIdx? (fun m => m.seq == s.seq + 1) = none) : onR f s = s := by
 cases f with
 | zero => rfl
 | succ f => unfold onR; rw [h]
theorem onR_some {V : Vw} {q : Int} {H : List Mg} {k : Nat} {m : Mg} (h : H.findIdx? (fun m => m.seq == q + 1) = some k) (hm : H[k]? = some m) :
  onR H.length ⟨V, q, H⟩ = onR (H.take k ++ H.drop (k + 1)).length ⟨appV m V, q + 1, H.take k ++ H.drop (k + 1)⟩ := by
 have hl : H.length = (H.take k ++ H.drop (k + 1)).length + 1 := by
  have := (erase_perm hm).length_eq
  rwa [List.length_cons] at this
 generalize (H.take k ++ H.drop (k + 1)).length = L at hl ⊢
 rw [hl]
 conv => { lhs; unfold onR }
 dsimp only
 rw [h]
 dsimp only
 rw [hm]
structure GI (W w wr : World) (pw : Nat) (hw : Value) (s : LSt) (k : Nat) (hw' : Value) (V : Vw) (q : Int) (H : List Mg) : Prop where
 rv : RW W wr pw hw' ⟨V, q, H⟩
 kp : Keeps (fun g => g = pw) w wr
 own : ∀ g, hw'.ownBlock = some g → hw.ownBlock = some g ∨ w.heap.size ≤ g
 fp : onR H.length ⟨V, q, H⟩ = onR s.H.length s
 len : H.length ≤ k
 vl : V.length = s.V.length
 srt : SrtV V
 sz : ∃ j, LenV V j ∧ j + H.length ≤ 500000
 mok : ∀ m ∈ H, MOk s.V.length m
 q0 : 0 ≤ q
 q1 : q ≤ 9223372036854775807
section
variable {W w w' : World} {pw : Nat} {hw : Value} {s : LSt}
set_option maxRecDepth 20000 in
set_option maxHeartbeats 16000000 in
theorem ron_any (h : RW W w pw hw s) (hl : s.V.length ≤ 255) (hsz : ∃ j, LenV s.V j ∧ j + s.H.length ≤ 500000) (hsrt : SrtV s.V) (hmok : ∀ m ∈ s.H, MOk s.V.length m) (hq0 : 0 ≤ s.seq) (hq1 : s.seq ≤ 9223372036854775807) :
  Calls Try.prog 30 #[.pointer (some ⟨pw, 0, none⟩)] w fun e w' => e = .returned (.tuple #[]) ∧ ∃ hw', RW W w' pw hw' (onR s.H.length s) ∧ Keeps (fun g => g = pw) w w' ∧ ∀ g, hw'.ownBlock = some g → hw.ownBlock = some g ∨ w.heap.size ≤ g := by
 have F0 : Hid (GI W w w pw hw s s.H.length hw s.V s.seq s.H) := Lib.hid ⟨h, Keeps.refl _ _, fun g hg => .inl hg, rfl, Nat.le_refl _, rfl, hsrt, hsz, hmok, hq0, hq1⟩
 clear h hsz hsrt hmok hq0 hq1
 go_enter Try.func30, Try.ntmps30
 go_wp2_with fail
 go_loopg [] s.H.length (fun k wr => ∃ (hw' : Value) (V : Vw) (q : Int) (H : List Mg), GI W w wr pw hw s k hw' V q H)
 case atStart => exact ⟨_, _, _, _, F0.out⟩
 case round =>
  clear F0
  obtain ⟨hw1, V, q, H, hF⟩ := hrel
  obtain ⟨wz, rfl⟩ : ∃ wo : World, wo = wr := ⟨_, rfl⟩
  have F1 := Lib.hid hF
  obtain ⟨a, c, hbx, hvo⟩ := hF.rv.box
  obtain ⟨ah, ch, hvf⟩ := hF.rv.held.form
  subst hvf
  have BX := Lib.hid hbx
  have HVO := Lib.hid hvo
  have hq0 := hF.q0
  have hq1 := hF.q1
  have hll : H.length ≤ 500000 ∨ True := .inr trivial
  have hlh : H.length ≤ 500000 := by obtain ⟨j, _, hj2⟩ := hF.sz; omega
  have k1 : wz.cell? ⟨pw, 1, none⟩ = some (.int .i64 q) := hbx.cell 1
  clear hbx hF hvo hll
  by_cases hmx : q = 9223372036854775807
  ·subst hmx
   have HNO : Hid (onR H.length ⟨V, 9223372036854775807, H⟩ = ⟨V, 9223372036854775807, H⟩) := Lib.hid (onR_none (find_none_of fun m hm => by have := (F1.out.mok m hm).o.seq.2; dsimp only; omega))
   have HHD := Lib.hid (held_any F1.out.rv (by exact hlh) (-9223372036854775808))
   rw [heldI_none (find_none_of fun m hm => by have := (F1.out.mok m hm).s1; omega)] at HHD
   go_wp2_with fail
   rw [show wrap64 9223372036854775808 = -9223372036854775808 by first | rfl | decide | (unfold wrap64; decide) | simp [wrap64]]
   refine HHD.out.mono ?_
   rintro e w2 ⟨rfl, rfl⟩
   clear HHD
   go_wp2_with fail
   go_end0
   refine ⟨by trivial, _, ?_, F1.out.kp, F1.out.own⟩
   rw [← F1.out.fp, HNO.out]
   exact F1.out.rv
  ·have hq2 : q + 1 ≤ 9223372036854775807 := by omega
   have HHD := Lib.hid (held_any F1.out.rv (by exact hlh) (q + 1))
   cases hfi : H.findIdx? (fun m => m.seq == q + 1) with
   | none =>
    have HNO : Hid (onR H.length ⟨V, q, H⟩ = ⟨V, q, H⟩) := Lib.hid (onR_none hfi)
    rw [heldI_none hfi] at HHD
    clear hfi
    go_wp2_with fail
    refine HHD.out.mono ?_
    rintro e w2 ⟨rfl, rfl⟩
    clear HHD
    go_wp2_with fail
    go_end0
    refine ⟨by trivial, _, ?_, F1.out.kp, F1.out.own⟩
    rw [← F1.out.fp, HNO.out]
    exact F1.out.rv
   | some k =>
    obtain ⟨m, hm, hmem, hsq⟩ := find_get hfi
    have HNX := Lib.hid (onR_some (V := V) hfi hm)
    have HM := Lib.hid (F1.out.mok m hmem)
    rw [heldI_some hfi] at HHD
    have hk : k < H.length := lt_of_get hm
    have HMG := Lib.hid hm
    obtain ⟨g, cap, he, hgl, hcs⟩ := F1.out.rv.held.at_ k m hm
    injection he with he1 _ he3
    subst he1
    subst he3
    have hc7 : CellsAt wz g (k * 7) [.int .i64 m.seq, .int .i64 m.inst, .int .i64 m.side, .int .i64 m.price, .int .i64 m.qty, .int .i64 m.count, .bool m.imp] := hcs
    have HC7 := Lib.hid hc7
    have HGL := Lib.hid hgl
    have hkc : H.length ≤ ch := by obtain ⟨_, _, e, o, _⟩ := F1.out.rv.held.sl; injection e with _ _ e3; have := o.2.2; rw [e3]; exact this
    clear hfi hm hmem hsq hcs hc7 hgl
    go_wp2_with fail
    refine HHD.out.mono ?_
    rintro e w2 ⟨rfl, rfl⟩
    have z0 : (0 : Int) ≤ (k : Int) := by omega
    go_wp2_with fail
    refine HHD.out.mono ?_
    rintro e w2 ⟨rfl, rfl⟩
    clear HHD
    go_upto_region 2 with (fail)
    go_cut [31] (fun _ wx => RW W wx pw (.slice (some ⟨g, 0, none⟩) H.length ch) ⟨appV m V, q, H⟩ ∧ Keeps (fun g => g = pw) w wx)
    case first =>
     have hfine : Fine V.length m := by have h1 := F1.out.vl; have h2 := HM.out.f; rw [← h1] at h2; exact h2
     obtain ⟨jj, hj1, hj2⟩ := F1.out.sz
     have hap := rapply_any (HVO.out.below (Below.drewN_of wz 1)) (B := W.heap.size) (by exact F1.out.rv.bel.size) (by have := F1.out.vl; omega) hj1 (by omega) F1.out.srt hfine
     unfold Mg.agg at hap
     have HAP := Lib.hid hap
     have HS : Hid (∀ wx, Below wz.heap.size wz wx → (fun w' => w'.cell? ⟨pw, 2, none⟩ = some (.slice (some ⟨g, 0, none⟩) H.length ch) ∧ w'.cell? ⟨g, k * 7, none⟩ = some (.int .i64 m.seq) ∧ w'.cell? ⟨g, k * 7 + 1, none⟩ = some (.int .i64 m.inst) ∧ w'.cell? ⟨g, k * 7 + 2, none⟩ = some (.int .i64 m.side) ∧ w'.cell? ⟨g, k * 7 + 3, none⟩ = some (.int .i64 m.price) ∧ w'.cell? ⟨g, k * 7 + 4, none⟩ = some (.int .i64 m.qty) ∧ w'.cell? ⟨g, k * 7 + 5, none⟩ = some (.int .i64 m.count) ∧ w'.cell? ⟨g, k * 7 + 6, none⟩ = some (.bool m.imp)) wx) := Lib.hid fun wx hb => by
      have hx := BX.out.below hb
      have hc := HC7.out.below hb HGL.out
      exact ⟨hx.cell 2, hc 0 _ rfl, hc 1 _ rfl, hc 2 _ rfl, hc 3 _ rfl, hc 4 _ rfl, hc 5 _ rfl, hc 6 _ rfl⟩
     clear hap k1 hj1 hj2
     refine wp_region_E (S := fun w' => w'.cell? ⟨pw, 2, none⟩ = some (.slice (some ⟨g, 0, none⟩) H.length ch) ∧ w'.cell? ⟨g, k * 7, none⟩ = some (.int .i64 m.seq) ∧ w'.cell? ⟨g, k * 7 + 1, none⟩ = some (.int .i64 m.inst) ∧ w'.cell? ⟨g, k * 7 + 2, none⟩ = some (.int .i64 m.side) ∧ w'.cell? ⟨g, k * 7 + 3, none⟩ = some (.int .i64 m.price) ∧ w'.cell? ⟨g, k * 7 + 4, none⟩ = some (.int .i64 m.qty) ∧ w'.cell? ⟨g, k * 7 + 5, none⟩ = some (.int .i64 m.count) ∧ w'.cell? ⟨g, k * 7 + 6, none⟩ = some (.bool m.imp)) (by kernel_rfl) (HS.out _ (Below.refl _ _).drew) (fun hHeld => ?_)
     refine wpE_tk 0 (oi := ?o2) (v := ?v2) ?h2 (by kernel_rfl) ?q2 ?y2 (by assumption) ?_
     case h2 => (simp only [List.getElem?_toArray]; rfl)
     case q2 => exact fun _ _ _ h => h
     case y2 => exact Or.inl ⟨by rfl, by (intro w hSw; (try dsimp only at hSw); go_simp; try with_reducible rfl)⟩
     try simp only [Act.put, sA, sB, sC]
     refine wpE_tk 1 (oi := ?o3) (v := ?v3) ?h3 (by kernel_rfl) ?q3 ?y3 (by assumption) ?_
     case h3 => (simp only [List.getElem?_toArray]; rfl)
     case q3 => exact fun _ _ _ h => h
     case y3 => exact Or.inl ⟨by rfl, by (intro w hSw; (try dsimp only at hSw); go_simp; try with_reducible rfl)⟩
     try simp only [Act.put, sA, sB, sC]
     refine wpE_tk 2 (oi := ?o4) (v := ?v4) ?h4 (by kernel_rfl) ?q4 ?y4 (by assumption) ?_
     case h4 => (simp only [List.getElem?_toArray]; rfl)
     case q4 => exact fun _ _ _ h => h
     case y4 => exact Or.inl ⟨by rfl, by (intro w hSw; (try dsimp only at hSw); go_simp; try with_reducible rfl)⟩
     try simp only [Act.put, sA, sB, sC]
     refine wpE_tk 3 (oi := ?o5) (v := ?v5) ?h5 (by kernel_rfl) ?q5 ?y5 (by assumption) ?_
     case h5 => (simp only [List.getElem?_toArray]; rfl)
     case q5 => exact fun _ _ _ h => h
     case y5 => exact Or.inl ⟨by rfl, by (intro w hSw; (try dsimp only at hSw); go_simp; try with_reducible rfl)⟩
     try simp only [Act.put, sA, sB, sC]
     refine wpE_tk 5 (oi := ?o6) (v := ?v6) ?h6 (by kernel_rfl) ?q6 ?y6 (by assumption) ?_
     case h6 => (simp only [List.getElem?_toArray]; rfl)
     case q6 => exact fun _ _ _ h => h
     case y6 => exact Or.inl ⟨by rfl, by (intro w hSw; (try dsimp only at hSw); go_simp; try with_reducible rfl)⟩
     try simp only [Act.put, sA, sB, sC]
     refine wpE_tk 6 (oi := ?o7) (v := ?v7) ?h7 (by kernel_rfl) ?q7 ?y7 (by assumption) ?_
     case h7 => (simp only [List.getElem?_toArray]; rfl)
     case q7 => exact fun _ _ _ h => h
     case y7 => exact Or.inl ⟨by rfl, by (intro w hSw; (try dsimp only at hSw); go_simp; try with_reducible rfl)⟩
     try simp only [Act.put, sA, sB, sC]
     refine wpE_tk 7 (oi := ?o8) (v := ?v8) ?h8 (by kernel_rfl) ?q8 ?y8 (by assumption) ?_
     case h8 => (simp only [List.getElem?_toArray]; rfl)
     case q8 => exact fun _ _ _ h => h
     case y8 => exact Or.inl ⟨by rfl, by (intro w hSw; (try dsimp only at hSw); go_simp; try with_reducible rfl)⟩
     try simp only [Act.put, sA, sB, sC]
     refine wpE_tk 8 (oi := ?o9) (v := ?v9) ?h9 (by kernel_rfl) ?q9 ?y9 (by assumption) ?_
     case h9 => (simp only [List.getElem?_toArray]; rfl)
     case q9 => exact fun _ _ _ h => h
     case y9 => exact Or.inl ⟨by rfl, by (intro w hSw; (try dsimp only at hSw); go_simp; try with_reducible rfl)⟩
     try simp only [Act.put, sA, sB, sC]
     refine wpE_tk 9 (oi := ?o10) (v := ?v10) ?h10 (by kernel_rfl) ?q10 ?y10 (by assumption) ?_
     case h10 => (simp only [List.getElem?_toArray]; rfl)
     case q10 => exact fun _ _ _ h => h
     case y10 => exact Or.inl ⟨by rfl, by (intro w hSw; (try dsimp only at hSw); go_simp; try with_reducible rfl)⟩
     try simp only [Act.put, sA, sB, sC]
     refine wpE_tk 10 (oi := ?o11) (v := ?v11) ?h11 (by kernel_rfl) ?q11 ?y11 (by assumption) ?_
     case h11 => (simp only [List.getElem?_toArray]; rfl)
     case q11 => exact fun _ _ _ h => h
     case y11 => exact Or.inl ⟨by rfl, by (intro w hSw; (try dsimp only at hSw); go_simp; try with_reducible rfl)⟩
     try simp only [Act.put, sA, sB, sC]
     refine wpE_tk 11 (oi := ?o12) (v := ?v12) ?h12 (by kernel_rfl) ?q12 ?y12 (by assumption) ?_
     case h12 => (simp only [List.getElem?_toArray]; rfl)
     case q12 => exact fun _ _ _ h => h
     case y12 => exact Or.inl ⟨by rfl, by (intro w hSw; (try dsimp only at hSw); go_simp; try with_reducible rfl)⟩
     try simp only [Act.put, sA, sB, sC]
     refine wpE_one (i := 4) (o := ?o33) ?ho33 (by kernel_rfl) (fun K hK => ?_)
     case ho33 => (simp only [List.getElem?_toArray]; rfl)
     have b0 : wz.drew.cell? ⟨pw, 0, none⟩ = some (.slice a V.length c) := BX.out.cell 0
     go_simp
     refine hK.out _ _ (HS.out _ (Below.refl _ _).drew) (fun hHeld => ?_)
     clear hK K b0
     refine wpE_one (i := 12) (o := ?o34) ?ho34 (by kernel_rfl) (fun K hK => ?_)
     case ho34 => (simp only [List.getElem?_toArray]; rfl)
     go_simp
     refine HAP.out.mono ?_
     rintro e w3 ⟨v', rfl, hvo3, hb3⟩
     obtain ⟨a3, c3, rfl⟩ := hvo3.form
     have hb3' : Below wz.heap.size wz w3 := (Below.drewN_of wz 1).trans hb3
     refine hK.out _ _ (HS.out _ hb3') (fun hHeld => ?_)
     clear hK K
     have R3 : Hid (RW W (w3.setCell ⟨pw, 0, none⟩ (.slice a3 (appV m V).length c3)) pw (.slice (some ⟨g, 0, none⟩) H.length ch) ⟨appV m V, q, H⟩) := Lib.hid ((F1.out.rv.below hb3').view_ hvo3)
     have K3 : Hid (Keeps (fun g => g = pw) w (w3.setCell ⟨pw, 0, none⟩ (.slice a3 (appV m V).length c3))) := Lib.hid (F1.out.kp.trans ((Below.keeps hb3').trans (keep1 w3 pw 0 _)))
     have hx3 := BX.out.below hb3'
     have hne : g ≠ pw := fun e => (own_tyd F1.out.rv.held g rfl).ne BX.out.tyd (by decide) e
     have HS3 := HS.out _ hb3'
     have HS4 : Hid ((fun w' => w'.cell? ⟨pw, 2, none⟩ = some (.slice (some ⟨g, 0, none⟩) H.length ch) ∧ w'.cell? ⟨g, k * 7, none⟩ = some (.int .i64 m.seq) ∧ w'.cell? ⟨g, k * 7 + 1, none⟩ = some (.int .i64 m.inst) ∧ w'.cell? ⟨g, k * 7 + 2, none⟩ = some (.int .i64 m.side) ∧ w'.cell? ⟨g, k * 7 + 3, none⟩ = some (.int .i64 m.price) ∧ w'.cell? ⟨g, k * 7 + 4, none⟩ = some (.int .i64 m.qty) ∧ w'.cell? ⟨g, k * 7 + 5, none⟩ = some (.int .i64 m.count) ∧ w'.cell? ⟨g, k * 7 + 6, none⟩ = some (.bool m.imp)) (w3.setCell ⟨pw, 0, none⟩ (.slice a3 (appV m V).length c3))) := Lib.hid (by
      have hx4 := (hx3.set_ 0 (.slice a3 (appV m V).length c3)).cell 2
      have hc4 := (HC7.out.below hb3' HGL.out).keeps (keep1 w3 pw 0 (.slice a3 (appV m V).length c3)) (Nat.lt_of_lt_of_le HGL.out hb3'.size) hne
      exact ⟨hx4, hc4 0 _ rfl, hc4 1 _ rfl, hc4 2 _ rfl, hc4 3 _ rfl, hc4 4 _ rfl, hc4 5 _ rfl, hc4 6 _ rfl⟩)
     have q0 : w3.cell? ⟨pw, 0, none⟩ = some (.slice a V.length c) := hx3.cell 0
     have qz : w3.frozen? ⟨pw, 0, none⟩ = false := hx3.frozen 0
     clear hvo3 hb3 hb3' hx3 HAP hne
     refine wpE_tk 13 (oi := ?o13) (v := ?v13) ?h13 (by kernel_rfl) ?q13 ?y13 (by assumption) ?_
     case h13 => (simp only [List.getElem?_toArray]; rfl)
     case q13 => exact fun _ _ _ h => h
     case y13 => exact Or.inl ⟨by rfl, by (intro w hSw; (try dsimp only at hSw); go_simp; try with_reducible rfl)⟩
     try simp only [Act.put, sA, sB, sC]
     refine wpE_tk 14 (oi := ?o14) (v := ?v14) ?h14 (by kernel_rfl) ?q14 ?y14 (by assumption) ?_
     case h14 => (simp only [List.getElem?_toArray]; rfl)
     case q14 => exact fun _ _ _ h => h
     case y14 => exact Or.inl ⟨by rfl, by (intro w hSw; (try dsimp only at hSw); go_simp; try with_reducible rfl)⟩
     try simp only [Act.put, sA, sB, sC]
     refine wpE_tk 16 (oi := ?o15) (v := ?v15) ?h15 (by kernel_rfl) ?q15 ?y15 (by assumption) ?_
     case h15 => (simp only [List.getElem?_toArray]; rfl)
     case q15 => exact fun _ _ _ h => h
     case y15 => exact Or.inl ⟨by rfl, by (intro w hSw; (try dsimp only at hSw); go_simp; try with_reducible rfl)⟩
     try simp only [Act.put, sA, sB, sC]
     refine wpE_tk 17 (oi := ?o16) (v := ?v16) ?h16 (by kernel_rfl) ?q16 ?y16 (by assumption) ?_
     case h16 => (simp only [List.getElem?_toArray]; rfl)
     case q16 => exact fun _ _ _ h => h
     case y16 => exact Or.inl ⟨by rfl, by (intro w hSw; (try dsimp only at hSw); go_simp; try with_reducible rfl)⟩
     try simp only [Act.put, sA, sB, sC]
     refine wpE_two (i := 15) (j := 18) (oi := ?oa1) (oj := ?ob1) ?ha1 ?hb1 (by kernel_rfl) (fun K hK => ?_) (fun K hK => ?_)
     case ha1 => (simp only [List.getElem?_toArray]; rfl)
     case hb1 => (simp only [List.getElem?_toArray]; rfl)
     ·go_simp
      refine hK.out _ _ HS3 (fun hHeld => ?_)
      clear hK K
      refine wpE_last (i := 18) (o := ?o38) ?ho38 (by kernel_rfl) (by kernel_rfl) (by kernel_rfl) (fun K hK => ?_)
      case ho38 => (simp only [List.getElem?_toArray]; rfl)
      go_simp
      refine hK.out _ _ ?_
      clear hK K hHeld q0 qz HS3 HS4
      go_wp2_with fail
      go_meet
      exact ⟨R3.out, K3.out⟩
     ·go_simp
      refine hK.out _ _ HS4.out (fun hHeld => ?_)
      clear hK K
      refine wpE_last (i := 15) (o := ?o39) ?ho39 (by kernel_rfl) (by kernel_rfl) (by kernel_rfl) (fun K hK => ?_)
      case ho39 => (simp only [List.getElem?_toArray]; rfl)
      go_simp
      refine hK.out _ _ ?_
      clear hK K hHeld q0 qz HS3 HS4
      go_wp2_with fail
      go_meet
      exact ⟨R3.out, K3.out⟩
    case rest =>
    obtain ⟨hR5, hK5⟩ := hcut
    obtain ⟨w5, rfl⟩ : ∃ wo : World, wo = wc := ⟨_, rfl⟩
    obtain ⟨a5, c5, hb5, _⟩ := hR5.box
    have k5 : w5.cell? ⟨pw, 1, none⟩ = some (.int .i64 q) := hb5.cell 1
    have z5 : w5.frozen? ⟨pw, 1, none⟩ = false := hb5.frozen 1
    have R6 := Lib.hid (hR5.seq_ (q + 1))
    have K6 := Lib.hid (hK5.trans (keep1 w5 pw 1 (.int .i64 (q + 1))))
    clear hR5 hK5 hb5 k1 BX HVO HC7 HGL
    go_upto_region 4 with (fail)
    clear k5 z5
    generalize w5.setCell ⟨pw, 1, none⟩ (.int .i64 (q + 1)) = w6 at *
    obtain ⟨a7, c7, hb6, _⟩ := R6.out.box
    have B6 : Hid (Blk w6 pw 55 #[.slice a7 (appV m V).length c7, .int .i64 (q + 1), .slice (some ⟨g, 0, none⟩) H.length ch]) := Lib.hid hb6
    have HTK : Hid ((H.take k).length = k) := Lib.hid (by rw [List.length_take]; omega)
    have HDK : Hid ((H.drop (k + 1)).length = H.length - (k + 1)) := Lib.hid (by rw [List.length_drop])
    obtain ⟨off2, hoff⟩ : ∃ off2, (if ch = k + 1 then some (⟨g, 0, none⟩ : Addr) else some ⟨g, (k + 1) * 7, none⟩) = some ⟨g, off2, none⟩ := by by_cases h : ch = k + 1; exact ⟨0, if_pos h⟩; exact ⟨(k + 1) * 7, if_neg h⟩
    have HOFF := Lib.hid hoff
    have HRD : Hid (MSG.Rd w6 (some ⟨g, 0, none⟩) H) := Lib.hid (by
     obtain ⟨a', c', e, _, hrd⟩ := R6.out.held.sl
     injection e with e1 _ _
     rw [e1]; exact hrd)
    have HRDD : Hid (∀ wx, Below w6.heap.size w6 wx → MSG.Rd wx (some ⟨g, off2, none⟩) (H.drop (k + 1))) := Lib.hid (by
     intro wx hbx
     have ho := HOFF.out
     by_cases hcap : ch = k + 1
     ·have h0 : H.drop (k + 1) = [] := List.eq_nil_of_length_eq_zero (by rw [HDK.out]; omega)
      rw [h0]
      exact Lay.Rd.nil
     ·rw [if_neg hcap] at ho
      injection ho with ho
      injection ho with _ ho
      rw [← ho]
      intro j e hj
      rw [List.getElem?_drop] at hj
      obtain ⟨b, off, h1, h2, h3⟩ := (HRD.out.below hbx) (k + 1 + j) e hj
      injection h1 with h1
      injection h1 with h1 h4
      subst h1 h4
      refine ⟨g, (k + 1) * 7, rfl, h2, ?_⟩
      rw [show (k + 1) * 7 + j * MSG.m = 0 + (k + 1 + j) * MSG.m by show (k + 1) * 7 + j * 7 = 0 + (k + 1 + j) * 7; omega]
      exact h3)
    have z1 : (0 : Int) ≤ (k : Int) + 1 := by omega
    have z2 : k ≤ H.length := by omega
    have z3 : k ≤ ch := by omega
    have z4 : k + 1 ≤ H.length := by omega
    have z5 : (k : Int) + 1 ≤ (H.length : Int) := by omega
    have z6 : k + 1 ≤ ch := by omega
    have z8 : (k : Int) ≤ (H.length : Int) := by omega
    have z9 : (k : Int) ≤ (ch : Int) := by omega
    have z11 : IntKind.i64.wrap ((k : Int) + 1) = (k : Int) + 1 := IntWalk.i64_in _ (by omega)
    have HBD0 := Lib.hid (Below.drewN_of w6 1)
    clear hb6
    refine wp_region_E (S := fun w' => w'.cell? ⟨pw, 2, none⟩ = some (.slice (some ⟨g, 0, none⟩) H.length ch)) (by kernel_rfl) (B6.out.cell 2) (fun hHeld => ?_)
    refine wpE_tk 0 (oi := ?o17) (v := ?v17) ?h17 (by kernel_rfl) ?q17 ?y17 (by assumption) ?_
    case h17 => (simp only [List.getElem?_toArray]; rfl)
    case q17 => exact fun _ _ _ h => h
    case y17 => exact Or.inl ⟨by rfl, by (intro w hSw; (try dsimp only at hSw); go_simp; try with_reducible rfl)⟩
    try simp only [Act.put, sA, sB, sC]
    refine wpE_tk 2 (oi := ?o18) (v := ?v18) ?h18 (by kernel_rfl) ?q18 ?y18 (by assumption) ?_
    case h18 => (simp only [List.getElem?_toArray]; rfl)
    case q18 => exact fun _ _ _ h => h
    case y18 => exact Or.inl ⟨by rfl, by (intro w hSw; (try dsimp only at hSw); go_simp; try with_reducible rfl)⟩
    try simp only [Act.put, sA, sB, sC]
    refine wpE_tk 3 (oi := ?o19) (v := ?v19) ?h19 (by kernel_rfl) ?q19 ?y19 (by assumption) ?_
    case h19 => (simp only [List.getElem?_toArray]; rfl)
    case q19 => exact fun _ _ _ h => h
    case y19 => exact Or.inl ⟨by rfl, by (intro w hSw; (try dsimp only at hSw); go_simp; try with_reducible rfl)⟩
    try simp only [Act.put, sA, sB, sC]
    refine wpE_tk 4 (oi := ?o20) (v := ?v20) ?h20 (by kernel_rfl) ?q20 ?y20 (by assumption) ?_
    case h20 => (simp only [List.getElem?_toArray]; rfl)
    case q20 => exact fun _ _ _ h => h
    case y20 => exact Or.inl ⟨by rfl, by (intro w hSw; (try dsimp only at hSw); go_simp; try with_reducible rfl)⟩
    try simp only [Act.put, sA, sB, sC]
    refine wpE_tk 5 (oi := ?o21) (v := ?v21) ?h21 (by kernel_rfl) ?q21 ?y21 (by assumption) ?_
    case h21 => (simp only [List.getElem?_toArray]; rfl)
    case q21 => exact fun _ _ _ h => h
    case y21 => exact Or.inl ⟨by rfl, by (intro w hSw; (try dsimp only at hSw); go_simp; try with_reducible rfl)⟩
    try simp only [Act.put, sA, sB, sC]
    refine wpE_tk 6 (oi := ?o22) (v := ?v22) ?h22 (by kernel_rfl) ?q22 ?y22 (by assumption) ?_
    case h22 => (simp only [List.getElem?_toArray]; rfl)
    case q22 => exact fun _ _ _ h => h
    case y22 => exact Or.inl ⟨by rfl, by (intro w hSw; (try dsimp only at hSw); go_simp; try with_reducible rfl)⟩
    try simp only [Act.put, sA, sB, sC]
    refine wpE_tk 7 (oi := ?o23) (v := ?v23) ?h23 (by kernel_rfl) ?q23 ?y23 (by assumption) ?_
    case h23 => (simp only [List.getElem?_toArray]; rfl)
    case q23 => exact fun _ _ _ h => h
    case y23 => exact Or.inl ⟨by rfl, by (intro w hSw; (try dsimp only at hSw); go_simp; try with_reducible rfl)⟩
    try simp only [Act.put, sA, sB, sC]
    refine wpE_tk 9 (oi := ?o24) (v := ?v24) ?h24 (by kernel_rfl) ?q24 ?y24 (by assumption) ?_
    case h24 => (simp only [List.getElem?_toArray]; rfl)
    case q24 => exact fun _ _ _ h => h
    case y24 => exact Or.inl ⟨by rfl, by (intro w hSw; (try dsimp only at hSw); go_simp; try with_reducible rfl)⟩
    try simp only [Act.put, sA, sB, sC]
    refine wpE_tk 10 (oi := ?o25) (v := ?v25) ?h25 (by kernel_rfl) ?q25 ?y25 (by assumption) ?_
    case h25 => (simp only [List.getElem?_toArray]; rfl)
    case q25 => exact fun _ _ _ h => h
    case y25 => exact Or.inl ⟨by rfl, by (intro w hSw; (try dsimp only at hSw); go_simp; try with_reducible rfl)⟩
    try simp only [Act.put, sA, sB, sC]
    refine wpE_tk 11 (oi := ?o26) (v := ?v26) ?h26 (by kernel_rfl) ?q26 ?y26 (by assumption) ?_
    case h26 => (simp only [List.getElem?_toArray]; rfl)
    case q26 => exact fun _ _ _ h => h
    case y26 => exact Or.inl ⟨by rfl, by (intro w hSw; (try dsimp only at hSw); go_simp; try with_reducible rfl)⟩
    try simp only [Act.put, sA, sB, sC]
    refine wpE_tk 12 (oi := ?o27) (v := ?v27) ?h27 (by kernel_rfl) ?q27 ?y27 (by assumption) ?_
    case h27 => (simp only [List.getElem?_toArray]; rfl)
    case q27 => exact fun _ _ _ h => h
    case y27 => exact Or.inl ⟨by rfl, by (intro w hSw; (try dsimp only at hSw); go_simp; try with_reducible rfl)⟩
    try simp only [Act.put, sA, sB, sC]
    refine wpE_tk 13 (oi := ?o28) (v := ?v28) ?h28 (by kernel_rfl) ?q28 ?y28 (by assumption) ?_
    case h28 => (simp only [List.getElem?_toArray]; rfl)
    case q28 => exact fun _ _ _ h => h
    case y28 => exact Or.inl ⟨by rfl, by (intro w hSw; (try dsimp only at hSw); go_simp; try with_reducible rfl)⟩
    try simp only [Act.put, sA, sB, sC]
    refine wpE_tk 14 (oi := ?o29) (v := ?v29) ?h29 (by kernel_rfl) ?q29 ?y29 (by assumption) ?_
    case h29 => (simp only [List.getElem?_toArray]; rfl)
    case q29 => exact fun _ _ _ h => h
    case y29 => exact Or.inl ⟨by rfl, by (intro w hSw; (try dsimp only at hSw); go_simp; try with_reducible rfl)⟩
    try simp only [Act.put, sA, sB, sC]
    refine wpE_tk 15 (oi := ?o30) (v := ?v30) ?h30 (by kernel_rfl) ?q30 ?y30 (by assumption) ?_
    case h30 => (simp only [List.getElem?_toArray]; rfl)
    case q30 => exact fun _ _ _ h => h
    case y30 => exact Or.inl ⟨by rfl, by (intro w hSw; (try dsimp only at hSw); go_simp; try with_reducible rfl)⟩
    try simp only [Act.put, sA, sB, sC]
    refine wpE_one (i := 1) (o := ?o35) ?ho35 (by kernel_rfl) (fun K hK => ?_)
    case ho35 => (simp only [List.getElem?_toArray]; rfl)
    go_simp
    have hba := Below.allocN w6.drew (.cells #[] 34)
    have hbb : Below w6.heap.size w6 (w6.alloc (.cells #[] 34)).drew := HBD0.out.trans (hba.mono HBD0.out.size)
    refine hK.out _ _ ((B6.out.below hbb).cell 2) (fun hHeld => ?_)
    clear hK K
    have hE0 : MSG.Row (w6.alloc (.cells #[] 34)).drew w6.heap.size (.slice (some ⟨w6.heap.size, 0, none⟩) 0 0) [] := Lay.Row.empty w6.drew
    obtain ⟨ge, hge⟩ : ∃ ge, w6.heap.size = ge := ⟨_, rfl⟩
    rw [hge] at hE0
    try rw [hge]
    have HGE := Lib.hid hge
    have HE := Lib.hid (hE0.base (show w6.heap.size ≤ ge by omega))
    have HBwe := Lib.hid hbb
    clear hba hbb hE0 hge hoff
    generalize (w6.alloc (.cells #[] 34)).drew = we at *
    refine wpE_one (i := 8) (o := ?o36) ?ho36 (by kernel_rfl) (fun K hK => ?_)
    case ho36 => (simp only [List.getElem?_toArray]; rfl)
    refine MSG.stepsN (by rfl) (.tmp 44) (.tmp 50) (by rfl) w6.heap.size ge 0 0 k [] rfl (by rfl) HE.out g 0 ch (H.take k) HTK.out (by rfl) ((HRD.out.below HBwe.out).take k) k (by omega) (by omega) HBwe.out.size ?_
    intro g1 cap1 wf hrf hgf hof
    rw [List.nil_append] at hrf
    have hbf := grown_below hgf HBwe.out (own_base HE.out)
    have HF := Lib.hid hrf
    have HBwf := Lib.hid hbf
    refine hK.out _ _ ((B6.out.below hbf).cell 2) (fun hHeld => ?_)
    clear hK K hrf hbf hgf hof
    refine wpE_one (i := 16) (o := ?o37) ?ho37 (by kernel_rfl) (fun K hK => ?_)
    case ho37 => (simp only [List.getElem?_toArray]; rfl)
    refine MSG.stepsN (by rfl) (.tmp 51) (.tmp 58) (by rfl) w6.heap.size g1 cap1 k (H.length - (k + 1)) (H.take k) HTK.out (by rfl) HF.out g off2 (ch - (k + 1)) (H.drop (k + 1)) HDK.out (by rfl) (HRDD.out _ HBwf.out) (H.length - 1) (by omega) (by omega) HBwf.out.size ?_
    intro g3 cap3 wh hrh hgh hoh
    have hbh := grown_below hgh HBwf.out (own_base HF.out)
    have HH3 := Lib.hid hrh
    have HBwh := Lib.hid hbh
    have B8 := Lib.hid (B6.out.below hbh)
    have HG3 : Hid (w6.heap.size ≤ g3) := Lib.hid (own_base hrh g3 rfl)
    have k8 : wh.cell? ⟨pw, 2, none⟩ = some (.slice (some ⟨g, 0, none⟩) H.length ch) := B8.out.cell 2
    have z10 : wh.frozen? ⟨pw, 2, none⟩ = false := B8.out.frozen 2
    refine hK.out _ _ (B8.out.cell 2) (fun hHeld => ?_)
    clear hK K hrh hbh hgh hoh
    refine wpE_tk 17 (oi := ?o31) (v := ?v31) ?h31 (by kernel_rfl) ?q31 ?y31 (by assumption) ?_
    case h31 => (simp only [List.getElem?_toArray]; rfl)
    case q31 => exact fun _ _ _ h => h
    case y31 => exact Or.inl ⟨by rfl, by (intro w hSw; (try dsimp only at hSw); go_simp; try with_reducible rfl)⟩
    try simp only [Act.put, sA, sB, sC]
    refine wpE_tk 18 (oi := ?o32) (v := ?v32) ?h32 (by kernel_rfl) ?q32 ?y32 (by assumption) ?_
    case h32 => (simp only [List.getElem?_toArray]; rfl)
    case q32 => exact fun _ _ _ h => h
    case y32 => exact Or.inl ⟨by rfl, by (intro w hSw; (try dsimp only at hSw); go_simp; try with_reducible rfl)⟩
    try simp only [Act.put, sA, sB, sC]
    refine wpE_last (i := 19) (o := ?o40) ?ho40 (by kernel_rfl) (by kernel_rfl) (by kernel_rfl) (fun K hK => ?_)
    case ho40 => (simp only [List.getElem?_toArray]; rfl)
    go_simp
    refine hK.out _ _ ?_
    clear hK K hHeld k8 z10
    have R9 := Lib.hid ((R6.out.below HBwh.out).held_ (HH3.out.base (B' := W.heap.size) R6.out.bel.size))
    have K9 := Lib.hid (K6.out.trans ((Below.keeps HBwh.out).trans (keep1 wh pw 2 (.slice (some ⟨g3, 0, none⟩) (H.length - 1) cap3))))
    have O9 : Hid (∀ g, (Value.slice (some ⟨g3, 0, none⟩) (H.length - 1) cap3).ownBlock = some g → hw.ownBlock = some g ∨ w.heap.size ≤ g) := Lib.hid fun g hg => by
     have : g3 = g := by simpa [Value.ownBlock] using hg
     rw [← this]
     exact .inr (Nat.le_trans K6.out.size HG3.out)
    have HLN : Hid ((H.take k ++ H.drop (k + 1)).length = H.length - 1) := Lib.hid (by rw [List.length_append, HTK.out, HDK.out]; omega)
    clear B8 HH3 HF HE HBwf HBwe z1 z2 z3 z4 z5 z6 z8 z9 z0 z11
    go_wp2_with fail
    go_roundg (gk - 1)
    case measure => have := F1.out.len; omega
    case rel =>
     refine ⟨_, appV m V, q + 1, H.take k ++ H.drop (k + 1), R9.out, K9.out, O9.out, by rw [← F1.out.fp, HNX.out], by have := F1.out.len; rw [HLN.out]; omega, by rw [appV_len]; exact F1.out.vl, appV_srt HM.out.f.sd F1.out.srt, ?_, fun x hx => ?_, by have := F1.out.q0; omega, by omega⟩
     ·obtain ⟨j, h1, h2⟩ := F1.out.sz
      exact ⟨j + 1, appV_lenV h1, by rw [HLN.out]; omega⟩
     ·rcases List.mem_append.1 hx with h | h
      ·exact F1.out.mok x (List.mem_of_mem_take h)
      ·exact F1.out.mok x (List.mem_of_mem_drop h)
end
end Go.Proofs.Ytmaijkoopjocdaa

/- The walk of cornhillref21.Viewer's Take. -/
namespace Go.Proofs.Ytmaijkoopjocdaa
open Go.RowKit Go.Lib

theorem heldI_has (q : Int) (H : List Mg) : decide (0 ≤ heldI q 0 H) = hasQ q H := by
 rw [heldI_eq]
 unfold hasQ
 cases h : H.findIdx? (fun m => m.seq == q) with
 | none =>
  rw [List.findIdx?_eq_none_iff] at h
  have : (H.any fun x => x.seq == q) = false := by
   rw [List.any_eq_false]
   intro x hx
   rw [h x hx]; decide
  rw [this]; rfl
 | some k =>
  obtain ⟨m, _, hm, hq⟩ := find_get h
  have : (H.any fun x => x.seq == q) = true := List.any_eq_true.2 ⟨m, hm, by rw [beq_iff_eq]; exact hq⟩
  rw [this]
  exact decide_eq_true (by show (0 : Int) ≤ ((0 + k : Nat) : Int); omega)
section
variable {W w : World} {pw n : Nat} {hw : Value} {s : LSt} {cc : Nat}
theorem RW.ins_ {w' : World} {H : List Mg} {hw' : Value} (h : RW W w pw hw s) (hk : Keeps (fun g => hw.ownBlock = some g) w w') (hr : MSG.Row w' W.heap.size hw' H) : RW W (w'.setCell ⟨pw, 2, none⟩ hw') pw hw' ⟨s.V, s.seq, H⟩ := by
 obtain ⟨⟨a, c, h1, h2⟩, h3, h4, h5⟩ := h
 have ht : ∀ g, hw.ownBlock = some g → Tyd w g MSG.t := own_tyd h3
 have hb1 := h1.keeps hk (fun e => (ht pw e).ne h1.tyd (by decide) rfl)
 have hv1 := h2.keep hk (fun g hg e => hg.ne (ht g e) (by decide) rfl) (fun g hg e => hg.ne (ht g e) (by decide) rfl)
 have hk3 := keep1 w' pw 2 hw'
 have hb := hb1.set_ 2 hw'
 simp only [List.setIfInBounds_toArray, List.set_cons_zero, List.set_cons_succ] at hb
 exact ⟨⟨a, c, hb, hv1.keep hk3 (fun g hg e => hg.ne hb1.tyd (by decide) e) (fun g hg e => hg.ne hb1.tyd (by decide) e)⟩, hr.keep hk3 (fun g hg e => hg.ne hb1.tyd (by decide) e), h4, (h5.trans (hk.below (own_base h3) h5.size)).setCell (p := ⟨pw, 2, none⟩) h4 _⟩
set_option maxRecDepth 20000 in
set_option maxHeartbeats 16000000 in
theorem rtake_none (h : RW W w pw hw s) {v : Value} {b : List Int} (hsl : BYL.Sl w v b) (hl : b.length ≤ 900000) (hok : ∀ z ∈ b, isByte z) (hd : decM b = none) :
  Calls Try.prog 9 #[.pointer (some ⟨pw, 0, none⟩), v] w fun e w' => e = .returned (.int .i64 12) ∧ ∃ hw', RW W w' pw hw' s ∧ Keeps (FV pw hw) w w' ∧ ∀ g, hw'.ownBlock = some g → hw.ownBlock = some g ∨ w.heap.size ≤ g := by
 have hdec := rdec_any hsl hl hok
 rw [hd] at hdec
 unfold decV at hdec
 simp only [Option.getD_none, Option.isSome_none, Bool.false_eq_true, if_false] at hdec
 unfold zeroMg Mg.cells at hdec
 dsimp only at hdec
 have HDEC := Lib.hid hdec
 have H0 := Lib.hid h
 clear hdec h hsl hl hok hd
 go_enter Try.func9, Try.ntmps9
 go_wp2_with fail
 refine HDEC.out.mono ?_
 rintro e w1 ⟨rfl, hb⟩
 have HB1 := Lib.hid hb
 clear hb
 go_wp2_with fail
 go_ret
 have hba := HB1.out.trans ((Below.allocN w1 (.cells #[.int .i64 0, .int .i64 0, .int .i64 0, .int .i64 0, .int .i64 0, .int .i64 0, .bool false] 34)).mono HB1.out.size)
 exact ⟨by trivial, hw, H0.out.below hba, Below.keeps hba, fun g hg => .inl hg⟩
set_option maxRecDepth 20000 in
set_option maxHeartbeats 16000000 in
theorem rtake_some (h : RW W w pw hw s) (hk : SOk n cc s) (hn : n ≤ 255) (hcc : cc ≤ 400000) {v : Value} {b : List Int} (hsl : BYL.Sl w v b) (hl : b.length ≤ 900000) (hok : ∀ z ∈ b, isByte z) {q ii sd p t c : Int} {im : Bool} (hd : decM b = some ⟨q, ii, sd, p, t, c, im⟩) {r : Int × LSt} (hr : takeR n s b = r) :
  Calls Try.prog 9 #[.pointer (some ⟨pw, 0, none⟩), v] w fun e w' => e = .returned (.int .i64 r.1) ∧ ∃ hw', RW W w' pw hw' r.2 ∧ Keeps (FV pw hw) w w' ∧ ∀ g, hw'.ownBlock = some g → hw.ownBlock = some g ∨ w.heap.size ≤ g := by
 have hdec := rdec_any hsl hl hok
 rw [hd] at hdec
 unfold decV at hdec
 simp only [Option.getD_some, Option.isSome_some, if_true] at hdec
 unfold Mg.cells at hdec
 dsimp only at hdec
 have HR : Hid (r = (if q < 1 ∨ fineP n ⟨q, ii, sd, p, t, c, im⟩ = false then (12, s) else if q ≤ s.seq ∨ hasQ q s.H = true then (33, s) else if q - 1 = s.seq then (0, onR s.H.length ⟨appV ⟨q, ii, sd, p, t, c, im⟩ s.V, q, s.H⟩) else if 4096 ≤ s.H.length then (13, s) else (32, ⟨s.V, s.seq, s.H ++ [⟨q, ii, sd, p, t, c, im⟩]⟩))) := Lib.hid (by
  rw [← hr]; unfold takeR; rw [hd])
 have hmo := (decM_ok hok hd).1
 have HMO := Lib.hid hmo
 have HDEC := Lib.hid hdec
 have H0 := Lib.hid h
 have HOK := Lib.hid hk
 have HLV := Lib.hid hk.len
 have HCC := Lib.hid hcc
 clear hdec h hk hsl hl hok hd hr hmo hcc
 go_enter Try.func9, Try.ntmps9
 go_wp2_with fail
 refine HDEC.out.mono ?_
 rintro e w1 ⟨rfl, hb⟩
 obtain ⟨gm, hgm⟩ : ∃ gm, w1.heap.size = gm := ⟨_, rfl⟩
 go_upto_region 2 with (fail)
 have hba := Below.allocN w1 (.cells #[.int .i64 q, .int .i64 ii, .int .i64 sd, .int .i64 p, .int .i64 t, .int .i64 c, .bool im] 34)
 have hgb : Blk (w1.alloc (.cells #[.int .i64 q, .int .i64 ii, .int .i64 sd, .int .i64 p, .int .i64 t, .int .i64 c, .bool im] 34)) w1.heap.size 34 #[.int .i64 q, .int .i64 ii, .int .i64 sd, .int .i64 p, .int .i64 t, .int .i64 c, .bool im] := Blk.new _ _ _
 rw [hgm] at hgb
 have HGB := Lib.hid hgb
 have HB2 := Lib.hid (hb.trans (hba.mono hb.size))
 have HGE : Hid (w.heap.size ≤ gm) := Lib.hid (by rw [← hgm]; exact hb.size)
 clear hb hba hgb hgm HDEC
 generalize w1.alloc (.cells #[.int .i64 q, .int .i64 ii, .int .i64 sd, .int .i64 p, .int .i64 t, .int .i64 c, .bool im] 34) = w2 at *
 have V2 := Lib.hid (H0.out.below HB2.out)
 obtain ⟨a2, c2, hbx, hvo⟩ := V2.out.box
 obtain ⟨ah, ch, hvf⟩ := V2.out.held.form
 subst hvf
 have BX := Lib.hid hbx
 have HVO := Lib.hid hvo
 obtain ⟨z, hz⟩ : ∃ z, fineC n ⟨q, ii, sd, p, t, c, im⟩ = z := ⟨_, rfl⟩
 have HZ := Lib.hid hz
 have HS : Hid (∀ wx, Below w2.heap.size w2 wx → (fun w' => w'.cell? ⟨pw, 0, none⟩ = some (.slice a2 s.V.length c2) ∧ w'.cell? ⟨gm, 0, none⟩ = some (.int .i64 q) ∧ w'.cell? ⟨gm, 1, none⟩ = some (.int .i64 ii) ∧ w'.cell? ⟨gm, 2, none⟩ = some (.int .i64 sd) ∧ w'.cell? ⟨gm, 3, none⟩ = some (.int .i64 p) ∧ w'.cell? ⟨gm, 4, none⟩ = some (.int .i64 t) ∧ w'.cell? ⟨gm, 5, none⟩ = some (.int .i64 c) ∧ w'.cell? ⟨gm, 6, none⟩ = some (.bool im)) wx) := Lib.hid fun wx hb => by
  have hx := BX.out.below hb
  have hg := HGB.out.below hb
  exact ⟨hx.cell 0, hg.cell 0, hg.cell 1, hg.cell 2, hg.cell 3, hg.cell 4, hg.cell 5, hg.cell 6⟩
 have HAP : Hid (∀ wx, Below w2.heap.size w2 wx → Calls Try.prog 28 #[.agg #[.slice a2 s.V.length c2], .agg #[.int .i64 q, .int .i64 ii, .int .i64 sd, .int .i64 p, .int .i64 t, .int .i64 c, .bool im]] wx fun e w' => (∃ (a3 : Option Addr) (n3 c3 : Nat), e = .returned (.tuple #[.agg #[.slice a3 n3 c3], .int .i64 z]) ∧ (z = 0 → VO RPR RLV w' W.heap.size (.slice a3 n3 c3) (appV ⟨q, ii, sd, p, t, c, im⟩ s.V))) ∧ Below wx.heap.size wx w') := Lib.hid (fun wx hwx => by
  by_cases h0 : z = 0
  ·have hf : Fine s.V.length ⟨q, ii, sd, p, t, c, im⟩ := by rw [HLV.out]; exact fine_iff.1 (fineC_iff.1 (by rw [HZ.out]; exact h0))
   obtain ⟨jj, hj1, hj2⟩ := HOK.out.sz
   have := rapply_any (m := ⟨q, ii, sd, p, t, c, im⟩) (HVO.out.below hwx) (Nat.le_trans V2.out.bel.size hwx.size) (by rw [HLV.out]; exact hn) hj1 (by have := HCC.out; omega) HOK.out.srt hf
   refine this.mono ?_
   rintro e w' ⟨v', rfl, hv, hb⟩
   obtain ⟨a3, c3, rfl⟩ := hv.form
   exact ⟨⟨a3, _, c3, by rw [h0], fun _ => hv⟩, hb⟩
  ·have := rapply_bad (w := wx) (a := a2) (cv := c2) (n := s.V.length) ⟨q, ii, sd, p, t, c, im⟩ (by rw [HLV.out, HZ.out]; exact h0)
   rw [HLV.out, HZ.out] at this
   rw [HLV.out]
   refine this.mono ?_
   rintro e w' ⟨rfl, hb⟩
   exact ⟨⟨_, _, _, rfl, fun h => absurd h h0⟩, hb⟩)
 clear hbx hvo hz
 go_wp2_with fail
 go_cut [6, 7] (fun u6 u7 wx => ∃ (gw : Nat) (a3 : Option Addr) (n3 c3 : Nat), u6 = .int .i64 z ∧ u7 = .pointer (some ⟨gw, 0, none⟩) ∧ Blk wx gw 44 #[.slice a3 n3 c3] ∧ (z = 0 → VO RPR RLV wx W.heap.size (.slice a3 n3 c3) (appV ⟨q, ii, sd, p, t, c, im⟩ s.V)) ∧ Below w2.heap.size w2 wx)
 case first =>
  refine wp_region_E (S := fun w' => w'.cell? ⟨pw, 0, none⟩ = some (.slice a2 s.V.length c2) ∧ w'.cell? ⟨gm, 0, none⟩ = some (.int .i64 q) ∧ w'.cell? ⟨gm, 1, none⟩ = some (.int .i64 ii) ∧ w'.cell? ⟨gm, 2, none⟩ = some (.int .i64 sd) ∧ w'.cell? ⟨gm, 3, none⟩ = some (.int .i64 p) ∧ w'.cell? ⟨gm, 4, none⟩ = some (.int .i64 t) ∧ w'.cell? ⟨gm, 5, none⟩ = some (.int .i64 c) ∧ w'.cell? ⟨gm, 6, none⟩ = some (.bool im)) (by kernel_rfl) (HS.out _ (Below.refl _ _).drew) (fun hHeld => ?_)
  have hb1 : Below w2.heap.size w2 w2.drew := Below.drewN_of w2 1
  refine wpE_tk 0 (oi := ?o2) (v := ?v2) ?h2 (by kernel_rfl) ?q2 ?y2 (by assumption) ?_
  case h2 => (simp only [List.getElem?_toArray]; rfl)
  case q2 => exact fun _ _ _ h => h
  case y2 => exact Or.inl ⟨by rfl, by (intro w hSw; (try dsimp only at hSw); go_simp; try with_reducible rfl)⟩
  try simp only [Act.put, sA, sB, sC]
  refine wpE_tk 1 (oi := ?o3) (v := ?v3) ?h3 (by kernel_rfl) ?q3 ?y3 (by assumption) ?_
  case h3 => (simp only [List.getElem?_toArray]; rfl)
  case q3 => exact fun _ _ _ h => h
  case y3 => exact Or.inl ⟨by rfl, by (intro w hSw; (try dsimp only at hSw); go_simp; try with_reducible rfl)⟩
  try simp only [Act.put, sA, sB, sC]
  refine wpE_tk 2 (oi := ?o4) (v := ?v4) ?h4 (by kernel_rfl) ?q4 ?y4 (by assumption) ?_
  case h4 => (simp only [List.getElem?_toArray]; rfl)
  case q4 => exact fun _ _ _ h => h
  case y4 => exact Or.inl ⟨by rfl, by (intro w hSw; (try dsimp only at hSw); go_simp; try with_reducible rfl)⟩
  try simp only [Act.put, sA, sB, sC]
  refine wpE_tk 3 (oi := ?o5) (v := ?v5) ?h5 (by kernel_rfl) ?q5 ?y5 (by assumption) ?_
  case h5 => (simp only [List.getElem?_toArray]; rfl)
  case q5 => exact fun _ _ _ h => h
  case y5 => exact Or.inl ⟨by rfl, by (intro w hSw; (try dsimp only at hSw); go_simp; try with_reducible rfl)⟩
  try simp only [Act.put, sA, sB, sC]
  refine wpE_tk 4 (oi := ?o6) (v := ?v6) ?h6 (by kernel_rfl) ?q6 ?y6 (by assumption) ?_
  case h6 => (simp only [List.getElem?_toArray]; rfl)
  case q6 => exact fun _ _ _ h => h
  case y6 => exact Or.inl ⟨by rfl, by (intro w hSw; (try dsimp only at hSw); go_simp; try with_reducible rfl)⟩
  try simp only [Act.put, sA, sB, sC]
  refine wpE_two (i := 5) (j := 9) (oi := ?oa1) (oj := ?ob1) ?ha1 ?hb1 (by kernel_rfl) (fun K hK => ?_) (fun K hK => ?_)
  case ha1 => (simp only [List.getElem?_toArray]; rfl)
  case hb1 => (simp only [List.getElem?_toArray]; rfl)
  ·go_simp
   refine (HAP.out _ hb1).mono ?_
   rintro e w3 ⟨⟨a3, n3, c3, rfl, hvo3⟩, hb3⟩
   have hb3' : Below w2.heap.size w2 w3 := hb1.trans hb3
   refine hK.out _ _ (HS.out _ hb3') (fun hHeld => ?_)
   clear hK K hb1
   have hba := Below.allocN w3 (.cells #[.slice none 0 0] 44)
   have hb4 := hb3'.trans (hba.mono hb3'.size)
   have G4 : Blk (w3.alloc (.cells #[.slice none 0 0] 44)) w3.heap.size 44 #[.slice none 0 0] := Blk.new _ _ _
   have hbc := Below.allocN w3 (.cells #[.slice a3 n3 c3] 44)
   have F3 : Hid (Blk (w3.alloc (.cells #[.slice a3 n3 c3] 44)) w3.heap.size 44 #[.slice a3 n3 c3]) := Lib.hid (Blk.new _ _ _)
   have F4 : Hid (z = 0 → VO RPR RLV (w3.alloc (.cells #[.slice a3 n3 c3] 44)) W.heap.size (.slice a3 n3 c3) (appV ⟨q, ii, sd, p, t, c, im⟩ s.V)) := Lib.hid fun h0 => (hvo3 h0).below hbc
   have F5 := Lib.hid (hb3'.trans (hbc.mono hb3'.size))
   have HS5 := HS.out _ F5.out
   have HS4 := HS.out _ hb4
   refine wpE_tk 6 (oi := ?o7) (v := ?v7) ?h7 (by kernel_rfl) ?q7 ?y7 (by assumption) ?_
   case h7 => (simp only [List.getElem?_toArray]; rfl)
   case q7 => exact fun _ _ _ h => h
   case y7 => exact Or.inl ⟨by rfl, by (intro w hSw; (try dsimp only at hSw); go_simp; try with_reducible rfl)⟩
   try simp only [Act.put, sA, sB, sC]
   refine wpE_tk 7 (oi := ?o8) (v := ?v8) ?h8 (by kernel_rfl) ?q8 ?y8 (by assumption) ?_
   case h8 => (simp only [List.getElem?_toArray]; rfl)
   case q8 => exact fun _ _ _ h => h
   case y8 => exact Or.inl ⟨by rfl, by (intro w hSw; (try dsimp only at hSw); go_simp; try with_reducible rfl)⟩
   try simp only [Act.put, sA, sB, sC]
   refine wpE_tk 8 (oi := ?o9) (v := ?v9) ?h9 (by kernel_rfl) ?q9 ?y9 (by assumption) ?_
   case h9 => (simp only [List.getElem?_toArray]; rfl)
   case q9 => exact fun _ _ _ h => h
   case y9 => exact Or.inl ⟨by rfl, by (intro w hSw; (try dsimp only at hSw); go_simp; try with_reducible rfl)⟩
   try simp only [Act.put, sA, sB, sC]
   refine wpE_one (i := 9) (o := ?o21) ?ho21 (by kernel_rfl) (fun K hK => ?_)
   case ho21 => (simp only [List.getElem?_toArray]; rfl)
   go_simp
   refine hK.out _ _ HS4 (fun hHeld => ?_)
   clear hK K
   have g0 : (w3.alloc (.cells #[.slice none 0 0] 44)).cell? ⟨w3.heap.size, 0, none⟩ = some (.slice none 0 0) := G4.cell 0
   have z0 : (w3.alloc (.cells #[.slice none 0 0] 44)).frozen? ⟨w3.heap.size, 0, none⟩ = false := G4.frozen 0
   clear hvo3 hb3 hb3' hba hb4 G4 hbc
   refine wpE_one (i := 10) (o := ?o22) ?ho22 (by kernel_rfl) (fun K hK => ?_)
   case ho22 => (simp only [List.getElem?_toArray]; rfl)
   go_simp
   refine hK.out _ _ HS5 (fun hHeld => ?_)
   clear hK K
   refine wpE_last (i := 11) (o := ?o27) ?ho27 (by kernel_rfl) (by kernel_rfl) (by kernel_rfl) (fun K hK => ?_)
   case ho27 => (simp only [List.getElem?_toArray]; rfl)
   go_simp
   refine hK.out _ _ ?_
   clear hK K hHeld g0 z0
   go_wp2_with fail
   go_meet
   exact ⟨_, a3, n3, c3, rfl, rfl, F3.out, F4.out, F5.out⟩
  ·go_simp
   have hba := Below.allocN w2.drew (.cells #[.slice none 0 0] 44)
   have hb4 : Below w2.heap.size w2 (w2.alloc (.cells #[.slice none 0 0] 44)).drew := hb1.trans (hba.mono hb1.size)
   refine hK.out _ _ (HS.out _ hb4) (fun hHeld => ?_)
   clear hK K hb1
   have G4 : Blk (w2.alloc (.cells #[.slice none 0 0] 44)).drew w2.heap.size 44 #[.slice none 0 0] := Blk.new _ _ _
   refine wpE_one (i := 5) (o := ?o23) ?ho23 (by kernel_rfl) (fun K hK => ?_)
   case ho23 => (simp only [List.getElem?_toArray]; rfl)
   go_simp
   refine (HAP.out _ hb4).mono ?_
   rintro e w3 ⟨⟨a3, n3, c3, rfl, hvo3⟩, hb3⟩
   have hb3' : Below w2.heap.size w2 w3 := hb4.trans (hb3.mono hb4.size)
   have G5 := G4.below hb3
   refine hK.out _ _ (HS.out _ hb3') (fun hHeld => ?_)
   clear hK K
   have F3 := Lib.hid (G5.set_ 0 (.slice a3 n3 c3))
   have F4 : Hid (z = 0 → VO RPR RLV (w3.setCell ⟨w2.heap.size, 0, none⟩ (.slice a3 n3 c3)) W.heap.size (.slice a3 n3 c3) (appV ⟨q, ii, sd, p, t, c, im⟩ s.V)) := Lib.hid fun h0 => (hvo3 h0).keep (keep1 _ w2.heap.size 0 (.slice a3 n3 c3)) (fun g hg e => hg.ne G5.tyd (by decide) e) (fun g hg e => hg.ne G5.tyd (by decide) e)
   have F5 := Lib.hid (hb3'.setCell (p := ⟨w2.heap.size, 0, none⟩) (Nat.le_refl _) (.slice a3 n3 c3))
   have HS5 := HS.out _ F5.out
   have g0 : w3.cell? ⟨w2.heap.size, 0, none⟩ = some (.slice none 0 0) := G5.cell 0
   have z0 : w3.frozen? ⟨w2.heap.size, 0, none⟩ = false := G5.frozen 0
   clear hvo3 hb3 hb3' hba hb4 G4 G5
   refine wpE_tk 6 (oi := ?o10) (v := ?v10) ?h10 (by kernel_rfl) ?q10 ?y10 (by assumption) ?_
   case h10 => (simp only [List.getElem?_toArray]; rfl)
   case q10 => exact fun _ _ _ h => h
   case y10 => exact Or.inl ⟨by rfl, by (intro w hSw; (try dsimp only at hSw); go_simp; try with_reducible rfl)⟩
   try simp only [Act.put, sA, sB, sC]
   refine wpE_tk 7 (oi := ?o11) (v := ?v11) ?h11 (by kernel_rfl) ?q11 ?y11 (by assumption) ?_
   case h11 => (simp only [List.getElem?_toArray]; rfl)
   case q11 => exact fun _ _ _ h => h
   case y11 => exact Or.inl ⟨by rfl, by (intro w hSw; (try dsimp only at hSw); go_simp; try with_reducible rfl)⟩
   try simp only [Act.put, sA, sB, sC]
   refine wpE_tk 8 (oi := ?o12) (v := ?v12) ?h12 (by kernel_rfl) ?q12 ?y12 (by assumption) ?_
   case h12 => (simp only [List.getElem?_toArray]; rfl)
   case q12 => exact fun _ _ _ h => h
   case y12 => exact Or.inl ⟨by rfl, by (intro w hSw; (try dsimp only at hSw); go_simp; try with_reducible rfl)⟩
   try simp only [Act.put, sA, sB, sC]
   refine wpE_one (i := 10) (o := ?o24) ?ho24 (by kernel_rfl) (fun K hK => ?_)
   case ho24 => (simp only [List.getElem?_toArray]; rfl)
   go_simp
   refine hK.out _ _ HS5 (fun hHeld => ?_)
   clear hK K
   refine wpE_last (i := 11) (o := ?o28) ?ho28 (by kernel_rfl) (by kernel_rfl) (by kernel_rfl) (fun K hK => ?_)
   case ho28 => (simp only [List.getElem?_toArray]; rfl)
   go_simp
   refine hK.out _ _ ?_
   clear hK K hHeld g0 z0
   go_wp2_with fail
   go_meet
   exact ⟨_, a3, n3, c3, rfl, rfl, F3.out, F4.out, F5.out⟩
 case rest =>
 obtain ⟨gw, a3, n3, c3, rfl, rfl, hgw, hvo3, hb5⟩ := hcut
 obtain ⟨w5, rfl⟩ : ∃ wo : World, wo = wc := ⟨_, rfl⟩
 have HGW := Lib.hid hgw
 have HVO3 := Lib.hid hvo3
 have HB5 := Lib.hid hb5
 have HB := Lib.hid (HB2.out.trans (hb5.mono HB2.out.size))
 have HGM := Lib.hid (HGB.out.below hb5)
 have V5 := Lib.hid (V2.out.below hb5)
 have BX5 := Lib.hid (BX.out.below hb5)
 have m0 : w5.cell? ⟨gm, 0, none⟩ = some (.int .i64 q) := HGM.out.cell 0
 clear hgw hvo3 hb5 HAP HS HVO BX V2 HGB HB2
 have HSAME : Hid (∀ wx, Below w5.heap.size w5 wx → (∃ hw', RW W wx pw hw' s ∧ Keeps (FV pw (.slice ah s.H.length ch)) w wx ∧ ∀ g, hw'.ownBlock = some g → (Value.slice ah s.H.length ch).ownBlock = some g ∨ w.heap.size ≤ g)) := Lib.hid fun wx hb =>
  ⟨_, V5.out.below hb, Below.keeps (HB.out.trans (hb.mono HB.out.size)), fun g hg => .inl hg⟩
 by_cases h0 : z = 0
 ·have hfp : fineP n ⟨q, ii, sd, p, t, c, im⟩ = true := fineC_iff.1 (by rw [HZ.out]; exact h0)
  have HFP := Lib.hid hfp
  have HV3 := Lib.hid (HVO3.out h0)
  subst h0
  by_cases hq1 : q < 1
  ·have HE : Hid (r = (12, s)) := Lib.hid (by rw [HR.out, if_pos (.inl hq1)])
   go_wp2_with fail
   go_ret
   rw [HE.out]
   exact ⟨by trivial, HSAME.out _ (Below.refl _ _)⟩
  ·have HR2 : Hid (r = (if q ≤ s.seq ∨ hasQ q s.H = true then (33, s) else if q - 1 = s.seq then (0, onR s.H.length ⟨appV ⟨q, ii, sd, p, t, c, im⟩ s.V, q, s.H⟩) else if 4096 ≤ s.H.length then (13, s) else (32, ⟨s.V, s.seq, s.H ++ [⟨q, ii, sd, p, t, c, im⟩]⟩))) := Lib.hid (by rw [HR.out, if_neg (by rintro (h | h); exact hq1 h; rw [HFP.out] at h; cases h)])
   clear hfp HR
   go_upto_region 7 with (fail)
   obtain ⟨bb, hbb⟩ : ∃ bb, (decide (q ≤ s.seq) || hasQ q s.H) = bb := ⟨_, rfl⟩
   have HBB := Lib.hid hbb
   clear hbb
   have k1 : w5.cell? ⟨pw, 1, none⟩ = some (.int .i64 s.seq) := BX5.out.cell 1
   go_cut [32] (fun u wx => u = .bool bb ∧ ∃ nq, wx = w5.drewN nq)
   case first =>
    by_cases hle : q ≤ s.seq
    ·have hb : bb = true := by rw [← HBB.out, decide_eq_true hle, Bool.true_or]
     subst hb
     go_quiet (fail)
     go_wp2_with fail
     go_meet
     exact ⟨by rfl, _, rfl⟩
    ·have hb : decide (0 ≤ heldI q 0 s.H) = bb := by rw [heldI_has, ← HBB.out, decide_eq_false hle, Bool.false_or]
     have HHD := Lib.hid fun n => (held_any (V5.out.below (Below.drewN_of w5 n)) (by have := HOK.out.hl; have := HCC.out; omega) q).mono fun e w' (h : e = .returned (.int .i64 (heldI q 0 s.H)) ∧ w5.drewN n = w') => (⟨h.1, h.2.symm⟩ : e = .returned (.int .i64 (heldI q 0 s.H)) ∧ w' = w5.drewN n)
     generalize heldI q 0 s.H = hz at *
     go_quiet ((go_at_call 29; exact Calls.quiet_of_same (HHD.out _)))
     go_wp2_with fail
     go_meet
     exact ⟨by rfl, _, rfl⟩
   case rest =>
   obtain ⟨rfl, nq, rfl⟩ := hcut
   clear k1 m0
   have hd6 : Below w5.heap.size w5 (w5.drewN nq) := Below.drewN_of w5 nq
   have HD6 := Lib.hid hd6
   have HGM6 := Lib.hid (HGM.out.below hd6)
   have HGW6 := Lib.hid (HGW.out.below hd6)
   have V6 := Lib.hid (V5.out.below hd6)
   have BX6 := Lib.hid (BX5.out.below hd6)
   have HV6 := Lib.hid (HV3.out.below hd6)
   have HB6 := Lib.hid (HB.out.trans (hd6.mono HB.out.size))
   have HSAME6 : Hid (∀ wx, Below (w5.drewN nq).heap.size (w5.drewN nq) wx → (∃ hw', RW W wx pw hw' s ∧ Keeps (FV pw (.slice ah s.H.length ch)) w wx ∧ ∀ g, hw'.ownBlock = some g → (Value.slice ah s.H.length ch).ownBlock = some g ∨ w.heap.size ≤ g)) := Lib.hid fun wx hb => HSAME.out wx (HD6.out.trans (hb.mono HD6.out.size))
   clear hd6 HGM HGW V5 BX5 HV3 HB HSAME HD6
   generalize w5.drewN nq = w6 at *
   cases bb with
   | true =>
    have HE : Hid (r = (33, s)) := Lib.hid (by rw [HR2.out, if_pos (by have := HBB.out; rw [Bool.or_eq_true] at this; rcases this with h | h; exact .inl (of_decide_eq_true h); exact .inr h)])
    go_wp2_with fail
    go_ret
    rw [HE.out]
    exact ⟨by trivial, HSAME6.out _ (Below.refl _ _)⟩
   | false =>
    have HR3 : Hid (r = (if q - 1 = s.seq then (0, onR s.H.length ⟨appV ⟨q, ii, sd, p, t, c, im⟩ s.V, q, s.H⟩) else if 4096 ≤ s.H.length then (13, s) else (32, ⟨s.V, s.seq, s.H ++ [⟨q, ii, sd, p, t, c, im⟩]⟩))) := Lib.hid (by rw [HR2.out, if_neg (by have := HBB.out; rw [Bool.or_eq_false_iff] at this; rintro (h | h); exact absurd h (of_decide_eq_false this.1); rw [this.2] at h; cases h)])
    have m0 : w6.cell? ⟨gm, 0, none⟩ = some (.int .i64 q) := HGM6.out.cell 0
    have k1 : w6.cell? ⟨pw, 1, none⟩ = some (.int .i64 s.seq) := BX6.out.cell 1
    have hqr := HMO.out.seq.2
    have y1 : IntKind.i64.wrap (q - 1) = q - 1 := IntWalk.i64_in _ (by dsimp only at hqr; omega)
    clear HR2
    by_cases hqs : q - 1 = s.seq
    ·have hqb : (q - 1 == s.seq) = true := by rw [beq_iff_eq]; exact hqs
     have HE : Hid (r = (0, onR s.H.length ⟨appV ⟨q, ii, sd, p, t, c, im⟩ s.V, q, s.H⟩)) := Lib.hid (by rw [HR3.out, if_pos hqs])
     clear hqs
     obtain ⟨a', c', he⟩ := HV6.out.form
     injection he with e1 e2 e3
     subst e1; subst e3; subst e2
     have e1 : (gm = pw) = False := eq_false (fun e => HGM6.out.tyd.ne BX6.out.tyd (by decide) e)
     have e2 : (gw = pw) = False := eq_false (fun e => HGW6.out.tyd.ne BX6.out.tyd (by decide) e)
     have e3 : (pw = gm) = False := eq_false (fun e => HGM6.out.tyd.ne BX6.out.tyd (by decide) e.symm)
     have e4 : (pw = gw) = False := eq_false (fun e => HGW6.out.tyd.ne BX6.out.tyd (by decide) e.symm)
     go_wp2_with fail
     go_quiet (fail)
     have hd7 : Below w6.heap.size w6 (w6.drewN nq) := Below.drewN_of w6 nq
     have HB7 := Lib.hid (HB6.out.trans (hd7.mono HB6.out.size))
     have V7 := Lib.hid (V6.out.below hd7)
     have HV7 := Lib.hid (HV6.out.below hd7)
     have BX7 := Lib.hid (BX6.out.below hd7)
     have m0 : (w6.drewN nq).cell? ⟨gm, 0, none⟩ = some (.int .i64 q) := (HGM6.out.below hd7).cell 0
     have g0 : (w6.drewN nq).cell? ⟨gw, 0, none⟩ = some (.slice a3 (appV ⟨q, ii, sd, p, t, c, im⟩ s.V).length c3) := (HGW6.out.below hd7).cell 0
     have k0 : (w6.drewN nq).cell? ⟨pw, 0, none⟩ = some (.slice a2 s.V.length c2) := BX7.out.cell 0
     have k1 : (w6.drewN nq).cell? ⟨pw, 1, none⟩ = some (.int .i64 s.seq) := BX7.out.cell 1
     have zf : ∀ o, (w6.drewN nq).frozen? ⟨pw, o, none⟩ = false := fun o => BX7.out.frozen o
     clear hd7 HGM6 HGW6 V6 HV6 BX6 HB6 HSAME6
     generalize w6.drewN nq = w7 at *
     have R8 := Lib.hid ((V7.out.view_ HV7.out).seq_ q)
     have K8 : Hid (Keeps (FV pw (.slice ah s.H.length ch)) w ((w7.setCell ⟨pw, 0, none⟩ (.slice a3 (appV ⟨q, ii, sd, p, t, c, im⟩ s.V).length c3)).setCell ⟨pw, 1, none⟩ (.int .i64 q))) := Lib.hid ((((Below.keeps (F := FV pw (.slice ah s.H.length ch)) HB7.out).setCell (p := ⟨pw, 0, none⟩) (fun _ => .inl rfl) _)).setCell (p := ⟨pw, 1, none⟩) (fun _ => .inl rfl) _)
     go_upto_region 12 with (fail)
     clear m0 g0 k0 k1 zf e1 e2 e3 e4 V7 HV7 BX7
     generalize (w7.setCell ⟨pw, 0, none⟩ (.slice a3 (appV ⟨q, ii, sd, p, t, c, im⟩ s.V).length c3)).setCell ⟨pw, 1, none⟩ (.int .i64 q) = w8 at *
     have hf : Fine s.V.length ⟨q, ii, sd, p, t, c, im⟩ := by rw [HLV.out]; exact fine_iff.1 HFP.out
     have hlv : (appV ⟨q, ii, sd, p, t, c, im⟩ s.V).length = n := by rw [appV_len]; exact HLV.out
     have hmk : ∀ m ∈ s.H, MOk (appV ⟨q, ii, sd, p, t, c, im⟩ s.V).length m := fun m hm => by rw [hlv]; exact HOK.out.hh m hm
     have hsz : ∃ j, LenV (appV ⟨q, ii, sd, p, t, c, im⟩ s.V) j ∧ j + s.H.length ≤ 500000 := by
      obtain ⟨j, h1, h2⟩ := HOK.out.sz
      exact ⟨j + 1, appV_lenV h1, by have := HCC.out; omega⟩
     have hsr := appV_srt (m := ⟨q, ii, sd, p, t, c, im⟩) hf.sd HOK.out.srt
     have HON := Lib.hid (ron_any R8.out (by exact Nat.le_trans (Nat.le_of_eq hlv) hn) hsz hsr hmk (by show 0 ≤ q; omega) (by exact HMO.out.seq.2))
     clear hf hlv hmk hsz hsr
     go_wp2_with fail
     refine HON.out.mono ?_
     rintro e w9 ⟨rfl, hw', hv9, hk9, ho9⟩
     have V9 := Lib.hid hv9
     have K9 : Hid (Keeps (FV pw (.slice ah s.H.length ch)) w w9) := Lib.hid (K8.out.step hk9 (fun i _ he => .inl he))
     have O9 : Hid (∀ g, hw'.ownBlock = some g → (Value.slice ah s.H.length ch).ownBlock = some g ∨ w.heap.size ≤ g) := Lib.hid fun g hg => by
      rcases ho9 g hg with h | h
      ·exact .inl h
      ·exact .inr (Nat.le_trans K8.out.size h)
     clear hv9 hk9 ho9 HON
     go_wp2_with fail
     go_ret
     rw [HE.out]
     exact ⟨by trivial, hw', V9.out, K9.out, O9.out⟩
    ·have hqb : (q - 1 == s.seq) = false := by rw [beq_eq_false_iff_ne]; exact hqs
     by_cases hfull : 4096 ≤ s.H.length
     ·have HE : Hid (r = (13, s)) := Lib.hid (by rw [HR3.out, if_neg hqs, if_pos hfull])
      have hf1 : (4096 : Int) ≤ (s.H.length : Int) := by omega
      have k2 : ∀ n, (w6.drewN n).cell? ⟨pw, 2, none⟩ = some (.slice ah s.H.length ch) := fun n => (BX6.out.below (Below.drewN_of w6 n)).cell 2
      go_wp2_with fail
      go_quiet (fail)
      have hd7 : Below w6.heap.size w6 (w6.drewN nq) := Below.drewN_of w6 nq
      have hsm := HSAME6.out _ hd7
      go_wp2_with fail
      go_ret
      rw [HE.out]
      exact ⟨by trivial, hsm⟩
     ·have HE : Hid (r = (32, ⟨s.V, s.seq, s.H ++ [⟨q, ii, sd, p, t, c, im⟩]⟩)) := Lib.hid (by rw [HR3.out, if_neg hqs, if_neg hfull])
      have hf1 : ¬ (4096 : Int) ≤ (s.H.length : Int) := by omega
      have k2 : ∀ n, (w6.drewN n).cell? ⟨pw, 2, none⟩ = some (.slice ah s.H.length ch) := fun n => (BX6.out.below (Below.drewN_of w6 n)).cell 2
      go_wp2_with fail
      go_quiet (fail)
      have hd7 : Below w6.heap.size w6 (w6.drewN nq) := Below.drewN_of w6 nq
      have HB7 := Lib.hid (HB6.out.trans (hd7.mono HB6.out.size))
      have V7 := Lib.hid (V6.out.below hd7)
      have BX7 := Lib.hid (BX6.out.below hd7)
      have HGM7 := Lib.hid (HGM6.out.below hd7)
      have k2' := k2 nq
      clear hd7 HGM6 V6 BX6 HB6 HSAME6 k2 m0 k1
      generalize w6.drewN nq = w7 at *
      go_upto_region 16 with (fail)
      have HS : Hid (∀ wx, Below w7.heap.size w7 wx → (fun w' => w'.cell? ⟨pw, 2, none⟩ = some (.slice ah s.H.length ch) ∧ w'.cell? ⟨gm, 0, none⟩ = some (.int .i64 q) ∧ w'.cell? ⟨gm, 1, none⟩ = some (.int .i64 ii) ∧ w'.cell? ⟨gm, 2, none⟩ = some (.int .i64 sd) ∧ w'.cell? ⟨gm, 3, none⟩ = some (.int .i64 p) ∧ w'.cell? ⟨gm, 4, none⟩ = some (.int .i64 t) ∧ w'.cell? ⟨gm, 5, none⟩ = some (.int .i64 c) ∧ w'.cell? ⟨gm, 6, none⟩ = some (.bool im)) wx) := Lib.hid fun wx hb => by
       have hx := BX7.out.below hb
       have hg := HGM7.out.below hb
       exact ⟨hx.cell 2, hg.cell 0, hg.cell 1, hg.cell 2, hg.cell 3, hg.cell 4, hg.cell 5, hg.cell 6⟩
      refine wp_region_E (S := fun w' => w'.cell? ⟨pw, 2, none⟩ = some (.slice ah s.H.length ch) ∧ w'.cell? ⟨gm, 0, none⟩ = some (.int .i64 q) ∧ w'.cell? ⟨gm, 1, none⟩ = some (.int .i64 ii) ∧ w'.cell? ⟨gm, 2, none⟩ = some (.int .i64 sd) ∧ w'.cell? ⟨gm, 3, none⟩ = some (.int .i64 p) ∧ w'.cell? ⟨gm, 4, none⟩ = some (.int .i64 t) ∧ w'.cell? ⟨gm, 5, none⟩ = some (.int .i64 c) ∧ w'.cell? ⟨gm, 6, none⟩ = some (.bool im)) (by kernel_rfl) (HS.out _ (Below.refl _ _).drew) (fun hHeld => ?_)
      refine wpE_tk 0 (oi := ?o13) (v := ?v13) ?h13 (by kernel_rfl) ?q13 ?y13 (by assumption) ?_
      case h13 => (simp only [List.getElem?_toArray]; rfl)
      case q13 => exact fun _ _ _ h => h
      case y13 => exact Or.inl ⟨by rfl, by (intro w hSw; (try dsimp only at hSw); go_simp; try with_reducible rfl)⟩
      try simp only [Act.put, sA, sB, sC]
      refine wpE_tk 1 (oi := ?o14) (v := ?v14) ?h14 (by kernel_rfl) ?q14 ?y14 (by assumption) ?_
      case h14 => (simp only [List.getElem?_toArray]; rfl)
      case q14 => exact fun _ _ _ h => h
      case y14 => exact Or.inl ⟨by rfl, by (intro w hSw; (try dsimp only at hSw); go_simp; try with_reducible rfl)⟩
      try simp only [Act.put, sA, sB, sC]
      refine wpE_tk 2 (oi := ?o15) (v := ?v15) ?h15 (by kernel_rfl) ?q15 ?y15 (by assumption) ?_
      case h15 => (simp only [List.getElem?_toArray]; rfl)
      case q15 => exact fun _ _ _ h => h
      case y15 => exact Or.inl ⟨by rfl, by (intro w hSw; (try dsimp only at hSw); go_simp; try with_reducible rfl)⟩
      try simp only [Act.put, sA, sB, sC]
      refine wpE_tk 3 (oi := ?o16) (v := ?v16) ?h16 (by kernel_rfl) ?q16 ?y16 (by assumption) ?_
      case h16 => (simp only [List.getElem?_toArray]; rfl)
      case q16 => exact fun _ _ _ h => h
      case y16 => exact Or.inl ⟨by rfl, by (intro w hSw; (try dsimp only at hSw); go_simp; try with_reducible rfl)⟩
      try simp only [Act.put, sA, sB, sC]
      refine wpE_tk 4 (oi := ?o17) (v := ?v17) ?h17 (by kernel_rfl) ?q17 ?y17 (by assumption) ?_
      case h17 => (simp only [List.getElem?_toArray]; rfl)
      case q17 => exact fun _ _ _ h => h
      case y17 => exact Or.inl ⟨by rfl, by (intro w hSw; (try dsimp only at hSw); go_simp; try with_reducible rfl)⟩
      try simp only [Act.put, sA, sB, sC]
      refine wpE_tk 5 (oi := ?o18) (v := ?v18) ?h18 (by kernel_rfl) ?q18 ?y18 (by assumption) ?_
      case h18 => (simp only [List.getElem?_toArray]; rfl)
      case q18 => exact fun _ _ _ h => h
      case y18 => exact Or.inl ⟨by rfl, by (intro w hSw; (try dsimp only at hSw); go_simp; try with_reducible rfl)⟩
      try simp only [Act.put, sA, sB, sC]
      refine wpE_one (i := 6) (o := ?o25) ?ho25 (by kernel_rfl) (fun K hK => ?_)
      case ho25 => (simp only [List.getElem?_toArray]; rfl)
      go_simp
      have hba := Below.allocN w7 (.cells #[.int .i64 q, .int .i64 ii, .int .i64 sd, .int .i64 p, .int .i64 t, .int .i64 c, .bool im] 34)
      have hb8 : Below w7.heap.size w7 (w7.alloc (.cells #[.int .i64 q, .int .i64 ii, .int .i64 sd, .int .i64 p, .int .i64 t, .int .i64 c, .bool im] 34)).drew := hba.drew
      have HN8 : Hid (Blk (w7.alloc (.cells #[.int .i64 q, .int .i64 ii, .int .i64 sd, .int .i64 p, .int .i64 t, .int .i64 c, .bool im] 34)).drew w7.heap.size 34 (⟨q, ii, sd, p, t, c, im⟩ : Mg).cells.toArray) := Lib.hid (Blk.new w7 _ _)
      refine hK.out _ _ (HS.out _ hb8) (fun hHeld => ?_)
      clear hK K hba
      obtain ⟨gx, hgx⟩ : ∃ gx, w7.heap.size = gx := ⟨_, rfl⟩
      have V8 := Lib.hid (V7.out.below hb8)
      have HB8 := Lib.hid hb8
      have HGX := Lib.hid hgx
      rw [hgx] at HN8
      try rw [hgx]
      clear hgx hb8
      generalize (w7.alloc (.cells #[.int .i64 q, .int .i64 ii, .int .i64 sd, .int .i64 p, .int .i64 t, .int .i64 c, .bool im] 34)).drew = w8 at *
      refine wpE_one (i := 7) (o := ?o26) ?ho26 (by kernel_rfl) (fun K hK => ?_)
      case ho26 => (simp only [List.getElem?_toArray]; rfl)
      refine MSG.step (by rfl) (.tmp 78) (.tmp 80) (by rfl) W.heap.size (.slice ah s.H.length ch) s.H (by rfl) V8.out.held gx ⟨q, ii, sd, p, t, c, im⟩ (by rfl) HN8.out.lt HN8.out.cellsAt (by omega) V8.out.bel.size ?_
      intro v' w9 hr9 hg9 ho9
      obtain ⟨a9, c9, hv9⟩ := hr9.form
      rw [List.length_append, List.length_singleton] at hv9
      subst hv9
      have hk9 := grown_keeps hg9
      have hgmk := (HGM7.out.below HB8.out).keeps hk9 (fun e => by have h1 := own_lt H0.out.held gm e; have h2 := HGE.out; omega)
      have hpwk := (BX7.out.below HB8.out).keeps hk9 (fun e => (own_tyd V8.out.held pw e).ne (BX7.out.below HB8.out).tyd (by decide) rfl)
      have R10 := Lib.hid (V8.out.ins_ hk9 hr9)
      have K10 : Hid (Keeps (FV pw (.slice ah s.H.length ch)) w (w9.setCell ⟨pw, 2, none⟩ (.slice a9 (s.H.length + 1) c9))) := Lib.hid (((Below.keeps (F := FV pw (.slice ah s.H.length ch)) (HB7.out.trans (HB8.out.mono HB7.out.size))).step hk9 (fun i _ he => .inr he)).setCell (p := ⟨pw, 2, none⟩) (fun _ => .inl rfl) _)
      have O10 : Hid (∀ g, (Value.slice a9 (s.H.length + 1) c9).ownBlock = some g → (Value.slice ah s.H.length ch).ownBlock = some g ∨ w.heap.size ≤ g) := Lib.hid fun g hg => by
       rcases ho9 with h | h
       ·exact .inl (by rw [← h]; exact hg)
       ·rw [hg] at h
        injection h with h
        refine .inr ?_
        rw [h]
        exact Nat.le_trans HB7.out.size HB8.out.size
      have k9 : w9.cell? ⟨pw, 2, none⟩ = some (.slice ah s.H.length ch) := hpwk.cell 2
      have z9 : w9.frozen? ⟨pw, 2, none⟩ = false := hpwk.frozen 2
      refine hK.out _ _ ⟨k9, hgmk.cell 0, hgmk.cell 1, hgmk.cell 2, hgmk.cell 3, hgmk.cell 4, hgmk.cell 5, hgmk.cell 6⟩ (fun hHeld => ?_)
      clear hK K hr9 hg9 ho9 hk9 hgmk hpwk
      refine wpE_tk 8 (oi := ?o19) (v := ?v19) ?h19 (by kernel_rfl) ?q19 ?y19 (by assumption) ?_
      case h19 => (simp only [List.getElem?_toArray]; rfl)
      case q19 => exact fun _ _ _ h => h
      case y19 => exact Or.inl ⟨by rfl, by (intro w hSw; (try dsimp only at hSw); go_simp; try with_reducible rfl)⟩
      try simp only [Act.put, sA, sB, sC]
      refine wpE_tk 9 (oi := ?o20) (v := ?v20) ?h20 (by kernel_rfl) ?q20 ?y20 (by assumption) ?_
      case h20 => (simp only [List.getElem?_toArray]; rfl)
      case q20 => exact fun _ _ _ h => h
      case y20 => exact Or.inl ⟨by rfl, by (intro w hSw; (try dsimp only at hSw); go_simp; try with_reducible rfl)⟩
      try simp only [Act.put, sA, sB, sC]
      refine wpE_last (i := 10) (o := ?o29) ?ho29 (by kernel_rfl) (by kernel_rfl) (by kernel_rfl) (fun K hK => ?_)
      case ho29 => (simp only [List.getElem?_toArray]; rfl)
      go_simp
      refine hK.out _ _ ?_
      clear hK K hHeld k9 z9 k2'
      go_wp2_with fail
      go_ret
      rw [HE.out]
      exact ⟨by trivial, _, R10.out, K10.out, O10.out⟩
 ·have hzb : (z != 0) = true := by rw [bne_iff_ne]; exact h0
  have hfp : fineP n ⟨q, ii, sd, p, t, c, im⟩ = false := by
   cases hf : fineP n ⟨q, ii, sd, p, t, c, im⟩ with
   | true => exact absurd (by rw [← HZ.out]; exact fineC_iff.2 hf) h0
   | false => rfl
  have HE : Hid (r = (12, s)) := Lib.hid (by rw [HR.out, if_pos (.inr hfp)])
  clear hfp
  clear h0
  go_wp2_with fail
  go_ret
  rw [HE.out]
  exact ⟨by trivial, HSAME.out _ (Below.refl _ _)⟩
theorem dtake_any (h : RW W w pw hw s) (hk : SOk n cc s) (hn : n ≤ 255) (hcc : cc ≤ 400000) {v : Value} {b : List Int} (hsl : BYL.Sl w v b) (hl : b.length ≤ 900000) (hok : ∀ z ∈ b, isByte z) :
  Calls Try.prog 9 #[.pointer (some ⟨pw, 0, none⟩), v] w fun e w' => e = .returned (.int .i64 (takeR n s b).1) ∧ ∃ hw', RW W w' pw hw' (takeR n s b).2 ∧ Keeps (FV pw hw) w w' ∧ ∀ g, hw'.ownBlock = some g → hw.ownBlock = some g ∨ w.heap.size ≤ g := by
 cases hd : decM b with
 | none =>
  have e : takeR n s b = (12, s) := by unfold takeR; rw [hd]
  rw [e]
  exact rtake_none h hsl hl hok hd
 | some m =>
  obtain ⟨q, ii, sd, p, t, c, im⟩ := m
  exact rtake_some h hk hn hcc hsl hl hok hd rfl
end
end Go.Proofs.Ytmaijkoopjocdaa
