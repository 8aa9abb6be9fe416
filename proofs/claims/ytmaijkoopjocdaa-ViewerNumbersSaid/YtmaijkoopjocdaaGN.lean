/- Merged: Snp4 Snp5 Snp6 Snap. -/
import Derived.Test.YtmaijkoopjocdaaGM
import Derived.Laws.BytesArg
import Derived.Lib.Bytes
import Derived.Test.YtmaijkoopjocdaaGH
/- The walk of snap.Right. -/
namespace Go.Proofs.Ytmaijkoopjocdaa
open Go.RowKit Go.Lib

def rightP (p : Sd × Sd) : Bool := rightS 1 p.1 && rightS 2 p.2
theorem rightV_eq (V : Vw) : rightV V = (V.all rightP && decide (V.length ≤ 255)) := rfl
theorem all_step {V : Vw} {k : Nat} {x : Sd × Sd} (hx : V[k]? = some x) : (V.drop k).all rightP = (rightP x && (V.drop (k + 1)).all rightP) := by
 obtain ⟨h1, h2⟩ := get_of hx
 rw [List.drop_eq_getElem_cons h1, h2, List.all_cons]
section
variable {w w' : World}
set_option maxRecDepth 20000 in
set_option maxHeartbeats 16000000 in
theorem vright_any {B : Nat} {a : Option Addr} {c : Nat} {V : Vw} (h : VO PRL LVL w B (.slice a V.length c) V) (hl : V.length ≤ 800000) (hK : LenV V 800000) :
  Calls Try.prog 67 #[.agg #[.slice a V.length c]] w fun e w' => e = .returned (.bool (rightV V)) ∧ Below w.heap.size w w' := by
 rw [rightV_eq]
 have hba := Below.allocN w (.cells #[.slice a V.length c] 50)
 have HG : Hid (Blk (w.alloc (.cells #[.slice a V.length c] 50)) w.heap.size 50 #[.slice a V.length c]) := Lib.hid (Blk.new _ _ _)
 have HB := Lib.hid hba
 have HR := Lib.hid (h.below hba)
 have HK := Lib.hid hK
 clear hba h hK
 go_enter Try.func67, Try.ntmps67
 go_upto_region 1 with (fail)
 obtain ⟨g, hg⟩ : ∃ g, w.heap.size = g := ⟨_, rfl⟩
 rw [hg] at HG ⊢
 clear hg
 generalize w.alloc (.cells #[.slice a V.length c] 50) = w1 at *
 have c0 : w1.cell? ⟨g, 0, none⟩ = some (.slice a V.length c) := HG.out.cell 0
 go_wp2_with fail
 go_loopw [8] (fun i w' => ∃ k : Nat, i = .int .i64 k ∧ k ≤ V.length ∧ V.all rightP = (V.drop k).all rightP ∧ Below w1.heap.size w1 w') (fun i _ => V.length - (RowKit.intOf i).toNat)
 case atStart => exact ⟨0, rfl, Nat.zero_le _, rfl, Below.refl _ _⟩
 case round =>
  clear c0
  obtain ⟨k, rfl, hk, hrf, hb⟩ := hrel
  obtain ⟨wz, rfl⟩ : ∃ wo : World, wo = wr := ⟨_, rfl⟩
  have HRF := Lib.hid hrf
  have HBZ := Lib.hid hb
  have HGZ := Lib.hid (HG.out.below hb)
  have HRZ := Lib.hid (HR.out.below hb)
  clear hrf hb
  by_cases hlt : k < V.length
  ·have hlt' : (k : Int) < (V.length : Int) := by omega
   obtain ⟨x, hx⟩ : ∃ x, V[k]? = some x := ⟨_, List.getElem?_eq_getElem hlt⟩
   have HST := Lib.hid (all_step hx)
   obtain ⟨gb, cap, p, he, _, hcx, hs1, hs2⟩ := HRZ.out.get hx
   injection he with he1 _ he3
   subst he1
   subst he3
   obtain ⟨d1, d2⟩ := x
   have hk1 := HK.out (d1, d2) (List.mem_of_getElem? hx)
   obtain ⟨⟨a1, n1, e1, ⟨p1, q1, r1⟩, f1⟩, ⟨a2, n2, e2, ⟨p2, q2, r2⟩, f2⟩⟩ := p
   have x0 : wz.cell? ⟨gb, k * 10, none⟩ = some (.slice a1 n1 e1) := hcx 0 _ rfl
   have x1 : wz.cell? ⟨gb, k * 10 + 1, none⟩ = some (.int .i64 p1) := hcx 1 _ rfl
   have x2 : wz.cell? ⟨gb, k * 10 + 2, none⟩ = some (.int .i64 q1) := hcx 2 _ rfl
   have x3 : wz.cell? ⟨gb, k * 10 + 3, none⟩ = some (.int .i64 r1) := hcx 3 _ rfl
   have x4 : wz.cell? ⟨gb, k * 10 + 4, none⟩ = some (.bool f1) := hcx 4 _ rfl
   have x5 : wz.cell? ⟨gb, k * 10 + 5, none⟩ = some (.slice a2 n2 e2) := hcx 5 _ rfl
   have x6 : wz.cell? ⟨gb, k * 10 + 6, none⟩ = some (.int .i64 p2) := hcx 6 _ rfl
   have x7 : wz.cell? ⟨gb, k * 10 + 7, none⟩ = some (.int .i64 q2) := hcx 7 _ rfl
   have x8 : wz.cell? ⟨gb, k * 10 + 8, none⟩ = some (.int .i64 r2) := hcx 8 _ rfl
   have x9 : wz.cell? ⟨gb, k * 10 + 9, none⟩ = some (.bool f2) := hcx 9 _ rfl
   have HS1 := Lib.hid hs1
   have HS2 := Lib.hid hs2
   have HL1 := Lib.hid hk1
   clear hcx hx hs1 hs2 hk1
   obtain ⟨gx, hgx⟩ : ∃ gx, wz.heap.size = gx := ⟨_, rfl⟩
   go_upto_region 4 with (fail)
   have hb5 := Below.allocN wz (.cells #[.slice a1 n1 e1, .int .i64 p1, .int .i64 q1, .int .i64 r1, .bool f1, .slice a2 n2 e2, .int .i64 p2, .int .i64 q2, .int .i64 r2, .bool f2] 95)
   have hgx5 : Blk (wz.alloc (.cells #[.slice a1 n1 e1, .int .i64 p1, .int .i64 q1, .int .i64 r1, .bool f1, .slice a2 n2 e2, .int .i64 p2, .int .i64 q2, .int .i64 r2, .bool f2] 95)) wz.heap.size 95 #[.slice a1 n1 e1, .int .i64 p1, .int .i64 q1, .int .i64 r1, .bool f1, .slice a2 n2 e2, .int .i64 p2, .int .i64 q2, .int .i64 r2, .bool f2] := Blk.new _ _ _
   rw [hgx] at hgx5
   have HB5 := Lib.hid (HB.out.trans ((HBZ.out.trans (hb5.mono HBZ.out.size)).mono HB.out.size))
   have HBZ5 := Lib.hid (HBZ.out.trans (hb5.mono HBZ.out.size))
   have HS15 := Lib.hid (HS1.out.below hb5)
   have HS25 := Lib.hid (HS2.out.below hb5)
   have HGX := Lib.hid hgx5
   clear hb5 hgx5 hgx x0 x1 x2 x3 x4 x5 x6 x7 x8 x9 HGZ HRZ HBZ HS1 HS2
   generalize wz.alloc (.cells #[.slice a1 n1 e1, .int .i64 p1, .int .i64 q1, .int .i64 r1, .bool f1, .slice a2 n2 e2, .int .i64 p2, .int .i64 q2, .int .i64 r2, .bool f2] 95) = w5 at *
   have x0 : w5.cell? ⟨gx, 0, none⟩ = some (.slice a1 n1 e1) := HGX.out.cell 0
   have x1 : w5.cell? ⟨gx, 1, none⟩ = some (.int .i64 p1) := HGX.out.cell 1
   have x2 : w5.cell? ⟨gx, 2, none⟩ = some (.int .i64 q1) := HGX.out.cell 2
   have x3 : w5.cell? ⟨gx, 3, none⟩ = some (.int .i64 r1) := HGX.out.cell 3
   have x4 : w5.cell? ⟨gx, 4, none⟩ = some (.bool f1) := HGX.out.cell 4
   have HC1 := Lib.hid (sright_any HS15.out 1 HL1.out.1)
   obtain ⟨b1, hb1⟩ : ∃ b, rightS 1 d1 = b := ⟨_, rfl⟩
   obtain ⟨b2, hb2⟩ : ∃ b, rightS 2 d2 = b := ⟨_, rfl⟩
   have HBB : Hid (rightP (d1, d2) = (b1 && b2)) := Lib.hid (by unfold rightP; rw [← hb1, ← hb2])
   have HB2 := Lib.hid hb2
   rw [hb1] at HC1
   clear hb1 hb2
   go_wp2_with fail
   refine HC1.out.mono ?_
   rintro e w6 ⟨rfl, hb6⟩
   have HS26 := Lib.hid (HS25.out.below hb6)
   have HGX6 := Lib.hid (HGX.out.below hb6)
   have HB6 := Lib.hid (HB5.out.trans (hb6.mono HB5.out.size))
   have HBZ6 := Lib.hid (HBZ5.out.trans (hb6.mono HBZ5.out.size))
   clear hb6 HC1 x0 x1 x2 x3 x4 HS15 HS25 HGX HBZ5 HB5
   cases b1 with
   | false =>
    have HF : Hid (V.all rightP = false) := Lib.hid (by rw [HRF.out, HST.out, HBB.out, Bool.false_and, Bool.false_and])
    go_wp2_with fail
    go_ret
    exact ⟨by rw [HF.out]; try rfl, HB6.out⟩
   | true =>
    have x5 : w6.cell? ⟨gx, 5, none⟩ = some (.slice a2 n2 e2) := HGX6.out.cell 5
    have x6 : w6.cell? ⟨gx, 6, none⟩ = some (.int .i64 p2) := HGX6.out.cell 6
    have x7 : w6.cell? ⟨gx, 7, none⟩ = some (.int .i64 q2) := HGX6.out.cell 7
    have x8 : w6.cell? ⟨gx, 8, none⟩ = some (.int .i64 r2) := HGX6.out.cell 8
    have x9 : w6.cell? ⟨gx, 9, none⟩ = some (.bool f2) := HGX6.out.cell 9
    have HC2 := Lib.hid (sright_any HS26.out 2 HL1.out.2)
    rw [HB2.out] at HC2
    go_wp2_with fail
    refine HC2.out.mono ?_
    rintro e w7 ⟨rfl, hb7⟩
    have HB7 := Lib.hid (HB6.out.trans (hb7.mono HB6.out.size))
    have HBZ7 := Lib.hid (HBZ6.out.trans (hb7.mono HBZ6.out.size))
    clear hb7 HC2 x5 x6 x7 x8 x9 HS26 HGX6 HBZ6 HB6
    cases b2 with
    | false =>
     have HF : Hid (V.all rightP = false) := Lib.hid (by rw [HRF.out, HST.out, HBB.out, Bool.true_and, Bool.false_and])
     go_wp2_with fail
     go_ret
     exact ⟨by rw [HF.out]; try rfl, HB7.out⟩
    | true =>
     have HN : Hid (V.all rightP = (V.drop (k + 1)).all rightP) := Lib.hid (by rw [HRF.out, HST.out, HBB.out, Bool.true_and, Bool.true_and])
     go_wp2_with fail
     go_roundw
     case rel => exact ⟨k + 1, by go_num, hlt, HN.out, HBZ7.out⟩
     case measure => simp [RowKit.intOf]; omega
  ·have hkl : k = V.length := by omega
   have HTR : Hid (V.all rightP = true) := Lib.hid (by rw [HRF.out, hkl, List.drop_length]; rfl)
   have HBF := Lib.hid (HB.out.trans (HBZ.out.mono HB.out.size))
   have g0 : wz.cell? ⟨g, 0, none⟩ = some (.slice a V.length c) := HGZ.out.cell 0
   obtain ⟨b1, hb1⟩ : ∃ b, decide (V.length ≤ 255) = b := ⟨_, rfl⟩
   have hb1' : decide ((V.length : Int) ≤ 255) = b1 := by rw [← hb1]; exact decide_eq_decide.2 (by omega)
   have HB1 := Lib.hid hb1
   clear hkl hb1 HRF HGZ HRZ HBZ
   go_wp2_with fail
   go_ret
   exact ⟨by rw [HTR.out, Bool.true_and, HB1.out]; try rfl, HBF.out⟩
end
end Go.Proofs.Ytmaijkoopjocdaa

/- Bytes as a string; what snap.Decode reads, in names. -/
namespace Go.Proofs.Ytmaijkoopjocdaa
open Go.RowKit Go.Lib

theorem conv_any {w : World} {a : Option Addr} {n c : Nat} {L : List Int} (hn : L.length = n) (ho : SlOk a n c) (h : BYL.Rd w a L) : (convert 35 9 (.slice a n c)).run Try.prog w = .ok (.string (strOfNums L)) w := by
 cases a with
 | none =>
  have : L = [] := List.length_eq_zero_iff.1 (hn.trans (ho.1 rfl).1)
  subst this
  exact run_convert_bytes_nil (P := Try.prog) w _ _ Try.underlying35 Try.underlying5 n c _ Try.underlying9
 | some ad =>
  obtain ⟨b, off, rfl⟩ := ho.2.1 ad rfl
  refine run_convert_bytes_arg (P := Try.prog) w _ _ Try.underlying35 Try.underlying5 b off n c L hn (fun i hi => ?_) _ Try.underlying9
  have hi' : i < L.length := by omega
  obtain ⟨b', off', he, _, hc⟩ := h i (L[i]) (List.getElem?_eq_getElem hi')
  injection he with he
  injection he with h1 h2
  subst h1; subst h2
  have := hc.one
  rw [show off + i * BYL.m = off + i by show off + i * 1 = _; omega] at this
  rw [this, List.getD_eq_getElem?_getD, List.getElem?_eq_getElem hi']
  rfl
theorem strOf_inj : ∀ {L M : List Int}, (∀ z ∈ L, isByte z) → (∀ z ∈ M, isByte z) → strOfNums L = strOfNums M → L = M := by
 intro L M hL hM h
 have h2 : (L.map fun n => UInt8.ofNat n.toNat) = (M.map fun n => UInt8.ofNat n.toNat) := by
  have := congrArg (fun s : ByteArray => s.data.toList) h
  exact this
 clear h
 induction L generalizing M with
 | nil => cases M with
  | nil => rfl
  | cons y M => cases h2
 | cons x L ih => cases M with
  | nil => cases h2
  | cons y M =>
   rw [List.map_cons, List.map_cons] at h2
   injection h2 with h3 h4
   have hx := hL x (List.mem_cons_self)
   have hy := hM y (List.mem_cons_self)
   unfold isByte at hx hy
   have h5 := congrArg UInt8.toNat h3
   simp only [UInt8.toNat_ofNat'] at h5
   have : x = y := by
    have e1 : x.toNat % 2 ^ 8 = x.toNat := Nat.mod_eq_of_lt (by omega)
    have e2 : y.toNat % 2 ^ 8 = y.toNat := Nat.mod_eq_of_lt (by omega)
    omega
   rw [this, ih (fun z hz => hL z (List.mem_cons_of_mem _ hz)) (fun z hz => hM z (List.mem_cons_of_mem _ hz)) h4]
theorem strOf_beq {L M : List Int} (hL : ∀ z ∈ L, isByte z) (hM : ∀ z ∈ M, isByte z) : ((strOfNums L).toList == (strOfNums M).toList) = decide (L = M) := by
 rw [Bool.eq_iff_iff, beq_iff_eq, decide_eq_true_eq, strOfNums_toList, strOfNums_toList]
 constructor
 ·intro h
  refine strOf_inj hL hM ?_
  unfold Lib.bytesOf at h
  unfold strOfNums
  rw [h]
 ·intro h; rw [h]
/-! ### what is read -/
def decT (q : Int) (r : Vw × Bool × RS) : Int × Vw × Int := if r.2.1 = true ∧ r.2.2.bad = false ∧ r.2.2.bs = [] ∧ rightV r.1 = true then (0, r.1, q) else (12, [], 0)
theorem decS_short {b : List Int} (h : b.length < 4) : decS b = (14, [], 0) := if_pos h
theorem decS_sum {b : List Int} {m : Nat} (h : b.length = m + 4) (hs : le4 (crcP (b.take m)) ≠ b.drop m) : decS b = (14, [], 0) := by
 unfold decS
 rw [if_neg (by omega), show b.length - 4 = m by omega, if_pos hs]
theorem decS_eq {b : List Int} {m : Nat} {q n : Int} {s1 s2 : RS} (h : b.length = m + 4) (hs : le4 (crcP (b.take m)) = b.drop m) (h1 : (⟨b.take m, false⟩ : RS).long = (q, s1)) (h2 : s1.num 1 = (n, s2)) : decS b = decT q (readVw n.toNat s2) := by
 unfold decS
 rw [if_neg (by omega), show b.length - 4 = m by omega, if_neg (fun h => h hs)]
 simp only [h1, h2]
 rfl
theorem decT_fine {q : Int} {V : Vw} {t : RS} : decT q (V, false, t) = (12, [], 0) := if_neg (fun h => by cases h.1)
theorem decT_end {q : Int} {V : Vw} {t : RS} {f : Bool} (h : ¬ endP t = 0) : decT q (V, f, t) = (12, [], 0) := if_neg fun k => h (endP_bad.2 fun h1 => by
 rcases h1 with h1 | h1
 ·have := k.2.1; dsimp only at this; rw [this] at h1; cases h1
 ·exact h1 k.2.2.1)
theorem decT_right {q : Int} {V : Vw} {t : RS} (h : endP t = 0) : decT q (V, true, t) = if rightV V = true then (0, V, q) else (12, [], 0) := by
 have h1 := endP_bad.1 h
 have h2 : t.bad = false := by cases hb : t.bad with | false => rfl | true => exact (h1 (.inl hb)).elim
 have h3 : t.bs = [] := Classical.byContradiction fun hc => h1 (.inr hc)
 unfold decT
 by_cases hv : rightV V = true
 ·rw [if_pos ⟨rfl, h2, h3, hv⟩, if_pos hv]
 ·rw [if_neg (fun k => hv k.2.2.2), if_neg hv]
theorem readSd_le {s : RS} (h : s.ok) : (readSd s).1.lv.length ≤ 255 := by
 have hb := RS.byte_range h
 have e : ∀ (l : List Lv) (t : RS), (readIm l t).1.lv = l := fun l t => by unfold readIm; split <;> rfl
 unfold readSd
 rw [e, readLvs_len]
 omega
theorem readLv_ok {s : RS} (h : s.ok) : (readLv s).2.ok := RS.long_ok (RS.long_ok (RS.long_ok h))
theorem readLvs_ok : ∀ (n : Nat) {s : RS}, s.ok → (readLvs n s).2.ok
 | 0, _, h => h
 | n + 1, _, h => readLvs_ok n (readLv_ok h)
theorem readIm_ok {l : List Lv} {s : RS} (h : s.ok) : (readIm l s).2.2.ok := by
 unfold readIm
 split
 ·exact readLv_ok (RS.num_ok h)
 ·exact RS.num_ok h
theorem readSd_ok {s : RS} (h : s.ok) : (readSd s).2.2.ok := readIm_ok (readLvs_ok _ (RS.num_ok h))
/-! ### where a reading of views stands -/
def fillA (w : World) (g : Nat) (v0 v1 v2 v3 v4 : Value) : World := ((((w.setCell ⟨g, 0, none⟩ v0).setCell ⟨g, 1, none⟩ v1).setCell ⟨g, 2, none⟩ v2).setCell ⟨g, 3, none⟩ v3).setCell ⟨g, 4, none⟩ v4
def fillB (w : World) (g : Nat) (v0 v1 v2 v3 v4 : Value) : World := ((((w.setCell ⟨g, 5, none⟩ v0).setCell ⟨g, 6, none⟩ v1).setCell ⟨g, 7, none⟩ v2).setCell ⟨g, 8, none⟩ v3).setCell ⟨g, 9, none⟩ v4
theorem Keeps.fillA (w : World) (g : Nat) (v0 v1 v2 v3 v4 : Value) : Keeps (fun k => k = g) w (fillA w g v0 v1 v2 v3 v4) :=
 ((((keep1 w g 0 v0).trans (keep1 _ g 1 v1)).trans (keep1 _ g 2 v2)).trans (keep1 _ g 3 v3)).trans (keep1 _ g 4 v4)
theorem Keeps.fillB (w : World) (g : Nat) (v0 v1 v2 v3 v4 : Value) : Keeps (fun k => k = g) w (fillB w g v0 v1 v2 v3 v4) :=
 ((((keep1 w g 5 v0).trans (keep1 _ g 6 v1)).trans (keep1 _ g 7 v2)).trans (keep1 _ g 8 v3)).trans (keep1 _ g 9 v4)
theorem Blk.fillA {w : World} {g : Nat} {t : TypeId} {x0 x1 x2 x3 x4 x5 x6 x7 x8 x9 : Value} (h : Blk w g t #[x0, x1, x2, x3, x4, x5, x6, x7, x8, x9]) (v0 v1 v2 v3 v4 : Value) : Blk (Go.Proofs.Ytmaijkoopjocdaa.fillA w g v0 v1 v2 v3 v4) g t #[v0, v1, v2, v3, v4, x5, x6, x7, x8, x9] := by
 have h1 := ((((h.set_ 0 v0).set_ 1 v1).set_ 2 v2).set_ 3 v3).set_ 4 v4
 simp only [List.setIfInBounds_toArray, List.set_cons_zero, List.set_cons_succ] at h1
 exact h1
theorem Blk.fillB {w : World} {g : Nat} {t : TypeId} {x0 x1 x2 x3 x4 x5 x6 x7 x8 x9 : Value} (h : Blk w g t #[x0, x1, x2, x3, x4, x5, x6, x7, x8, x9]) (v0 v1 v2 v3 v4 : Value) : Blk (Go.Proofs.Ytmaijkoopjocdaa.fillB w g v0 v1 v2 v3 v4) g t #[x0, x1, x2, x3, x4, v0, v1, v2, v3, v4] := by
 have h1 := ((((h.set_ 5 v0).set_ 6 v1).set_ 7 v2).set_ 8 v3).set_ 9 v4
 simp only [List.setIfInBounds_toArray, List.set_cons_zero, List.set_cons_succ] at h1
 exact h1
structure SvI (W w : World) (pr g9 n : Nat) (s0 : RS) (k : Nat) (v : Value) (f : Bool) (acc : Vw) (t : RS) : Prop where
 rd : RDR W w pr t
 bx : Blk w g9 50 #[v]
 vo : VO PRL LVL w W.heap.size v acc
 e1 : acc ++ (readVw (n - k) t).1 = (readVw n s0).1
 e2 : (f && (readVw (n - k) t).2.1) = (readVw n s0).2.1
 e3 : (readVw (n - k) t).2.2 = (readVw n s0).2.2
 len : acc.length = k
 le : LenV acc 255
theorem VO.keep2 {F : Nat → Prop} {Z : Lay Pr} {Y : Lay Lv} {w w' : World} {B : Nat} {v : Value} {V : Vw} (h : VO Z Y w B v V) (hk : Keeps F w w') (hz : ∀ g, v.ownBlock = some g → ¬ F g) (hy : ∀ g, Tyd w g Y.t → ¬ F g) : VO Z Y w' B v V := by
 obtain ⟨P, h1, h2, h3⟩ := h
 exact ⟨P, h1.keep' hk hz, h2, fun j p x hp hx => ⟨(h3 j p x hp hx).1.keep hk hy, (h3 j p x hp hx).2.keep hk hy⟩⟩
structure SwI (W w : World) (pr g9 g11 : Nat) (v : Value) (acc : Vw) (x y : Sh) (t : RS) : Prop where
 rd : RDR W w pr t
 bx : Blk w g9 50 #[v]
 vo : VO PRL LVL w W.heap.size v acc
 ap : ∀ g, v.ownBlock = some g → g ≠ g11
 bo : Blk w g11 95 #[.slice x.a x.n x.c, .int .i64 x.im.price, .int .i64 x.im.qty, .int .i64 x.im.count, .bool x.has, .slice y.a y.n y.c, .int .i64 y.im.price, .int .i64 y.im.qty, .int .i64 y.im.count, .bool y.has]
section
variable {W w w' : World} {pr g9 g11 : Nat} {v : Value} {acc : Vw} {x y : Sh} {t t' : RS}
theorem SwI.read (h : SwI W w pr g9 g11 v acc x y t) (n9 : g9 ≠ pr) (n11 : g11 ≠ pr) (hr : RDR W w' pr t') (hk : Keeps (fun g => g = pr) w w') : SwI W w' pr g9 g11 v acc x y t' :=
 ⟨hr, h.bx.keeps hk n9, h.vo.keep hk (fun g hg e => hg.ne h.rd.tyd (by decide) e) (fun g hg e => hg.ne h.rd.tyd (by decide) e), h.ap, h.bo.keeps hk n11⟩
theorem SwI.left (h : SwI W w pr g9 g11 v acc x y t) (n9 : g9 ≠ g11) (np : pr ≠ g11) (hb : W.heap.size ≤ g11) (s : Sh) : SwI W (fillA w g11 (.slice s.a s.n s.c) (.int .i64 s.im.price) (.int .i64 s.im.qty) (.int .i64 s.im.count) (.bool s.has)) pr g9 g11 v acc s y t := by
 have hk := Keeps.fillA w g11 (.slice s.a s.n s.c) (.int .i64 s.im.price) (.int .i64 s.im.qty) (.int .i64 s.im.count) (.bool s.has)
 exact ⟨h.rd.keep hk np (fun b hb e => hb.ne h.bo.tyd (by decide) e) (fun k hk => by have hk2 : k = g11 := hk; rw [hk2]; exact hb), h.bx.keeps hk n9, h.vo.keep2 hk (fun g hg e => h.ap g hg e) (fun g hg e => hg.ne h.bo.tyd (by decide) e), h.ap, h.bo.fillA _ _ _ _ _⟩
theorem SwI.right (h : SwI W w pr g9 g11 v acc x y t) (n9 : g9 ≠ g11) (np : pr ≠ g11) (hb : W.heap.size ≤ g11) (s : Sh) : SwI W (fillB w g11 (.slice s.a s.n s.c) (.int .i64 s.im.price) (.int .i64 s.im.qty) (.int .i64 s.im.count) (.bool s.has)) pr g9 g11 v acc x s t := by
 have hk := Keeps.fillB w g11 (.slice s.a s.n s.c) (.int .i64 s.im.price) (.int .i64 s.im.qty) (.int .i64 s.im.count) (.bool s.has)
 exact ⟨h.rd.keep hk np (fun b hb e => hb.ne h.bo.tyd (by decide) e) (fun k hk => by have hk2 : k = g11 := hk; rw [hk2]; exact hb), h.bx.keeps hk n9, h.vo.keep2 hk (fun g hg e => h.ap g hg e) (fun g hg e => hg.ne h.bo.tyd (by decide) e), h.ap, h.bo.fillB _ _ _ _ _⟩
theorem VO.snoc {B : Nat} {v' : Value} {P : List Pr} {p : Pr} {d : Sd × Sd} (hr : PRL.Row w B v' (P ++ [p])) (hl : P.length = acc.length) (ho : ∀ (j : Nat) (p : Pr) (x : Sd × Sd), P[j]? = some p → acc[j]? = some x → ShO LVL w B p.s x.1 ∧ ShO LVL w B p.t x.2) (h1 : ShO LVL w B p.s d.1) (h2 : ShO LVL w B p.t d.2) : VO PRL LVL w B v' (acc ++ [d]) := by
 refine ⟨_, hr, by rw [List.length_append, List.length_append, hl]; rfl, fun j q z hq hz => ?_⟩
 by_cases hj : j < P.length
 ·rw [List.getElem?_append_left hj] at hq
  rw [List.getElem?_append_left (by omega)] at hz
  exact ho j q z hq hz
 ·rw [List.getElem?_append_right (by omega)] at hq
  rw [List.getElem?_append_right (by omega)] at hz
  have hj0 : j - P.length = 0 := by have := lt_of_get hq; simp at this; omega
  rw [hj0] at hq
  rw [← hl, hj0] at hz
  injection hq with hq; injection hz with hz
  subst hq; subst hz
  exact ⟨h1, h2⟩
theorem SwI.grow {wb w5 : World} {P : List Pr} {v' : Value} {d1 d2 : Sd} (h : SwI W w pr g9 g11 v acc x y t) (hb : Below w.heap.size w wb) (hP : PRL.Row wb W.heap.size v P) (hl : P.length = acc.length) (hs : ∀ (j : Nat) (p : Pr) (x : Sd × Sd), P[j]? = some p → acc[j]? = some x → ShO LVL wb W.heap.size p.s x.1 ∧ ShO LVL wb W.heap.size p.t x.2)
  (h1 : ShO LVL w W.heap.size x d1) (h2 : ShO LVL w W.heap.size y d2) (hr : PRL.Row w5 W.heap.size v' (P ++ [⟨x, y⟩])) (hg : wb.grownBy w5 v.ownBlock) (hg9 : W.heap.size ≤ g9) (n9 : pr ≠ g9) :
  RDR W (w5.setCell ⟨g9, 0, none⟩ v') pr t ∧ Blk (w5.setCell ⟨g9, 0, none⟩ v') g9 50 #[v'] ∧ VO PRL LVL (w5.setCell ⟨g9, 0, none⟩ v') W.heap.size v' (acc ++ [(d1, d2)]) ∧ w5.cell? ⟨g9, 0, none⟩ = some v ∧ w5.frozen? ⟨g9, 0, none⟩ = false := by
 have hk := grown_keeps hg
 have hty : ∀ g, v.ownBlock = some g → Tyd wb g PRL.t := fun g hg => own_tyd hP g hg
 have hbs : ∀ g, v.ownBlock = some g → W.heap.size ≤ g := own_base hP
 have r1 := h.rd.below hb
 have b1 := h.bx.below hb
 have r5 := r1.keep hk (fun e => (hty _ e).ne r1.tyd (by decide) rfl) (fun b hb e => (hty _ e).ne hb (by decide) rfl) hbs
 have b5 := b1.keeps hk (fun e => (hty _ e).ne b1.tyd (by decide) rfl)
 have l5 : ∀ {s : Sh} {d : Sd}, ShO LVL wb W.heap.size s d → ShO LVL w5 W.heap.size s d := fun hh => hh.keep hk (fun g hg e => (hty _ e).ne hg (by decide) rfl)
 have vo5 : VO PRL LVL w5 W.heap.size v' (acc ++ [(d1, d2)]) := VO.snoc hr hl (fun j p x hp hx => ⟨l5 (hs j p x hp hx).1, l5 (hs j p x hp hx).2⟩) (l5 (h1.below hb)) (l5 (h2.below hb))
 have hk6 := keep1 w5 g9 0 v'
 have hb6 := b5.set_ 0 v'
 simp only [List.setIfInBounds_toArray, List.set_cons_zero] at hb6
 exact ⟨r5.keep hk6 n9 (fun b hb e => hb.ne b5.tyd (by decide) e) (fun k hk => by have hk2 : k = g9 := hk; rw [hk2]; exact hg9), hb6, vo5.keep hk6 (fun g hg e => hg.ne b5.tyd (by decide) e) (fun g hg e => hg.ne b5.tyd (by decide) e), b5.cell 0, b5.frozen 0⟩
end
end Go.Proofs.Ytmaijkoopjocdaa

/- The walk of snap.Decode. -/
namespace Go.Proofs.Ytmaijkoopjocdaa
open Go.RowKit Go.Lib

section
variable {w w' : World}
set_option maxRecDepth 20000 in
set_option maxHeartbeats 16000000 in
theorem sdec_any {v : Value} {bs : List Int} (h : BYL.Sl w v bs) (hl : bs.length ≤ 900000) (hok : ∀ z ∈ bs, isByte z) :
  Calls Try.prog 40 #[v] w fun e w' => ∃ u, e = .returned (.tuple #[.agg #[u], .int .i64 (decS bs).2.2, .int .i64 (decS bs).1]) ∧ VO PRL LVL w' w.heap.size u (decS bs).2.1 ∧ Below w.heap.size w w' := by
 obtain ⟨a, c, rfl, ho, hrd⟩ := h
 have hba := Below.allocN w (.cells #[.slice none 0 0] 50)
 have HG : Hid (Blk (w.alloc (.cells #[.slice none 0 0] 50)) w.heap.size 50 #[.slice none 0 0]) := Lib.hid (Blk.new _ _ _)
 have HB := Lib.hid hba
 have HRD := Lib.hid (hrd.below hba)
 have HL := Lib.hid hl
 have HOK := Lib.hid hok
 obtain ⟨n, hn⟩ : ∃ n, bs.length = n := ⟨_, rfl⟩
 rw [hn] at ho ⊢ hl
 clear hba hrd hok
 obtain ⟨dW, dV, dQ, hD⟩ : ∃ x y z, decS bs = (x, y, z) := ⟨_, _, _, rfl⟩
 rw [hD]
 have HD := Lib.hid hD
 have HN := Lib.hid hn
 clear hD hn
 by_cases hs : n < 4
 ·have y1 : IntKind.i64.wrap ((n : Int) - 4) = (n : Int) - 4 := IntWalk.i64_in _ (by omega)
  have y2 : (n : Int) - 4 < 0 := by omega
  have HR : Hid (dW = 14 ∧ dV = [] ∧ dQ = 0) := Lib.hid (by have h1 := decS_short (b := bs) (by rw [HN.out]; exact hs); rw [HD.out] at h1; injection h1 with h1 h2; injection h2 with h2 h3; exact ⟨h1, h2, h3⟩)
  clear ho hs
  go_enter Try.func40, Try.ntmps40
  go_upto_region 1 with (fail)
  obtain ⟨g, hg⟩ : ∃ g, w.heap.size = g := ⟨_, rfl⟩
  have HGG := Lib.hid hg
  rw [hg] at HG ⊢
  clear hg
  generalize w.alloc (.cells #[.slice none 0 0] 50) = w1 at *
  have g0 : w1.cell? ⟨g, 0, none⟩ = some (.slice none 0 0) := HG.out.cell 0
  have z0 : w1.frozen? ⟨g, 0, none⟩ = false := HG.out.frozen 0
  go_wp2_with fail
  clear g0 z0
  have k0 : (w1.setCell ⟨g, 0, none⟩ (.slice none 0 0)).cell? ⟨g, 0, none⟩ = some (.slice none 0 0) := (HG.out.set_ 0 (.slice none 0 0)).cell 0
  have hbz := HB.out.setCell (p := ⟨g, 0, none⟩) (Nat.le_of_eq HGG.out) (.slice none 0 0)
  refine bodyPost_ret (v := .tuple #[.agg #[.slice none 0 0], .int .i64 0, .int .i64 14]) (by simp [results, Try.results40, go_sem, k0]) rfl ⟨_, by rw [HR.out.1, HR.out.2.2], by rw [HR.out.2.1]; exact VO.nil _ _, hbz⟩
 ·obtain ⟨m, rfl⟩ : ∃ m, n = m + 4 := ⟨n - 4, by omega⟩
  have hmc : m ≤ c := by have := ho.2.2; omega
  obtain ⟨b, off, rfl⟩ : ∃ b off, a = some ⟨b, off, none⟩ := by
   cases a with
   | none => have := (ho.1 rfl).1; omega
   | some ad => obtain ⟨b, off, rfl⟩ := ho.2.1 ad rfl; exact ⟨b, off, rfl⟩
  have HSO := Lib.hid ho
  have y1 : ((m + 4 : Nat) : Int) - 4 = (m : Int) := by omega
  have y2 : IntKind.i64.wrap (m : Int) = (m : Int) := IntWalk.i64_in _ (by omega)
  have y3 : ¬ ((m : Int) < 0) := by omega
  have y4 : m ≤ m + 4 := by omega
  have y5 : ¬ c = m := by have := ho.2.2; omega
  have y7 : (m : Int) ≤ (m : Int) + 4 := by omega
  have y6 : m + 4 ≤ c := by have := ho.2.2; omega
  clear ho hs
  go_enter Try.func40, Try.ntmps40
  go_upto_region 1 with (fail)
  obtain ⟨g, hg⟩ : ∃ g, w.heap.size = g := ⟨_, rfl⟩
  have HGG := Lib.hid hg
  rw [hg] at HG ⊢
  clear hg
  generalize w.alloc (.cells #[.slice none 0 0] 50) = w1 at *
  go_wp2_with fail
  refine (neww_any w1).mono ?_
  rintro e w2 ⟨pw, rfl, hw⟩
  have HW2 := Lib.hid hw
  clear hw
  go_wp2_with fail
  have HRD2 := Lib.hid (HRD.out.below HW2.out.bel)
  have hsl : BYL.Sl w2 (.slice (some ⟨b, off, none⟩) m c) (bs.take m) := ⟨_, _, by rw [List.length_take, HN.out, Nat.min_eq_left (by omega)], ⟨fun h => (by cases h), fun ad h => ⟨b, off, by injection h with h; exact h.symm⟩, by rw [List.length_take, HN.out]; omega⟩, HRD2.out.take m⟩
  have HOT : Hid (∀ z ∈ bs.take m, isByte z) := Lib.hid fun z hz => HOK.out z (List.mem_of_mem_take hz)
  have HTL : Hid ((bs.take m).length = m) := Lib.hid (by rw [List.length_take, HN.out]; omega)
  refine (crc_any hsl (by rw [HTL.out]; omega) HOT.out).mono ?_
  rintro e w3 ⟨rfl, rfl⟩
  clear hsl
  go_wp2_with fail
  refine (sum_any HW2.out (crcP (bs.take m)) (bits_u32r _ _ _) (by decide)).mono ?_
  rintro e w3 ⟨rfl, hw⟩
  rw [List.nil_append] at hw
  have HW3 := Lib.hid hw
  clear hw HW2 HRD2
  go_upto_region 6 with (fail)
  have HRD3 := Lib.hid (HRD.out.below HW3.out.bel)
  have hdl : (bs.drop m).length = 4 := by rw [List.length_drop, HN.out]; omega
  have HOD : Hid (∀ z ∈ bs.drop m, isByte z) := Lib.hid fun z hz => HOK.out z (List.mem_of_mem_drop hz)
  obtain ⟨t1, ht1⟩ : ∃ t, strOfNums (le4 (crcP (bs.take m))) = t := ⟨_, rfl⟩
  obtain ⟨t2, ht2⟩ : ∃ t, strOfNums (bs.drop m) = t := ⟨_, rfl⟩
  obtain ⟨dd, hdd⟩ : ∃ d, decide (le4 (crcP (bs.take m)) = bs.drop m) = d := ⟨_, rfl⟩
  have HT12 : Hid ((t1.toList == t2.toList) = dd) := Lib.hid (by rw [← ht1, ← ht2, ← hdd]; exact strOf_beq (by rw [le4_leN]; exact leN_byte _ _) HOD.out)
  have HDD := Lib.hid hdd
  have HT1 := Lib.hid ht1
  have hS : ∀ (wx : World), BYL.Rd wx (some ⟨b, off, none⟩) bs → (convert 35 9 (.slice (some ⟨b, off + m, none⟩) 4 (c - m))).run Try.prog wx = .ok (.string t2) wx := fun wx hx => by
   have hr := rd_drop (k := m) hx (c := c) (by rw [HN.out]; exact y6)
   rw [if_neg y5] at hr
   rw [← ht2]
   exact conv_any hdl ⟨fun h => (by cases h), fun ad h => ⟨b, off + m, by injection h with h; exact h.symm⟩, by omega⟩ hr
  have HS := Lib.hid hS
  have HDN := Lib.hid (done_any (HW3.out.below (Below.drewN_of w3 1)) (by rw [show (le4 (crcP (bs.take m))).length = 4 from rfl]; decide))
  have hS3 := hS _ (HRD3.out.below (Below.drewN_of w3 1))
  clear hS hdl hdd ht1 ht2
  refine wp_region_E (S := fun wx => (convert 35 9 (.slice (some ⟨b, off + m, none⟩) 4 (c - m))).run Try.prog wx = .ok (.string t2) wx) (by kernel_rfl) hS3 (fun hHeld => ?_)
  refine wpE_tk 0 (oi := ?o1) (v := ?v1) ?h1 (by kernel_rfl) ?q1 ?y1 (by assumption) ?_
  case h1 => (simp only [List.getElem?_toArray]; rfl)
  case q1 => exact fun _ _ _ h => h
  case y1 => exact Or.inl ⟨by rfl, by (intro w hSw; (try dsimp only at hSw); go_simp; try with_reducible rfl)⟩
  try simp only [Act.put, sA, sB, sC]
  refine wpE_tk 3 (oi := ?o2) (v := ?v2) ?h2 (by kernel_rfl) ?q2 ?y2 (by assumption) ?_
  case h2 => (simp only [List.getElem?_toArray]; rfl)
  case q2 => exact fun _ _ _ h => h
  case y2 => exact Or.inl ⟨by rfl, by (intro w hSw; (try dsimp only at hSw); go_simp; try with_reducible rfl)⟩
  try simp only [Act.put, sA, sB, sC]
  refine wpE_tk 4 (oi := ?o3) (v := ?v3) ?h3 (by kernel_rfl) ?q3 ?y3 (by assumption) ?_
  case h3 => (simp only [List.getElem?_toArray]; rfl)
  case q3 => exact fun _ _ _ h => h
  case y3 => exact Or.inl ⟨by rfl, by (intro w hSw; (try dsimp only at hSw); go_simp; try with_reducible rfl)⟩
  try simp only [Act.put, sA, sB, sC]
  refine wpE_tk 5 (oi := ?o4) (v := ?v4) ?h4 (by kernel_rfl) ?q4 ?y4 (by assumption) ?_
  case h4 => (simp only [List.getElem?_toArray]; rfl)
  case q4 => exact fun _ _ _ h => h
  case y4 => exact Or.inl ⟨by rfl, by (intro w hSw; (try dsimp only at hSw); go_simp; try with_reducible rfl)⟩
  try simp only [Act.put, sA, sB, sC]
  refine wpE_tk 6 (oi := ?o5) (v := ?v5) ?h5 (by kernel_rfl) ?q5 ?y5 (by assumption) ?_
  case h5 => (simp only [List.getElem?_toArray]; rfl)
  case q5 => exact fun _ _ _ h => h
  case y5 => exact Or.inl ⟨by rfl, by (intro w hSw; (try dsimp only at hSw); go_simp; try with_reducible rfl)⟩
  try simp only [Act.put, sA, sB, sC]
  refine wpE_one (i := 1) (o := ?o6) ?ho6 (by kernel_rfl) (fun K hK => ?_)
  case ho6 => (simp only [List.getElem?_toArray]; rfl)
  go_simp
  refine HDN.out.mono ?_
  rintro e w4 ⟨v4, rfl, hr4, hb4⟩
  obtain ⟨a4, c4, he4⟩ := hr4.form
  obtain ⟨a4', c4', he4', hso4, hrd4⟩ := hr4.sl
  have hee := he4.symm.trans he4'
  injection hee with hea _ hec
  subst hea
  subst hec
  clear he4'
  subst he4
  have hcv := conv_any (show (le4 (crcP (bs.take m))).length = 4 from rfl) hso4 hrd4
  have hb34 : Below w3.heap.size w3 w4 := (Below.drewN_of w3 1).trans hb4
  have HB4 := Lib.hid (HB.out.trans ((HW3.out.bel.trans (hb34.mono HW3.out.bel.size)).mono HB.out.size))
  have HG4 := Lib.hid ((HG.out.below HW3.out.bel).below hb34)
  have HRD4 := Lib.hid (HRD3.out.below hb34)
  have hS4 := HS.out w4 HRD4.out
  rw [HT1.out] at hcv
  rw [show (le4 (crcP (bs.take m))).length = 4 from rfl]
  refine hK.out _ _ hS4 (fun hHeld => ?_)
  clear hK K hS3 HRD3 HG HRD HB hr4 hb4 hso4 hrd4 hb34 HDN HS
  refine wpE_one (i := 2) (o := ?o7) ?ho7 (by kernel_rfl) (fun K hK => ?_)
  case ho7 => (simp only [List.getElem?_toArray]; rfl)
  go_simp
  refine hK.out _ _ hS4 (fun hHeld => ?_)
  clear hK K hcv
  refine wpE_last (i := 7) (o := ?o8) ?ho8 (by kernel_rfl) (by kernel_rfl) (by kernel_rfl) (fun K hK => ?_)
  case ho8 => (simp only [List.getElem?_toArray]; rfl)
  go_simp
  rw [HT12.out]
  refine hK.out _ _ ?_
  clear hK K hHeld hS4 HW3
  cases dd with
  | false =>
   have HR : Hid (dW = 14 ∧ dV = [] ∧ dQ = 0) := Lib.hid (by have h1 := decS_sum HN.out (of_decide_eq_false HDD.out); rw [HD.out] at h1; injection h1 with h1 h2; injection h2 with h2 h3; exact ⟨h1, h2, h3⟩)
   have g0 : w4.cell? ⟨g, 0, none⟩ = some (.slice none 0 0) := HG4.out.cell 0
   have z0 : w4.frozen? ⟨g, 0, none⟩ = false := HG4.out.frozen 0
   go_wp2_with fail
   clear g0 z0
   have k0 : (w4.setCell ⟨g, 0, none⟩ (.slice none 0 0)).cell? ⟨g, 0, none⟩ = some (.slice none 0 0) := (HG4.out.set_ 0 (.slice none 0 0)).cell 0
   have hbz := HB4.out.setCell (p := ⟨g, 0, none⟩) (Nat.le_of_eq HGG.out) (.slice none 0 0)
   refine bodyPost_ret (v := .tuple #[.agg #[.slice none 0 0], .int .i64 0, .int .i64 14]) (by simp [results, Try.results40, go_sem, k0]) rfl ⟨_, by rw [HR.out.1, HR.out.2.2], by rw [HR.out.2.1]; exact VO.nil _ _, hbz⟩
  | true =>
   obtain ⟨q, s1, h1⟩ : ∃ p t, (⟨bs.take m, false⟩ : RS).long = (p, t) := ⟨_, _, rfl⟩
   obtain ⟨nz, s2, h2⟩ : ∃ p t, s1.num 1 = (p, t) := ⟨_, _, rfl⟩
   have HD2 := Lib.hid (HD.out.symm.trans (decS_eq HN.out (of_decide_eq_true HDD.out) h1 h2))
   have H1 := Lib.hid h1
   have H2 := Lib.hid h2
   clear h1 h2
   go_wp2_with fail
   have hsl : BYL.Sl w4 (.slice (some ⟨b, off, none⟩) m c) (bs.take m) := ⟨_, _, by rw [HTL.out], ⟨fun h => (by cases h), fun ad h => ⟨b, off, by injection h with h; exact h.symm⟩, by rw [HTL.out]; omega⟩, HRD4.out.take m⟩
   refine (newr_any hsl (by rw [HTL.out]; omega) HOT.out).mono ?_
   rintro e w5 ⟨pr, rfl, hr⟩
   have R5 := Lib.hid hr
   clear hr hsl
   go_wp2_with fail
   refine (rlong_eq R5.out H1.out).mono ?_
   rintro e w6 ⟨rfl, hr, hk⟩
   have R6 := Lib.hid hr
   have hb7 := Below.allocN w6 (.cells #[.slice none 0 0] 50)
   have hg9 : Blk (w6.alloc (.cells #[.slice none 0 0] 50)) w6.heap.size 50 #[.slice none 0 0] := Blk.new _ _ _
   have N9 : Hid (pr < w6.heap.size ∧ w4.heap.size ≤ w6.heap.size ∧ w4.heap.size ≤ pr) := Lib.hid ⟨R6.out.lt, R6.out.bel.size, R6.out.base⟩
   have R7 := Lib.hid (R6.out.below hb7)
   go_upto_region 12 with (fail)
   obtain ⟨g9, hgg⟩ : ∃ g, w6.heap.size = g := ⟨_, rfl⟩
   rw [hgg] at hg9 N9 ⊢
   have G9 := Lib.hid hg9
   clear hr hk R5 HRD4 hb7 hg9 hgg R6 HDD HT12 HT1 HSO HD hHeld
   generalize w6.alloc (.cells #[.slice none 0 0] 50) = w7 at *
   go_wp2_with fail
   have hbr := RS.byte_range R7.out.ok
   rw [H2.out] at hbr
   refine (rbyte_eq R7.out H2.out).mono ?_
   rintro e w8 ⟨rfl, hr, hk⟩
   obtain ⟨n, rfl⟩ : ∃ n : Nat, nz = n := ⟨nz.toNat, by omega⟩
   have HNN : Hid (n ≤ 255) := Lib.hid (by omega)
   have I0 : Hid (SvI w4 w8 pr g9 n s2 0 (.slice none 0 0) true [] s2) := Lib.hid ⟨hr, G9.out.keeps hk (by have := N9.out; omega), VO.nil _ _, by simp, by simp, by simp, rfl, fun p hp => by cases hp⟩
   clear hr hk R7 G9 hbr
   go_wp2_with fail
   go_loopw [44, 10] (fun i f w' => ∃ (k : Nat) (f' : Bool) (v : Value) (acc : Vw) (t : RS), i = .int .i64 k ∧ f = .bool f' ∧ k ≤ n ∧ SvI w4 w' pr g9 n s2 k v f' acc t) (fun i _ _ => n - (RowKit.intOf i).toNat)
   case atStart => exact ⟨0, true, _, _, _, rfl, rfl, Nat.zero_le _, I0.out⟩
   case round =>
    clear I0
    obtain ⟨k, f, v, acc, t, rfl, rfl, hk, hI⟩ := hrel
    obtain ⟨wz, rfl⟩ : ∃ wo : World, wo = wr := ⟨_, rfl⟩
    have I1 := Lib.hid hI
    clear hI
    by_cases hlt : k < n
    ·have hlt' : (k : Int) < (n : Int) := by omega
     obtain ⟨d1, ok1, t1', hd1⟩ : ∃ a b c, readSd t = (a, b, c) := ⟨_, _, _, rfl⟩
     obtain ⟨d2, ok2, t2', hd2⟩ : ∃ a b c, readSd t1' = (a, b, c) := ⟨_, _, _, rfl⟩
     have HRV : Hid (readVw (n - k) t = ((d1, d2) :: (readVw (n - (k + 1)) t2').1, (ok1 && ok2 && (readVw (n - (k + 1)) t2').2.1), (readVw (n - (k + 1)) t2').2.2)) := Lib.hid (by
      rw [show n - k = (n - (k + 1)) + 1 by omega]
      show (((readSd t).1, (readSd (readSd t).2.2).1) :: _, _, _) = _
      simp only [hd1, hd2])
     have HD1 := Lib.hid hd1
     have HD2' := Lib.hid hd2
     clear hd1 hd2
     have hba := Below.allocN wz (.cells zeroPr.cells.toArray 95)
     have hgo : Blk (wz.alloc (.cells zeroPr.cells.toArray 95)) wz.heap.size 95 zeroPr.cells.toArray := Blk.new _ _ _
     have hw0 : SwI w4 (wz.alloc (.cells zeroPr.cells.toArray 95)) pr g9 wz.heap.size v acc zeroSh zeroSh t := ⟨I1.out.rd.below hba, I1.out.bx.below hba, I1.out.vo.below hba, fun g hg e => by obtain ⟨P, hP, _⟩ := I1.out.vo; have := own_lt hP g hg; omega, hgo⟩
     have N11 : Hid (g9 ≠ wz.heap.size ∧ pr ≠ wz.heap.size ∧ w4.heap.size ≤ wz.heap.size) := Lib.hid ⟨by have := I1.out.bx.lt; omega, by have := I1.out.rd.lt; omega, I1.out.rd.bel.size⟩
     have W0 := Lib.hid hw0
     clear hba hgo hw0
     unfold zeroPr Pr.cells zeroSh zeroLv at W0
     dsimp only at W0
     go_upto_region 16 with (fail)
     obtain ⟨g11, hg11⟩ : ∃ g, wz.heap.size = g := ⟨_, rfl⟩
     rw [hg11] at W0 N11 ⊢
     clear hg11
     generalize wz.alloc _ = w9 at *
     go_wp2_with fail
     go_loopw [46, 10] (fun i f0 w' => ∃ (j : Nat) (x y : Sh) (f' : Bool) (t' : RS), i = .int .i64 j ∧ f0 = .bool f' ∧ SwI w4 w' pr g9 g11 v acc x y t' ∧
      ((j = 0 ∧ f' = f ∧ t' = t) ∨ (j = 1 ∧ f' = (f && ok1) ∧ t' = t1' ∧ ShO LVL w' w4.heap.size x d1) ∨ (j = 2 ∧ f' = (f && ok1 && ok2) ∧ t' = t2' ∧ ShO LVL w' w4.heap.size x d1 ∧ ShO LVL w' w4.heap.size y d2))) (fun i _ _ => 2 - (RowKit.intOf i).toNat)
     case atStart => exact ⟨0, _, _, f, t, rfl, rfl, W0.out, .inl ⟨rfl, rfl, rfl⟩⟩
     case round =>
      clear W0
      obtain ⟨j, x, y, f', t', rfl, rfl, hW, hc⟩ := hrel
      obtain ⟨wv, rfl⟩ : ∃ wo : World, wo = wr := ⟨_, rfl⟩
      rcases hc with ⟨rfl, rfl, rfl⟩ | ⟨rfl, rfl, rfl, hs1⟩ | ⟨rfl, rfl, rfl, hs1, hs2⟩
      ·have W1 := Lib.hid hW
       have hsd := side_any hW.rd
       rw [HD1.out] at hsd
       have HSD := Lib.hid hsd
       clear hW hsd
       go_wp2_with fail
       refine HSD.out.mono ?_
       rintro e wa ⟨sh, rfl, hs, hr, hk'⟩
       have W2 := Lib.hid (W1.out.read (by have := N9.out; omega) N11.out.2.1.symm hr hk')
       have S2 := Lib.hid (hs.base (B' := w4.heap.size) (W1.out.rd.bel.size))
       clear hs hr hk' HSD W1
       have m0 : wa.cell? ⟨g11, 0, none⟩ = some (.slice x.a x.n x.c) := W2.out.bo.cell 0
       have m1 : wa.cell? ⟨g11, 1, none⟩ = some (.int .i64 x.im.price) := W2.out.bo.cell 1
       have m2 : wa.cell? ⟨g11, 2, none⟩ = some (.int .i64 x.im.qty) := W2.out.bo.cell 2
       have m3 : wa.cell? ⟨g11, 3, none⟩ = some (.int .i64 x.im.count) := W2.out.bo.cell 3
       have m4 : wa.cell? ⟨g11, 4, none⟩ = some (.bool x.has) := W2.out.bo.cell 4
       have zf : ∀ o, wa.frozen? ⟨g11, o, none⟩ = false := fun o => W2.out.bo.frozen o
       have W3 := Lib.hid (W2.out.left N11.out.1 N11.out.2.1 N11.out.2.2 sh)
       have S3 := Lib.hid (S2.out.keep (Keeps.fillA wa g11 (.slice sh.a sh.n sh.c) (.int .i64 sh.im.price) (.int .i64 sh.im.qty) (.int .i64 sh.im.count) (.bool sh.has)) (fun b hb e => hb.ne W2.out.bo.tyd (by decide) e))
       unfold fillA at W3 S3
       go_upto_region 20 with (fail)
       clear m0 m1 m2 m3 m4 zf W2 S2
       generalize (((((wa.setCell ⟨g11, 0, none⟩ (.slice sh.a sh.n sh.c)).setCell ⟨g11, 1, none⟩ (.int .i64 sh.im.price)).setCell ⟨g11, 2, none⟩ (.int .i64 sh.im.qty)).setCell ⟨g11, 3, none⟩ (.int .i64 sh.im.count)).setCell ⟨g11, 4, none⟩ (.bool sh.has)) = w10 at *
       cases f' with
       | false =>
        go_wp2_with fail
        go_roundw
        case rel => exact ⟨1, sh, y, false, t1', by go_num, by rfl, W3.out, .inr (.inl ⟨rfl, rfl, rfl, S3.out⟩)⟩
        case measure => simp [RowKit.intOf]
       | true =>
        go_wp2_with fail
        go_roundw
        case rel => exact ⟨1, sh, y, ok1, t1', by go_num, by rfl, W3.out, .inr (.inl ⟨rfl, rfl, rfl, S3.out⟩)⟩
        case measure => simp [RowKit.intOf]
      ·have W1 := Lib.hid hW
       have hsd := side_any hW.rd
       rw [HD2'.out] at hsd
       have HSD := Lib.hid hsd
       have HS1 := Lib.hid hs1
       obtain ⟨fj, hfj⟩ : ∃ fj, (f && ok1) = fj := ⟨_, rfl⟩
       rw [hfj]
       have HFJ := Lib.hid hfj
       clear hW hsd hs1 hfj
       go_wp2_with fail
       refine HSD.out.mono ?_
       rintro e wa ⟨sh, rfl, hs, hr, hk'⟩
       have W2 := Lib.hid (W1.out.read (by have := N9.out; omega) N11.out.2.1.symm hr hk')
       have S2 := Lib.hid (hs.base (B' := w4.heap.size) (W1.out.rd.bel.size))
       have S1 := Lib.hid (HS1.out.keep hk' (fun b hb e => hb.ne W1.out.rd.tyd (by decide) e))
       clear hs hr hk' HSD W1 HS1
       have m5 : wa.cell? ⟨g11, 5, none⟩ = some (.slice y.a y.n y.c) := W2.out.bo.cell 5
       have m6 : wa.cell? ⟨g11, 6, none⟩ = some (.int .i64 y.im.price) := W2.out.bo.cell 6
       have m7 : wa.cell? ⟨g11, 7, none⟩ = some (.int .i64 y.im.qty) := W2.out.bo.cell 7
       have m8 : wa.cell? ⟨g11, 8, none⟩ = some (.int .i64 y.im.count) := W2.out.bo.cell 8
       have m9 : wa.cell? ⟨g11, 9, none⟩ = some (.bool y.has) := W2.out.bo.cell 9
       have zf : ∀ o, wa.frozen? ⟨g11, o, none⟩ = false := fun o => W2.out.bo.frozen o
       have W3 := Lib.hid (W2.out.right N11.out.1 N11.out.2.1 N11.out.2.2 sh)
       have hkb := Keeps.fillB wa g11 (.slice sh.a sh.n sh.c) (.int .i64 sh.im.price) (.int .i64 sh.im.qty) (.int .i64 sh.im.count) (.bool sh.has)
       have S3 := Lib.hid (S2.out.keep hkb (fun b hb e => hb.ne W2.out.bo.tyd (by decide) e))
       have S4 := Lib.hid (S1.out.keep hkb (fun b hb e => hb.ne W2.out.bo.tyd (by decide) e))
       clear hkb
       unfold fillB at W3 S3 S4
       go_upto_region 20 with (fail)
       clear m5 m6 m7 m8 m9 zf W2 S2 S1
       generalize (((((wa.setCell ⟨g11, 5, none⟩ (.slice sh.a sh.n sh.c)).setCell ⟨g11, 6, none⟩ (.int .i64 sh.im.price)).setCell ⟨g11, 7, none⟩ (.int .i64 sh.im.qty)).setCell ⟨g11, 8, none⟩ (.int .i64 sh.im.count)).setCell ⟨g11, 9, none⟩ (.bool sh.has)) = w10 at *
       cases fj with
       | false =>
        go_wp2_with fail
        go_roundw
        case rel => exact ⟨2, x, sh, false, t2', by go_num, by rfl, W3.out, .inr (.inr ⟨rfl, by rfl, rfl, S4.out, S3.out⟩)⟩
        case measure => simp [RowKit.intOf]
       | true =>
        go_wp2_with fail
        go_roundw
        case rel => exact ⟨2, x, sh, ok2, t2', by go_num, by rfl, W3.out, .inr (.inr ⟨rfl, by rfl, rfl, S4.out, S3.out⟩)⟩
        case measure => simp [RowKit.intOf]
      ·obtain ⟨P, hP, hPl, hPs⟩ := hW.vo
       obtain ⟨av, cv, hvf⟩ := hP.form
       subst hvf
       obtain ⟨f2, hf2⟩ : ∃ f2, (f && ok1 && ok2) = f2 := ⟨_, rfl⟩
       rw [hf2]
       have HF2 := Lib.hid hf2
       have W1 := Lib.hid hW
       have HP := Lib.hid hP
       have HPL := Lib.hid hPl
       have HPS := Lib.hid hPs
       have HS1 := Lib.hid hs1
       have HS2 := Lib.hid hs2
       clear hP hPl hPs hW hs1 hs2 hf2
       have m0 : wv.cell? ⟨g11, 0, none⟩ = some (.slice x.a x.n x.c) := W1.out.bo.cell 0
       have m1 : wv.cell? ⟨g11, 1, none⟩ = some (.int .i64 x.im.price) := W1.out.bo.cell 1
       have m2 : wv.cell? ⟨g11, 2, none⟩ = some (.int .i64 x.im.qty) := W1.out.bo.cell 2
       have m3 : wv.cell? ⟨g11, 3, none⟩ = some (.int .i64 x.im.count) := W1.out.bo.cell 3
       have m4 : wv.cell? ⟨g11, 4, none⟩ = some (.bool x.has) := W1.out.bo.cell 4
       have m5 : wv.cell? ⟨g11, 5, none⟩ = some (.slice y.a y.n y.c) := W1.out.bo.cell 5
       have m6 : wv.cell? ⟨g11, 6, none⟩ = some (.int .i64 y.im.price) := W1.out.bo.cell 6
       have m7 : wv.cell? ⟨g11, 7, none⟩ = some (.int .i64 y.im.qty) := W1.out.bo.cell 7
       have m8 : wv.cell? ⟨g11, 8, none⟩ = some (.int .i64 y.im.count) := W1.out.bo.cell 8
       have m9 : wv.cell? ⟨g11, 9, none⟩ = some (.bool y.has) := W1.out.bo.cell 9
       have v0 : wv.cell? ⟨g9, 0, none⟩ = some (.slice av P.length cv) := W1.out.bx.cell 0
       have hnn := HNN.out
       have hba := Below.allocN wv (.cells #[.slice x.a x.n x.c, .int .i64 x.im.price, .int .i64 x.im.qty, .int .i64 x.im.count, .bool x.has, .slice y.a y.n y.c, .int .i64 y.im.price, .int .i64 y.im.qty, .int .i64 y.im.count, .bool y.has] 95)
       have HBA := Lib.hid hba
       have HPB := Lib.hid (HP.out.below hba)
       have HPSB : Hid (∀ (j : Nat) (p : Pr) (x : Sd × Sd), P[j]? = some p → acc[j]? = some x → ShO LVL _ w4.heap.size p.s x.1 ∧ ShO LVL _ w4.heap.size p.t x.2) := Lib.hid fun j p x hp hx => ⟨(HPS.out j p x hp hx).1.below hba, (HPS.out j p x hp hx).2.below hba⟩
       have HNB : Hid (Blk (wv.alloc (.cells #[.slice x.a x.n x.c, .int .i64 x.im.price, .int .i64 x.im.qty, .int .i64 x.im.count, .bool x.has, .slice y.a y.n y.c, .int .i64 y.im.price, .int .i64 y.im.qty, .int .i64 y.im.count, .bool y.has] 95)) wv.heap.size 95 (PRL.cells ⟨x, y⟩).toArray) := Lib.hid (Blk.new _ _ _)
       have HSZ : Hid (w4.heap.size ≤ (wv.alloc (.cells #[.slice x.a x.n x.c, .int .i64 x.im.price, .int .i64 x.im.qty, .int .i64 x.im.count, .bool x.has, .slice y.a y.n y.c, .int .i64 y.im.price, .int .i64 y.im.qty, .int .i64 y.im.count, .bool y.has] 95)).heap.size) := Lib.hid (Nat.le_trans W1.out.rd.bel.size hba.size)
       have HPN : Hid (P.length + 1 ≤ 1000000) := Lib.hid (by rw [HPL.out, I1.out.len]; have := HNN.out; omega)
       clear hba HP HPS
       go_wp2_with (first
        | (at_builtin; go_loud (refine PRL.push rfl (.tmp 62) (.tmp 64) rfl w4.heap.size (.slice av P.length cv) P rfl HPB.out wv.heap.size ⟨x, y⟩ rfl HNB.out.lt HNB.out.cellsAt HPN.out HSZ.out ?_)))
       intro v' w5 hr5 hg5 _
       obtain ⟨a5, c5, hv5⟩ := hr5.form
       rw [show (P ++ [(⟨x, y⟩ : Pr)]).length = P.length + 1 by rw [List.length_append]; rfl] at hv5
       subst hv5
       obtain ⟨r6, b6, vo6, k5, z5⟩ := W1.out.grow HBA.out HPB.out HPL.out HPSB.out HS1.out HS2.out hr5 hg5 (by have := N9.out; omega) (by have := N9.out; omega)
       have I6 : Hid (SvI w4 (w5.setCell ⟨g9, 0, none⟩ (.slice a5 (P.length + 1) c5)) pr g9 n s2 (k + 1) (.slice a5 (P.length + 1) c5) f2 (acc ++ [(d1, d2)]) t') := Lib.hid
        ⟨r6, b6, vo6, by rw [← I1.out.e1, HRV.out]; simp, by rw [← I1.out.e2, HRV.out, ← HF2.out]; simp [Bool.and_assoc], by rw [← I1.out.e3, HRV.out], by rw [List.length_append, I1.out.len]; rfl, fun p hp => by
         rcases List.mem_append.1 hp with hp | hp
         ·exact I1.out.le p hp
         ·rw [List.mem_singleton] at hp
          subst hp
          have q1 := readSd_le I1.out.rd.ok
          rw [HD1.out] at q1
          have hk1 : RS.ok t1' := by have := readSd_ok I1.out.rd.ok; rw [HD1.out] at this; exact this
          have q2 := readSd_le hk1
          rw [HD2'.out] at q2
          exact ⟨q1, q2⟩⟩
       clear hr5 hg5 r6 b6 vo6 HPB HPSB HNB HSZ HPN HBA W1 HS1 HS2 m0 m1 m2 m3 m4 m5 m6 m7 m8 m9 v0
       go_wp2_with fail
       go_roundw
       case rel => exact ⟨k + 1, f2, _, _, _, by go_num, rfl, hlt, I6.out⟩
       case measure => simp [RowKit.intOf]; omega
    ·have hkn : k = n := by omega
     have HRE : Hid (readVw n s2 = (acc, f, t)) := Lib.hid (by
      have e1 := I1.out.e1
      have e2 := I1.out.e2
      have e3 := I1.out.e3
      rw [hkn, Nat.sub_self] at e1 e2 e3
      have e1' : acc = (readVw n s2).1 := by rw [← e1]; exact (List.append_nil _).symm
      have e2' : f = (readVw n s2).2.1 := by rw [← e2]; exact (Bool.and_true _).symm
      rw [e1', e2', show t = (readVw n s2).2.2 from e3])
     have HD3 : Hid ((dW, dV, dQ) = decT q (acc, f, t)) := Lib.hid (by rw [HD2.out, Int.toNat_natCast, HRE.out])
     have HB5 := Lib.hid (HB4.out.trans (I1.out.rd.bel.mono HB4.out.size))
     have HG5 := Lib.hid (HG4.out.below I1.out.rd.bel)
     clear HD2 HRE hkn
     cases f with
     | false =>
      have HR : Hid (dW = 12 ∧ dV = [] ∧ dQ = 0) := Lib.hid (by have h1 := HD3.out; rw [decT_fine] at h1; injection h1 with h1 h2; injection h2 with h2 h3; exact ⟨h1, h2, h3⟩)
      have g0 : wz.cell? ⟨g, 0, none⟩ = some (.slice none 0 0) := HG5.out.cell 0
      have z0 : wz.frozen? ⟨g, 0, none⟩ = false := HG5.out.frozen 0
      go_wp2_with fail
      clear g0 z0
      have k0 : (wz.setCell ⟨g, 0, none⟩ (.slice none 0 0)).cell? ⟨g, 0, none⟩ = some (.slice none 0 0) := (HG5.out.set_ 0 (.slice none 0 0)).cell 0
      have hbz := HB5.out.setCell (p := ⟨g, 0, none⟩) (Nat.le_of_eq HGG.out) (.slice none 0 0)
      refine bodyPost_ret (v := .tuple #[.agg #[.slice none 0 0], .int .i64 0, .int .i64 12]) (by simp [results, Try.results40, go_sem, k0]) rfl ⟨_, by rw [HR.out.1, HR.out.2.2], by rw [HR.out.2.1]; exact VO.nil _ _, hbz⟩
     | true =>
      have HE := Lib.hid (rend_any I1.out.rd)
      by_cases he : endP t = 0
      ·rw [he] at HE
       have HD4 : Hid ((dW, dV, dQ) = if rightV acc = true then (0, acc, q) else (12, [], 0)) := Lib.hid (by rw [HD3.out]; exact decT_right he)
       obtain ⟨av, cv, hvf⟩ := I1.out.vo.form
       subst hvf
       have v0 : wz.cell? ⟨g9, 0, none⟩ = some (.slice av acc.length cv) := I1.out.bx.cell 0
       have HVR := Lib.hid (vright_any I1.out.vo (by rw [I1.out.len]; have := HNN.out; omega) (fun p hp => ⟨Nat.le_trans (I1.out.le p hp).1 (by decide), Nat.le_trans (I1.out.le p hp).2 (by decide)⟩))
       obtain ⟨rv, hrv⟩ : ∃ rv, rightV acc = rv := ⟨_, rfl⟩
       rw [hrv] at HVR HD4
       clear he HD3 hrv
       go_wp2_with fail
       refine HE.out.mono ?_
       rintro e wa ⟨rfl, rfl⟩
       clear HE
       go_wp2_with fail
       refine HVR.out.mono ?_
       rintro e wa ⟨rfl, hb⟩
       have HB6 := Lib.hid (HB5.out.trans (hb.mono HB5.out.size))
       have HG6 := Lib.hid (HG5.out.below hb)
       have HV6 := Lib.hid (I1.out.vo.below hb)
       have HX6 := Lib.hid (I1.out.bx.below hb)
       clear hb HVR v0 HB5 HG5 I1
       cases rv with
       | false =>
        have HR : Hid (dW = 12 ∧ dV = [] ∧ dQ = 0) := Lib.hid (by have h1 := HD4.out; rw [if_neg (by decide)] at h1; injection h1 with h1 h2; injection h2 with h2 h3; exact ⟨h1, h2, h3⟩)
        have g0 : wa.cell? ⟨g, 0, none⟩ = some (.slice none 0 0) := HG6.out.cell 0
        have z0 : wa.frozen? ⟨g, 0, none⟩ = false := HG6.out.frozen 0
        go_wp2_with fail
        clear g0 z0
        have k0 : (wa.setCell ⟨g, 0, none⟩ (.slice none 0 0)).cell? ⟨g, 0, none⟩ = some (.slice none 0 0) := (HG6.out.set_ 0 (.slice none 0 0)).cell 0
        have hbz := HB6.out.setCell (p := ⟨g, 0, none⟩) (Nat.le_of_eq HGG.out) (.slice none 0 0)
        refine bodyPost_ret (v := .tuple #[.agg #[.slice none 0 0], .int .i64 0, .int .i64 12]) (by simp [results, Try.results40, go_sem, k0]) rfl ⟨_, by rw [HR.out.1, HR.out.2.2], by rw [HR.out.2.1]; exact VO.nil _ _, hbz⟩
       | true =>
        have HR : Hid (dW = 0 ∧ dV = acc ∧ dQ = q) := Lib.hid (by have h1 := HD4.out; rw [if_pos rfl] at h1; injection h1 with h1 h2; injection h2 with h2 h3; exact ⟨h1, h2, h3⟩)
        have v0 : wa.cell? ⟨g9, 0, none⟩ = some (.slice av acc.length cv) := HX6.out.cell 0
        have g0 : wa.cell? ⟨g, 0, none⟩ = some (.slice none 0 0) := HG6.out.cell 0
        have z0 : wa.frozen? ⟨g, 0, none⟩ = false := HG6.out.frozen 0
        go_wp2_with fail
        clear g0 z0 v0
        have k0 : (wa.setCell ⟨g, 0, none⟩ (.slice av acc.length cv)).cell? ⟨g, 0, none⟩ = some (.slice av acc.length cv) := (HG6.out.set_ 0 (.slice av acc.length cv)).cell 0
        have hbz := HB6.out.setCell (p := ⟨g, 0, none⟩) (Nat.le_of_eq HGG.out) (.slice av acc.length cv)
        have hvz := (HV6.out.keep (keep1 wa g 0 (.slice av acc.length cv)) (fun k hk e => hk.ne HG6.out.tyd (by decide) e) (fun k hk e => hk.ne HG6.out.tyd (by decide) e)).base HB4.out.size
        refine bodyPost_ret (v := .tuple #[.agg #[.slice av acc.length cv], .int .i64 q, .int .i64 0]) (by simp [results, Try.results40, go_sem, k0]) rfl ⟨_, by rw [HR.out.1, HR.out.2.2], by rw [HR.out.2.1]; exact hvz, hbz⟩
      ·have heb : (endP t != 0) = true := by simpa using he
       have HR : Hid (dW = 12 ∧ dV = [] ∧ dQ = 0) := Lib.hid (by have h1 := HD3.out; rw [decT_end he] at h1; injection h1 with h1 h2; injection h2 with h2 h3; exact ⟨h1, h2, h3⟩)
       clear he
       go_wp2_with fail
       refine HE.out.mono ?_
       rintro e wa ⟨rfl, rfl⟩
       clear HE
       have g0 : wz.cell? ⟨g, 0, none⟩ = some (.slice none 0 0) := HG5.out.cell 0
       have z0 : wz.frozen? ⟨g, 0, none⟩ = false := HG5.out.frozen 0
       go_wp2_with fail
       clear g0 z0
       have k0 : (wz.setCell ⟨g, 0, none⟩ (.slice none 0 0)).cell? ⟨g, 0, none⟩ = some (.slice none 0 0) := (HG5.out.set_ 0 (.slice none 0 0)).cell 0
       have hbz := HB5.out.setCell (p := ⟨g, 0, none⟩) (Nat.le_of_eq HGG.out) (.slice none 0 0)
       refine bodyPost_ret (v := .tuple #[.agg #[.slice none 0 0], .int .i64 0, .int .i64 12]) (by simp [results, Try.results40, go_sem, k0]) rfl ⟨_, by rw [HR.out.1, HR.out.2.2], by rw [HR.out.2.1]; exact VO.nil _ _, hbz⟩
end
end Go.Proofs.Ytmaijkoopjocdaa

/- The walk of viewer.Viewer's Snap. -/
namespace Go.Proofs.Ytmaijkoopjocdaa
open Go.RowKit Go.Lib

set_option maxRecDepth 20000 in
set_option maxHeartbeats 16000000 in
theorem vsnap_any {W w : World} {pv n : Nat} {hv : Value} {s : LSt} {cc : Nat} (h : VW W w pv n hv s) (hk : SOk n cc s) (hcc : cc ≤ 500000) {v : Value} {b : List Int} (hsl : BYL.Sl w v b) (hl : b.length ≤ 900000) (hok : ∀ z ∈ b, isByte z) :
  Calls Try.prog 12 #[.pointer (some ⟨pv, 0, none⟩), v] w fun e w' => e = .returned (.int .i64 (snapP n s b).1) ∧ ∃ hv', VW W w' pv n hv' (snapP n s b).2 ∧ Keeps (FV pv hv) w w' ∧ ∀ g, hv'.ownBlock = some g → hv.ownBlock = some g ∨ w.heap.size ≤ g := by
 have hdec := sdec_any hsl hl hok
 obtain ⟨dW, dV, dQ, hD⟩ : ∃ x y z, decS b = (x, y, z) := ⟨_, _, _, rfl⟩
 rw [hD] at hdec
 obtain ⟨rS, hrS⟩ : ∃ r, snapP n s b = r := ⟨_, rfl⟩
 have HSP : Hid (rS = if dW ≠ 0 then (dW, s) else if dV.length ≠ n ∨ dQ < 0 then (12, s) else if dQ < s.seq then (33, s) else (0, followP s.H dV dQ)) := Lib.hid (by rw [← hrS]; unfold snapP; rw [hD])
 rw [hrS]
 have HD := Lib.hid hD
 have HDEC := Lib.hid hdec
 have H0 := Lib.hid h
 have HOK := Lib.hid hk
 clear hdec hD h hk hsl hok hrS
 go_enter Try.func12, Try.ntmps12
 go_wp2_with fail
 refine HDEC.out.mono ?_
 rintro e w1 ⟨u, rfl, hvo, hb⟩
 obtain ⟨a, c, rfl⟩ := hvo.form
 go_upto_region 2 with (fail)
 have hba := Below.allocN w1 (.cells #[.slice a dV.length c] 50)
 have hgx : Blk (w1.alloc (.cells #[.slice a dV.length c] 50)) w1.heap.size 50 #[.slice a dV.length c] := Blk.new _ _ _
 have HVO := Lib.hid ((hvo.below hba).base H0.out.bel.size)
 have HB2 := Lib.hid (hb.trans (hba.mono hb.size))
 obtain ⟨gx, hgg⟩ : ∃ g, w1.heap.size = g := ⟨_, rfl⟩
 rw [hgg] at hgx ⊢
 have HGX := Lib.hid hgx
 clear hba hgx hgg hvo hb HDEC
 generalize w1.alloc (.cells #[.slice a dV.length c] 50) = w2 at *
 have V2 := Lib.hid (H0.out.below HB2.out)
 have HSAME : Hid (∀ wx : World, Below w2.heap.size w2 wx → VW W wx pv n hv s ∧ Keeps (FV pv hv) w wx ∧ ∀ g, hv.ownBlock = some g → hv.ownBlock = some g ∨ w.heap.size ≤ g) := Lib.hid fun wx hb => ⟨V2.out.below hb, Below.keeps (HB2.out.trans (hb.mono HB2.out.size)), fun g hg => .inl hg⟩
 by_cases hw : dW = 0
 ·subst hw
  have HDO := Lib.hid (decS_ok HD.out)
  obtain ⟨a2, c2, hbx, _⟩ := V2.out.box
  have BX := Lib.hid hbx
  have k0 : w2.cell? ⟨pv, 0, none⟩ = some (.int .i64 n) := hbx.cell 0
  have v0 : w2.cell? ⟨gx, 0, none⟩ = some (.slice a dV.length c) := HGX.out.cell 0
  clear hbx
  by_cases hln : dV.length = n
  ·rw [hln] at v0 HGX
   by_cases hq0 : dQ < 0
   ·have hq0d : decide (dQ < 0) = true := decide_eq_true hq0
    have HR : Hid (rS = (12, s)) := Lib.hid (by rw [HSP.out, if_neg (fun h => h rfl), if_pos (.inr hq0)])
    clear hq0 hln
    go_upto_region 4 with (fail)
    go_quiet (fail)
    have hsm := HSAME.out _ (Below.drewN_of w2 nq)
    go_wp2_with fail
    go_ret
    exact ⟨by rw [HR.out]; try rfl, _, by rw [HR.out]; exact hsm.1, hsm.2⟩
   ·have hq0d : decide (dQ < 0) = false := decide_eq_false hq0
    have k2 : w2.cell? ⟨pv, 2, none⟩ = some (.int .i64 s.seq) := BX.out.cell 2
    by_cases hqs : dQ < s.seq
    ·have HR : Hid (rS = (33, s)) := Lib.hid (by rw [HSP.out, if_neg (fun h => h rfl), if_neg (by rintro (h | h); exact h hln; exact hq0 h), if_pos hqs])
     have hqsd : decide (dQ < s.seq) = true := decide_eq_true hqs
     clear hq0 hln hqs
     go_upto_region 4 with (fail)
     go_quiet (fail)
     have hsm := HSAME.out _ (Below.drewN_of w2 nq)
     go_wp2_with fail
     go_ret
     exact ⟨by rw [HR.out]; try rfl, _, by rw [HR.out]; exact hsm.1, hsm.2⟩
    ·have HR : Hid (rS = (0, followP s.H dV dQ)) := Lib.hid (by rw [HSP.out, if_neg (fun h => h rfl), if_neg (by rintro (h | h); exact h hln; exact hq0 h), if_neg hqs])
     have hqsd : decide (dQ < s.seq) = false := decide_eq_false hqs
     have HLN := Lib.hid hln
     have HQ0 : Hid (0 ≤ dQ) := Lib.hid (by omega)
     clear hq0 hln hqs
     go_upto_region 4 with (fail)
     go_quiet (fail)
     have hb3 := Below.drewN_of w2 nq
     have HB3 := Lib.hid (HB2.out.trans (hb3.mono HB2.out.size))
     have V3 := Lib.hid (V2.out.below hb3)
     have BX3 := Lib.hid (BX.out.below hb3)
     have HVO3 := Lib.hid (HVO.out.below hb3)
     have HGX3 := Lib.hid (HGX.out.below hb3)
     clear hb3 k0 v0 k2
     have k0 : (w2.drewN nq).cell? ⟨pv, 0, none⟩ = some (.int .i64 n) := BX3.out.cell 0
     have k2 : (w2.drewN nq).cell? ⟨pv, 2, none⟩ = some (.int .i64 s.seq) := BX3.out.cell 2
     have v0 : (w2.drewN nq).cell? ⟨gx, 0, none⟩ = some (.slice a n c) := HGX3.out.cell 0
     have k1 : (w2.drewN nq).cell? ⟨pv, 1, none⟩ = some (.slice a2 s.V.length c2) := BX3.out.cell 1
     have zf : ∀ o, (w2.drewN nq).frozen? ⟨pv, o, none⟩ = false := fun o => BX3.out.frozen o
     go_upto_region 9 with (fail)
     have hv4 := V3.out.view_ HVO3.out
     have hv5 := hv4.seq_ dQ
     rw [HLN.out] at hv5
     have hk5 : Keeps (FV pv hv) w (((w2.drewN nq).setCell ⟨pv, 1, none⟩ (.slice a n c)).setCell ⟨pv, 2, none⟩ (.int .i64 dQ)) := ((Below.keeps HB3.out).setCell (p := ⟨pv, 1, none⟩) (fun _ => .inl rfl) _).setCell (p := ⟨pv, 2, none⟩) (fun _ => .inl rfl) _
     have V5 := Lib.hid hv5
     have K5 := Lib.hid hk5
     have HFO := Lib.hid (follow_any hv5 (by have := HDO.out.2.2.1; exact this) ⟨255, HDO.out.2.1, by have := HOK.out.hl; dsimp only; omega⟩ HDO.out.1 (by intro m hm; have := HOK.out.hh m hm; dsimp only; rw [HLN.out]; exact this) HQ0.out HDO.out.2.2.2.2)
     have SZ : Hid (w.heap.size ≤ (((w2.drewN nq).setCell ⟨pv, 1, none⟩ (.slice a n c)).setCell ⟨pv, 2, none⟩ (.int .i64 dQ)).heap.size) := Lib.hid hk5.size
     clear hv4 hv5 hk5 k0 k1 k2 v0 zf V3 BX3 HVO3 HGX3 HB3
     generalize ((w2.drewN nq).setCell ⟨pv, 1, none⟩ (.slice a n c)).setCell ⟨pv, 2, none⟩ (.int .i64 dQ) = w5 at *
     go_wp2_with fail
     refine HFO.out.mono ?_
     rintro e w6 ⟨rfl, hv', hvw, hk6, hfr⟩
     have K6 := Lib.hid (K5.out.step hk6 (fun i _ he => .inl he))
     have V6 := Lib.hid hvw
     have F6 := Lib.hid hfr
     clear hvw hk6 hfr HFO
     go_wp2_with fail
     go_ret
     exact ⟨by rw [HR.out]; try rfl, hv', by rw [HR.out]; exact V6.out, K6.out, fun g hg => by rcases F6.out g hg with h | h; exact .inl h; exact .inr (Nat.le_trans SZ.out h)⟩
  ·have hlnb : ((dV.length : Int) != (n : Int)) = true := by rw [bne_iff_ne]; omega
   have HR : Hid (rS = (12, s)) := Lib.hid (by rw [HSP.out, if_neg (fun h => h rfl), if_pos (.inl hln)])
   go_upto_region 4 with (fail)
   go_quiet (fail)
   have hsm := HSAME.out _ (Below.drewN_of w2 nq)
   go_wp2_with fail
   go_ret
   exact ⟨by rw [HR.out]; try rfl, _, by rw [HR.out]; exact hsm.1, hsm.2⟩
 ·have hwb : (dW != 0) = true := by simpa using hw
  have HR : Hid (rS = (dW, s)) := Lib.hid (by rw [HSP.out, if_pos hw])
  have hsm := HSAME.out _ (Below.refl _ _)
  clear hw
  go_wp2_with fail
  go_ret
  exact ⟨by rw [HR.out]; try rfl, _, by rw [HR.out]; exact hsm.1, hsm.2⟩
end Go.Proofs.Ytmaijkoopjocdaa
