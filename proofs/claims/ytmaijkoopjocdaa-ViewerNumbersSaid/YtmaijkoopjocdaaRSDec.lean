/- The walk of cornhillref20.Decode. -/
import Derived.Test.YtmaijkoopjocdaaGQ
import Derived.Test.YtmaijkoopjocdaaRRight
import Derived.Deep.DeepCutAuto
namespace Go.Proofs.Ytmaijkoopjocdaa
open Go.RowKit Go.Lib

theorem or32 {k : Nat} (hk : k < 4) {y z : Int} (hy : 0 ≤ y) (hy2 : y < 256 ^ k) (hz : isByte z) : bits .or .u32 y (z * 256 ^ k) = y + z * 256 ^ k := by
 have e : (256 : Int) ^ k = 2 ^ (8 * k) := by rw [Int.pow_mul]; rfl
 unfold isByte at hz
 have hp : (0 : Int) < 2 ^ (8 * k) := Int.pow_pos (by decide)
 have h24 : (2 : Int) ^ (8 * k) ≤ 2 ^ 24 := by exact_mod_cast Nat.pow_le_pow_right (n := 2) (by decide) (show 8 * k ≤ 24 by omega)
 have hz1 : 0 ≤ z * 2 ^ (8 * k) := Int.mul_nonneg hz.1 (Int.le_of_lt hp)
 have hz2 : z * 2 ^ (8 * k) ≤ 255 * 2 ^ (8 * k) := Int.mul_le_mul_of_nonneg_right hz.2 (Int.le_of_lt hp)
 have h32 : (2 : Int) ^ 32 = 256 * 2 ^ 24 := by decide
 rw [e] at hy2 ⊢
 exact bits_join_low .u32 32 (by decide) wraps_u32 (8 * k) y (z * 2 ^ (8 * k)) hy hy2 (by omega) hz1 (Int.mul_emod_left _ _) (by omega)
theorem or4 {a b c d : Int} (ha : isByte a) (hb : isByte b) (hc : isByte c) (hd : isByte d) : bits .or .u32 (bits .or .u32 (bits .or .u32 a (b * 256)) (c * 65536)) (d * 16777216) = leZ [a, b, c, d] := by
 have e1 := or32 (k := 1) (by decide) ha.1 (by have := ha.2; omega) hb
 rw [show (256 : Int) ^ 1 = 256 by decide] at e1
 have e2 := or32 (k := 2) (by decide) (y := a + b * 256) (by have := ha.1; have := hb.1; omega) (by have := ha.2; have := hb.2; omega) hc
 rw [show (256 : Int) ^ 2 = 65536 by decide] at e2
 have e3 := or32 (k := 3) (by decide) (y := a + b * 256 + c * 65536) (by have := ha.1; have := hb.1; have := hc.1; omega) (by have := ha.2; have := hb.2; have := hc.2; omega) hd
 rw [show (256 : Int) ^ 3 = 16777216 by decide] at e3
 rw [e1, e2, e3]
 simp only [leZ]
 omega
section
variable {w w' : World}
set_option maxRecDepth 20000 in
set_option maxHeartbeats 32000000 in
theorem rsdec_any {v : Value} {bs : List Int} (h : BYL.Sl w v bs) (hl : bs.length ≤ 900000) (hok : ∀ z ∈ bs, isByte z) :
  Calls Try.prog 41 #[v] w fun e w' => ∃ u, e = .returned (.tuple #[.agg #[u], .int .i64 (decS bs).2.2, .int .i64 (decS bs).1]) ∧ VO RPR RLV w' w.heap.size u (decS bs).2.1 ∧ Below w.heap.size w w' := by
 obtain ⟨a, c, rfl, ho, hrd⟩ := h
 have hba := Below.allocN w (.cells #[.slice none 0 0] 44)
 have HG : Hid (Blk (w.alloc (.cells #[.slice none 0 0] 44)) w.heap.size 44 #[.slice none 0 0]) := Lib.hid (Blk.new _ _ _)
 have HB := Lib.hid hba
 have HRD := Lib.hid (hrd.below hba)
 have HRL : Hid (∀ b off, a = some ⟨b, off, none⟩ → bs ≠ [] → b < w.heap.size) := Lib.hid (fun b off e hx => by
  obtain ⟨x, t, hx2⟩ : ∃ x t, bs = x :: t := by cases bs with | nil => exact absurd rfl hx | cons x t => exact ⟨x, t, rfl⟩
  obtain ⟨b2, off2, e3, e4, _⟩ := hrd 0 x (by rw [hx2]; rfl)
  rw [e] at e3; injection e3 with e3; injection e3 with e3; omega)
 have HL := Lib.hid hl
 have HOK := Lib.hid hok
 obtain ⟨n, hn⟩ : ∃ n, bs.length = n := ⟨_, rfl⟩
 rw [hn] at ho ⊢ hl
 clear hba hrd hok
 obtain ⟨dW, dV, dQ, hD⟩ : ∃ x y z, decS bs = (x, y, z) := ⟨_, _, _, rfl⟩
 rw [hD]
 have HD := Lib.hid hD
 have HN := Lib.hid hn
 clear hD hn
 by_cases hs : n < 4
 ·have y1 : IntKind.i64.wrap ((n : Int) - 4) = (n : Int) - 4 := IntWalk.i64_in _ (by omega)
  have y2 : (n : Int) - 4 < 0 := by omega
  have y3 : (n : Int) < 4 := by omega
  have HR : Hid (dW = 14 ∧ dV = [] ∧ dQ = 0) := Lib.hid (by have h1 := decS_short (b := bs) (by rw [HN.out]; exact hs); rw [HD.out] at h1; injection h1 with h1 h2; injection h2 with h2 h3; exact ⟨h1, h2, h3⟩)
  clear ho hs
  go_enter Try.func41, Try.ntmps41
  go_upto_region 1 with (fail)
  obtain ⟨g, hg⟩ : ∃ g, w.heap.size = g := ⟨_, rfl⟩
  have HGG := Lib.hid hg
  rw [hg] at HG ⊢
  clear hg
  generalize w.alloc (.cells #[.slice none 0 0] 44) = w1 at *
  have g0 : w1.cell? ⟨g, 0, none⟩ = some (.slice none 0 0) := HG.out.cell 0
  have z0 : w1.frozen? ⟨g, 0, none⟩ = false := HG.out.frozen 0
  go_wp2_with fail
  clear g0 z0
  have k0 : (w1.setCell ⟨g, 0, none⟩ (.slice none 0 0)).cell? ⟨g, 0, none⟩ = some (.slice none 0 0) := (HG.out.set_ 0 (.slice none 0 0)).cell 0
  have hbz := HB.out.setCell (p := ⟨g, 0, none⟩) (Nat.le_of_eq HGG.out) (.slice none 0 0)
  refine bodyPost_ret (v := .tuple #[.agg #[.slice none 0 0], .int .i64 0, .int .i64 14]) (by simp [results, Try.results41, go_sem, k0]) rfl ⟨_, by rw [HR.out.1, HR.out.2.2], by rw [HR.out.2.1]; exact VO.nil _ _, hbz⟩
 ·obtain ⟨m, rfl⟩ : ∃ m, n = m + 4 := ⟨n - 4, by omega⟩
  have hmc : m ≤ c := by have := ho.2.2; omega
  obtain ⟨b, off, rfl⟩ : ∃ b off, a = some ⟨b, off, none⟩ := by
   cases a with
   | none => have := (ho.1 rfl).1; omega
   | some ad => obtain ⟨b, off, rfl⟩ := ho.2.1 ad rfl; exact ⟨b, off, rfl⟩
  have HSO := Lib.hid ho
  have y1 : ((m + 4 : Nat) : Int) - 4 = (m : Int) := by omega
  have y2 : IntKind.i64.wrap (m : Int) = (m : Int) := IntWalk.i64_in _ (by omega)
  have y3 : ¬ ((m : Int) < 0) := by omega
  have y4 : m ≤ m + 4 := by omega
  have y5 : ¬ c = m := by have := ho.2.2; omega
  have y7 : (m : Int) ≤ (m : Int) + 4 := by omega
  have y6 : m + 4 ≤ c := by have := ho.2.2; omega
  have y8 : ¬ ((m : Int) + 4 < 4) := by omega
  have hdl : (bs.drop m).length = 4 := by rw [List.length_drop, HN.out]; omega
  obtain ⟨s0, s1, s2, s3, hss⟩ : ∃ s0 s1 s2 s3, bs.drop m = [s0, s1, s2, s3] := by
   match bs.drop m, hdl with
   | [s0, s1, s2, s3], _ => exact ⟨s0, s1, s2, s3, rfl⟩
  have hOD : ∀ z ∈ bs.drop m, isByte z := fun z hz => HOK.out z (List.mem_of_mem_drop hz)
  rw [hss] at hOD
  have b0 := hOD s0 (by simp)
  have b1 := hOD s1 (by simp)
  have b2 := hOD s2 (by simp)
  have b3 := hOD s3 (by simp)
  have HOR := Lib.hid (or4 b0 b1 b2 b3)
  have w0 : IntKind.u32.wrap s0 = s0 := wraps_u32 s0 b0.1 (by have := b0.2; omega)
  have w1' : IntKind.u32.wrap s1 = s1 := wraps_u32 s1 b1.1 (by have := b1.2; omega)
  have w2' : IntKind.u32.wrap s2 = s2 := wraps_u32 s2 b2.1 (by have := b2.2; omega)
  have w3' : IntKind.u32.wrap s3 = s3 := wraps_u32 s3 b3.1 (by have := b3.2; omega)
  have v1 : IntKind.u32.wrap (s1 * 256) = s1 * 256 := wraps_u32 _ (by have := b1.1; omega) (by have := b1.2; omega)
  have v2 : IntKind.u32.wrap (s2 * 65536) = s2 * 65536 := wraps_u32 _ (by have := b2.1; omega) (by have := b2.2; omega)
  have v3 : IntKind.u32.wrap (s3 * 16777216) = s3 * 16777216 := wraps_u32 _ (by have := b3.1; omega) (by have := b3.2; omega)
  have HSS := Lib.hid hss
  have HSB : Hid (isByte s0 ∧ isByte s1 ∧ isByte s2 ∧ isByte s3) := Lib.hid ⟨b0, b1, b2, b3⟩
  clear ho hs b0 b1 b2 b3 hOD hdl hss
  go_enter Try.func41, Try.ntmps41
  go_upto_region 1 with (fail)
  obtain ⟨g, hg⟩ : ∃ g, w.heap.size = g := ⟨_, rfl⟩
  have HGG := Lib.hid hg
  rw [hg] at HG ⊢
  clear hg
  generalize w.alloc (.cells #[.slice none 0 0] 44) = w1 at *
  have hcell : ∀ j z, (bs.drop m)[j]? = some z → w1.cell? ⟨b, off + m + j, none⟩ = some (.int .u8 z) := fun j z hz => by
   rw [List.getElem?_drop] at hz
   obtain ⟨b', off', he, _, hc⟩ := HRD.out (m + j) z hz
   injection he with he
   injection he with h1 h2
   subst h1; subst h2
   have := hc.one
   rw [show off + (m + j) * BYL.m = off + m + j by show off + (m + j) * 1 = _; omega] at this
   exact this
  rw [HSS.out] at hcell
  have x0 := hcell 0 s0 rfl
  have x1 := hcell 1 s1 rfl
  have x2 := hcell 2 s2 rfl
  have x3 := hcell 3 s3 rfl
  rw [Nat.add_zero] at x0
  have hsl : BYL.Sl w1 (.slice (some ⟨b, off, none⟩) m c) (bs.take m) := ⟨_, _, by rw [List.length_take, HN.out, Nat.min_eq_left (by omega)], ⟨fun h => (by cases h), fun ad h => ⟨b, off, by injection h with h; exact h.symm⟩, by rw [List.length_take, HN.out]; omega⟩, HRD.out.take m⟩
  have HOT : Hid (∀ z ∈ bs.take m, isByte z) := Lib.hid fun z hz => HOK.out z (List.mem_of_mem_take hz)
  have HTL : Hid ((bs.take m).length = m) := Lib.hid (by rw [List.length_take, HN.out]; omega)
  obtain ⟨cz, hcz⟩ : ∃ cz, crcP (bs.take m) = cz := ⟨_, rfl⟩
  have HCR := Lib.hid fun n => (rcrc_any (hsl.below (Below.drewN_of w1 n)) (by rw [HTL.out]; omega) HOT.out).mono fun e w' (h : e = .returned (.int .u32 (crcP (bs.take m))) ∧ w1.drewN n = w') => (⟨h.1, h.2.symm⟩ : e = .returned (.int .u32 (crcP (bs.take m))) ∧ w' = w1.drewN n)
  rw [hcz] at HCR
  have HCZ := Lib.hid hcz
  have HSL := Lib.hid hsl
  clear hcell hsl hcz
  go_upto_region 5 with (fail)
  have HCD : Hid (decide (le4 cz = bs.drop m) = decide (cz = leZ [s0, s1, s2, s3])) := Lib.hid (by
   rw [HSS.out]
   exact decide_eq_decide.2 (le4_eq (by rw [← HCZ.out]; exact bits_u32r _ _ _) (by intro z hz; simp only [List.mem_cons, List.not_mem_nil, or_false] at hz; rcases hz with rfl | rfl | rfl | rfl; exact HSB.out.1; exact HSB.out.2.1; exact HSB.out.2.2.1; exact HSB.out.2.2.2) rfl))
  obtain ⟨dd, hdd⟩ : ∃ d, decide (cz = leZ [s0, s1, s2, s3]) = d := ⟨_, rfl⟩
  have HT : Hid ((cz != bits .or .u32 (bits .or .u32 (bits .or .u32 s0 (s1 * 256)) (s2 * 65536)) (s3 * 16777216)) = !dd) := Lib.hid (by
   rw [HOR.out, ← hdd]
   by_cases h : cz = leZ [s0, s1, s2, s3]
   ·rw [decide_eq_true h, ← h, bne_self_eq_false]; rfl
   ·rw [decide_eq_false h, bne_iff_ne.2 h]; rfl)
  have HDD : Hid (decide (le4 cz = bs.drop m) = dd) := Lib.hid (HCD.out.trans hdd)
  clear hdd HCD
  go_quiet ((go_at_call 39; exact Calls.quiet_of_same (HCR.out _)))
  rw [HT.out]
  have HB2 := Lib.hid (HB.out.trans ((Below.drewN_of w1 nq).mono HB.out.size))
  have HG2 := Lib.hid (HG.out.below (Below.drewN_of w1 nq))
  have HRD2 := Lib.hid (HRD.out.below (Below.drewN_of w1 nq))
  clear HB HG HRD HSL HCR HT HOR HSB x0 x1 x2 x3 w0 w1' w2' w3' v1 v2 v3
  generalize w1.drewN nq = w2 at *
  cases dd with
  | false =>
   have HR : Hid (dW = 14 ∧ dV = [] ∧ dQ = 0) := Lib.hid (by have h1 := decS_sum HN.out (by have := of_decide_eq_false HDD.out; rwa [← HCZ.out] at this); rw [HD.out] at h1; injection h1 with h1 h2; injection h2 with h2 h3; exact ⟨h1, h2, h3⟩)
   have g0 : w2.cell? ⟨g, 0, none⟩ = some (.slice none 0 0) := HG2.out.cell 0
   have z0 : w2.frozen? ⟨g, 0, none⟩ = false := HG2.out.frozen 0
   go_wp2_with fail
   clear g0 z0
   have k0 : (w2.setCell ⟨g, 0, none⟩ (.slice none 0 0)).cell? ⟨g, 0, none⟩ = some (.slice none 0 0) := (HG2.out.set_ 0 (.slice none 0 0)).cell 0
   have hbz := HB2.out.setCell (p := ⟨g, 0, none⟩) (Nat.le_of_eq HGG.out) (.slice none 0 0)
   refine bodyPost_ret (v := .tuple #[.agg #[.slice none 0 0], .int .i64 0, .int .i64 14]) (by simp [results, Try.results41, go_sem, k0]) rfl ⟨_, by rw [HR.out.1, HR.out.2.2], by rw [HR.out.2.1]; exact VO.nil _ _, hbz⟩
  | true =>
   obtain ⟨q, t1, h1⟩ : ∃ p t, (⟨bs.take m, false⟩ : RS).long = (p, t) := ⟨_, _, rfl⟩
   obtain ⟨nz, t2, h2⟩ : ∃ p t, t1.num 1 = (p, t) := ⟨_, _, rfl⟩
   have HD2 := Lib.hid (HD.out.symm.trans (decS_eqR HN.out (by have := of_decide_eq_true HDD.out; rwa [← HCZ.out] at this) h1 h2))
   have H1 := Lib.hid h1
   have H2 := Lib.hid h2
   have hba := Below.allocN w2 (.cells #[.slice (some ⟨b, off, none⟩) m c, .int .i64 0, .int .i64 0] 111)
   have hr : RR4 w (w2.alloc (.cells #[.slice (some ⟨b, off, none⟩) m c, .int .i64 0, .int .i64 0] 111)) w2.heap.size ⟨bs.take m, false⟩ :=
    ⟨⟨some ⟨b, off, none⟩, c, bs.take m, 0, by rw [HTL.out]; exact Blk.new _ _ _, by rw [HTL.out]; exact ⟨fun h => (by cases h), fun ad h => ⟨b, off, by injection h with h; exact h.symm⟩, by omega⟩, by rw [HTL.out]; omega, (HRD2.out.below hba).take m, fun b' off' e hx => HRL.out b' off' e (by rintro rfl; exact hx List.take_nil), Nat.zero_le _, rfl, by rw [HTL.out]; have := HL.out; rw [HN.out] at this; omega⟩, HB2.out.size, HB2.out.trans (hba.mono HB2.out.size), HOT.out⟩
   have R0 := Lib.hid hr
   have HG3 := Lib.hid (HG2.out.below hba)
   have HWP : Hid (w.heap.size ≤ w2.heap.size) := Lib.hid HB2.out.size
   have NPG : Hid (g < w2.heap.size) := Lib.hid HG2.out.lt
   go_upto_region 8 with (fail)
   obtain ⟨pr, hpr⟩ : ∃ g, w2.heap.size = g := ⟨_, rfl⟩
   rw [hpr] at R0 HWP NPG ⊢
   clear h1 h2 hba hr hpr HG2 HB2 HRD2 HDD HCZ HSO HD HSS
   generalize w2.alloc (.cells #[.slice (some ⟨b, off, none⟩) m c, .int .i64 0, .int .i64 0] 111) = w5 at *
   go_wp2_with fail
   refine (long4_eq R0.out H1.out).mono ?_
   rintro e w6 ⟨rfl, hr, hk⟩
   have R6 := Lib.hid hr
   have HG6 := Lib.hid (HG3.out.keeps hk (by have := NPG.out; omega))
   have hb7 := Below.allocN w6 (.cells #[.slice none 0 0] 44)
   have hg9 : Blk (w6.alloc (.cells #[.slice none 0 0] 44)) w6.heap.size 44 #[.slice none 0 0] := Blk.new _ _ _
   have N9 : Hid (pr < w6.heap.size ∧ w.heap.size ≤ w6.heap.size ∧ w.heap.size ≤ pr ∧ g < w6.heap.size ∧ g < pr) := Lib.hid ⟨R6.out.lt, R6.out.bel.size, R6.out.base, HG6.out.lt, NPG.out⟩
   have R7 := Lib.hid (R6.out.below hb7)
   have HG7 := Lib.hid (HG6.out.below hb7)
   go_upto_region 11 with (fail)
   obtain ⟨g9, hgg⟩ : ∃ g, w6.heap.size = g := ⟨_, rfl⟩
   rw [hgg] at hg9 N9 ⊢
   have G9 := Lib.hid hg9
   clear hr hk R0 hb7 hg9 hgg R6 HG3 HG6 NPG
   generalize w6.alloc (.cells #[.slice none 0 0] 44) = w7 at *
   go_wp2_with fail
   have hbr := RS.byte_range R7.out.ok
   rw [H2.out] at hbr
   refine (byte4_eq R7.out H2.out).mono ?_
   rintro e w8 ⟨rfl, hr, hk⟩
   obtain ⟨n, rfl⟩ : ∃ n : Nat, nz = n := ⟨nz.toNat, by omega⟩
   have HNN : Hid (n ≤ 255) := Lib.hid (by omega)
   have I0 : Hid (RvI w w8 pr g9 n t2 n (.slice none 0 0) true [] t2) := Lib.hid ⟨hr, G9.out.keeps hk (by have := N9.out; omega), VO.nil _ _, rfl, by rw [Bool.true_and], rfl, by rw [List.length_nil]; omega, fun p hp => by cases hp⟩
   have K8 : Hid (Blk w8 g 44 #[.slice none 0 0]) := Lib.hid (HG7.out.keeps hk (by have := N9.out; omega))
   clear hr hk R7 G9 hbr HG7
   go_wp2_with fail
   go_loopw [11, 10] (fun i f w' => ∃ (m : Nat) (f' : Bool) (v : Value) (acc : Vw) (t : RS), i = .int .i64 m ∧ f = .bool f' ∧ RvI w w' pr g9 n t2 m v f' acc t ∧ Blk w' g 44 #[.slice none 0 0]) (fun i _ _ => (RowKit.intOf i).toNat)
   case atStart => exact ⟨n, true, _, _, _, rfl, rfl, I0.out, K8.out⟩
   case round =>
    clear I0 K8
    obtain ⟨mm, f, v, acc, t, rfl, rfl, hI, hG⟩ := hrel
    obtain ⟨wz, rfl⟩ : ∃ wo : World, wo = wr := ⟨_, rfl⟩
    have I1 := Lib.hid hI
    have HG1 := Lib.hid hG
    have hwy := hI.rd.why
    clear hI hG
    obtain ⟨bb, hbb⟩ : ∃ bb, (decide (0 < mm) && !t.bad) = bb := ⟨_, rfl⟩
    have HBB := Lib.hid hbb
    go_upto_region 12 with (fail)
    go_cut [71] (fun u wx => u = .bool bb ∧ wz = wx)
    case first =>
     cases hmm : decide (0 < mm) with
     | true =>
      have q0 : (0 : Int) < (mm : Int) := by have := of_decide_eq_true hmm; omega
      cases hbd : t.bad with
      | true =>
       rw [whyP_true hbd] at hwy
       rw [hmm, hbd] at hbb
       clear hmm hbd
       subst hbb
       go_wp2_with fail
       go_meet
       exact ⟨by rfl, rfl⟩
      | false =>
       rw [whyP_false hbd] at hwy
       rw [hmm, hbd] at hbb
       clear hmm hbd
       subst hbb
       go_wp2_with fail
       go_meet
       exact ⟨by rfl, rfl⟩
     | false =>
      have q0 : ¬ (0 : Int) < (mm : Int) := by have := of_decide_eq_false hmm; omega
      rw [hmm, Bool.false_and] at hbb
      clear hmm
      subst hbb
      go_wp2_with fail
      go_meet
      exact ⟨by rfl, rfl⟩
    case rest =>
    obtain ⟨rfl, rfl⟩ := hcut
    clear hwy
    cases bb with
    | true =>
     have hm1 : 0 < mm := by have := HBB.out; rw [Bool.and_eq_true] at this; exact of_decide_eq_true this.1
     have hbf : t.bad = false := by have := HBB.out; rw [Bool.and_eq_true] at this; simpa using this.2
     obtain ⟨mk, hmk⟩ : ∃ k, mm = k + 1 := ⟨mm - 1, by omega⟩
     have HMK := Lib.hid hmk
     obtain ⟨d1, ok1, t1', hd1⟩ : ∃ a b c, readSdR t = (a, b, c) := ⟨_, _, _, rfl⟩
     obtain ⟨d2, ok2, t2', hd2⟩ : ∃ a b c, readSdR t1' = (a, b, c) := ⟨_, _, _, rfl⟩
     have HRV : Hid (readVwR mm t = ((d1, d2) :: (readVwR mk t2').1, (ok1 && ok2 && (readVwR mk t2').2.1), (readVwR mk t2').2.2)) := Lib.hid (by rw [hmk, vwR_step mk hbf]; simp only [hd1, hd2])
     have HD1 := Lib.hid hd1
     have HD2' := Lib.hid hd2
     clear hd1 hd2 hbb HBB hm1 hbf hmk
     have hba := Below.allocN wz (.cells zeroPr.cells.toArray 82)
     have hgo : Blk (wz.alloc (.cells zeroPr.cells.toArray 82)) wz.heap.size 82 zeroPr.cells.toArray := Blk.new _ _ _
     have hw0 : RwI w (wz.alloc (.cells zeroPr.cells.toArray 82)) pr g9 wz.heap.size v acc zeroSh zeroSh t := ⟨I1.out.rd.below hba, I1.out.bx.below hba, I1.out.vo.below hba, fun g hg e => by obtain ⟨P, hP, _⟩ := I1.out.vo; have := own_lt hP g hg; omega, hgo⟩
     have N11 : Hid (g9 ≠ wz.heap.size ∧ pr ≠ wz.heap.size ∧ w.heap.size ≤ wz.heap.size ∧ g < wz.heap.size) := Lib.hid ⟨by have := I1.out.bx.lt; omega, by have := I1.out.rd.lt; omega, I1.out.rd.bel.size, HG1.out.lt⟩
     have W0 := Lib.hid hw0
     have HG2 := Lib.hid (HG1.out.below hba)
     clear hba hgo hw0 HG1
     unfold zeroPr Pr.cells zeroSh zeroLv at W0 HG2
     dsimp only at W0 HG2
     go_upto_region 15 with (fail)
     obtain ⟨g11, hg11⟩ : ∃ g, wz.heap.size = g := ⟨_, rfl⟩
     rw [hg11] at W0 N11 ⊢
     clear hg11
     generalize wz.alloc _ = w9 at *
     go_wp2_with fail
     go_loopw [13, 10] (fun i f0 w' => ∃ (j : Nat) (x y : Sh) (f' : Bool) (t' : RS), i = .int .i64 j ∧ f0 = .bool f' ∧ RwI w w' pr g9 g11 v acc x y t' ∧ Blk w' g 44 #[.slice none 0 0] ∧
      ((j = 0 ∧ f = f' ∧ t = t' ∧ x = zeroSh ∧ y = zeroSh) ∨ (j = 1 ∧ (f && ok1) = f' ∧ t1' = t' ∧ y = zeroSh ∧ ShO RLV w' w.heap.size x d1) ∨ (j = 2 ∧ (f && ok1 && ok2) = f' ∧ t2' = t' ∧ ShO RLV w' w.heap.size x d1 ∧ ShO RLV w' w.heap.size y d2))) (fun i _ _ => 2 - (RowKit.intOf i).toNat)
     case atStart => exact ⟨0, _, _, f, t, rfl, rfl, W0.out, HG2.out, .inl ⟨rfl, rfl, rfl, rfl, rfl⟩⟩
     case round =>
      clear W0 HG2
      obtain ⟨j, x, y, f', t', rfl, rfl, hW, hG2, hc⟩ := hrel
      obtain ⟨wv, rfl⟩ : ∃ wo : World, wo = wr := ⟨_, rfl⟩
      rcases hc with ⟨rfl, rfl, rfl, rfl, rfl⟩ | ⟨rfl, rfl, rfl, rfl, hs1⟩ | ⟨rfl, rfl, rfl, hs1, hs2⟩
      ·obtain ⟨nbz, s1, hn1⟩ : ∃ p u, t.num 1 = (p, u) := ⟨_, _, rfl⟩
       have hbr := RS.byte_range hW.rd.ok
       rw [hn1] at hbr
       obtain ⟨nb, rfl⟩ : ∃ n : Nat, nbz = n := ⟨nbz.toNat, by omega⟩
       have HNB : Hid (nb ≤ 255) := Lib.hid (by omega)
       have HRS : Hid (readIm (readLvsR nb s1).1 (readLvsR nb s1).2 = (d1, ok1, t1')) := Lib.hid (by rw [← HD1.out]; unfold readSdR; simp only [hn1, Int.toNat_natCast])
       have W1 := Lib.hid hW
       have HG1 := Lib.hid hG2
       have HN1 := Lib.hid hn1
       clear hW hG2 hbr hn1
       go_wp2_with fail
       refine (byte4_eq W1.out.rd HN1.out).mono ?_
       rintro e wa ⟨rfl, hr, hk⟩
       have W2 := Lib.hid (W1.out.read (by have := N9.out; omega) N11.out.2.1.symm hr hk)
       have HG2 := Lib.hid (HG1.out.keeps hk (by have := N9.out; omega))
       clear hr hk W1 HG1
       go_wp2_with fail
       go_loopw [14] (fun i w' => ∃ (mm : Nat) (av : Option Addr) (cv : Nat) (L : List Lv) (u : RS) (l : Nat), i = .int .i64 mm ∧ L.length = l ∧ RlI w wa w' pr g11 nb s1 mm ⟨av, l, cv, zeroLv, false⟩ zeroSh (.slice av l cv) L u) (fun i _ => (RowKit.intOf i).toNat)
       case atStart => exact ⟨nb, none, 0, [], s1, 0, rfl, rfl, ⟨W2.out.rd, W2.out.bo, Lay.Row.nil _ _, Keeps.refl _ _, rfl, rfl, by rw [List.length_nil]; omega⟩⟩
       case round =>
        obtain ⟨mm, av, cv, L, u, l, rfl, hl, hN⟩ := hrel
        have HLE := Lib.hid hl
        clear hl
        obtain ⟨wz, rfl⟩ : ∃ wo : World, wo = wr := ⟨_, rfl⟩
        have J1 := Lib.hid hN
        have hwy := hN.rd.why
        clear hN
        obtain ⟨bb, hbb⟩ : ∃ bb, (decide (0 < mm) && !u.bad) = bb := ⟨_, rfl⟩
        have HBB := Lib.hid hbb
        go_upto_region 19 with (fail)
        go_cut [88] (fun v wx => v = .bool bb ∧ wz = wx)
        case first =>
         cases hmm : decide (0 < mm) with
         | true =>
          have q0 : (0 : Int) < (mm : Int) := by have := of_decide_eq_true hmm; omega
          cases hbd : u.bad with
          | true =>
           rw [whyP_true hbd] at hwy
           rw [hmm, hbd] at hbb
           clear hmm hbd
           subst hbb
           go_wp2_with fail
           go_meet
           exact ⟨by rfl, rfl⟩
          | false =>
           rw [whyP_false hbd] at hwy
           rw [hmm, hbd] at hbb
           clear hmm hbd
           subst hbb
           go_wp2_with fail
           go_meet
           exact ⟨by rfl, rfl⟩
         | false =>
          have q0 : ¬ (0 : Int) < (mm : Int) := by have := of_decide_eq_false hmm; omega
          rw [hmm, Bool.false_and] at hbb
          clear hmm
          subst hbb
          go_wp2_with fail
          go_meet
          exact ⟨by rfl, rfl⟩
        case rest =>
        obtain ⟨rfl, rfl⟩ := hcut
        clear hwy hbb
        cases bb with
        | true =>
         have hm1 : 0 < mm := by have := HBB.out; rw [Bool.and_eq_true] at this; exact of_decide_eq_true this.1
         have hbf : u.bad = false := by have := HBB.out; rw [Bool.and_eq_true] at this; simpa using this.2
         obtain ⟨mk, rfl⟩ : ∃ k, mm = k + 1 := ⟨mm - 1, by omega⟩
         obtain ⟨z, u', hz⟩ : ∃ x t, readLv u = (x, t) := ⟨_, _, rfl⟩
         have HRL2 : Hid (readLvsR (mk + 1) u = (z :: (readLvsR mk u').1, (readLvsR mk u').2)) := Lib.hid (by rw [lvsR_step mk hbf, hz])
         have HGT := Lib.hid (rread_any (J1.out.rd.below (Below.drewN_of wz 1)))
         rw [hz] at HGT
         unfold Lv.agg at HGT
         dsimp only at HGT
         have HLL : Hid (L.length + 1 ≤ 1000000) := Lib.hid (by have := J1.out.len; have := HNB.out; omega)
         have hmkb : mk ≤ 255 := by have := J1.out.len; have := HNB.out; omega
         clear hz HBB hm1 hbf
         go_upto_region 21 with (fail)
         refine wp_region_E (S := fun w' => w'.cell? ⟨g11, 0, none⟩ = some (.slice av l cv)) (by kernel_rfl) (J1.out.bo.cell 0) (fun hHeld => ?_)
         refine wpE_tk 0 (oi := ?o1) (v := ?v1) ?h1 (by kernel_rfl) ?q1 ?y1 (by assumption) ?_
         case h1 => (simp only [List.getElem?_toArray]; rfl)
         case q1 => exact fun _ _ _ h => h
         case y1 => exact Or.inl ⟨by rfl, by (intro w hSw; (try dsimp only at hSw); go_simp; try with_reducible rfl)⟩
         try simp only [Act.put, sA, sB, sC]
         refine wpE_tk 1 (oi := ?o2) (v := ?v2) ?h2 (by kernel_rfl) ?q2 ?y2 (by assumption) ?_
         case h2 => (simp only [List.getElem?_toArray]; rfl)
         case q2 => exact fun _ _ _ h => h
         case y2 => exact Or.inl ⟨by rfl, by (intro w hSw; (try dsimp only at hSw); go_simp; try with_reducible rfl)⟩
         try simp only [Act.put, sA, sB, sC]
         refine wpE_tk 2 (oi := ?o3) (v := ?v3) ?h3 (by kernel_rfl) ?q3 ?y3 (by assumption) ?_
         case h3 => (simp only [List.getElem?_toArray]; rfl)
         case q3 => exact fun _ _ _ h => h
         case y3 => exact Or.inl ⟨by rfl, by (intro w hSw; (try dsimp only at hSw); go_simp; try with_reducible rfl)⟩
         try simp only [Act.put, sA, sB, sC]
         refine wpE_tk 3 (oi := ?o4) (v := ?v4) ?h4 (by kernel_rfl) ?q4 ?y4 (by assumption) ?_
         case h4 => (simp only [List.getElem?_toArray]; rfl)
         case q4 => exact fun _ _ _ h => h
         case y4 => exact Or.inl ⟨by rfl, by (intro w hSw; (try dsimp only at hSw); go_simp; try with_reducible rfl)⟩
         try simp only [Act.put, sA, sB, sC]
         refine wpE_tk 4 (oi := ?o5) (v := ?v5) ?h5 (by kernel_rfl) ?q5 ?y5 (by assumption) ?_
         case h5 => (simp only [List.getElem?_toArray]; rfl)
         case q5 => exact fun _ _ _ h => h
         case y5 => exact Or.inl ⟨by rfl, by (intro w hSw; (try dsimp only at hSw); go_simp; try with_reducible rfl)⟩
         try simp only [Act.put, sA, sB, sC]
         refine wpE_tk 5 (oi := ?o6) (v := ?v6) ?h6 (by kernel_rfl) ?q6 ?y6 (by assumption) ?_
         case h6 => (simp only [List.getElem?_toArray]; rfl)
         case q6 => exact fun _ _ _ h => h
         case y6 => exact Or.inl ⟨by rfl, by (intro w hSw; (try dsimp only at hSw); go_simp; try with_reducible rfl)⟩
         try simp only [Act.put, sA, sB, sC]
         refine wpE_one (i := 6) (o := ?o17) ?ho17 (by kernel_rfl) (fun K hK => ?_)
         case ho17 => (simp only [List.getElem?_toArray]; rfl)
         go_simp
         refine HGT.out.mono ?_
         rintro e w3 ⟨rfl, hr3, hk3⟩
         have hkz := (Below.keeps (F := fun g => g = pr) (Below.drewN_of wz 1)).trans hk3
         have BO3 := Lib.hid (J1.out.bo.keeps hkz N11.out.2.1.symm)
         have RW3 := Lib.hid (J1.out.row.keep hkz (fun g hg e => hg.ne J1.out.rd.tyd (by decide) e))
         have K3 := Lib.hid (J1.out.kp.step hkz (fun g _ e => .inl e))
         have R3 := Lib.hid hr3
         refine hK.out _ _ (BO3.out.cell 0) (fun hHeld => ?_)
         clear hK K hr3 hk3 hkz HGT
         have hba := Below.allocN w3 (.cells #[.int .i64 z.price, .int .i64 z.qty, .int .i64 z.count] 79)
         have BO4 := Lib.hid (BO3.out.below hba)
         have RW4 := Lib.hid (RW3.out.below hba)
         have K4 := Lib.hid (K3.out.trans (Below.keeps hba))
         have R4 := Lib.hid (R3.out.below hba)
         have HN4 : Hid (Blk (w3.alloc (.cells #[.int .i64 z.price, .int .i64 z.qty, .int .i64 z.count] 79)) w3.heap.size 79 z.cells.toArray) := Lib.hid (Blk.new _ _ _)
         obtain ⟨gx, hgx⟩ : ∃ gx, w3.heap.size = gx := ⟨_, rfl⟩
         refine wpE_one (i := 7) (o := ?o18) ?ho18 (by kernel_rfl) (fun K hK => ?_)
         case ho18 => (simp only [List.getElem?_toArray]; rfl)
         go_simp
         refine hK.out _ _ (BO4.out.cell 0) (fun hHeld => ?_)
         rw [hgx] at HN4
         clear hgx hK K hba BO3 RW3 K3 R3
         generalize w3.alloc (.cells #[.int .i64 z.price, .int .i64 z.qty, .int .i64 z.count] 79) = w4 at *
         refine wpE_one (i := 8) (o := ?o19) ?ho19 (by kernel_rfl) (fun K hK => ?_)
         case ho19 => (simp only [List.getElem?_toArray]; rfl)
         refine RLV.step (by rfl) (.tmp 95) (.tmp 98) (by rfl) wa.heap.size (.slice av l cv) L (by rfl) RW4.out gx z (by rfl) HN4.out.lt HN4.out.cellsAt HLL.out K4.out.size ?_
         intro v' w5' hr5 hg5 _
         obtain ⟨a5, c5, hv5⟩ := hr5.form
         rw [List.length_append, List.length_singleton, HLE.out] at hv5
         subst hv5
         have hk5 := grown_keeps hg5
         have hty : ∀ g, (Value.slice av l cv).ownBlock = some g → Tyd w4 g RLV.t := fun g hg => own_tyd RW4.out g hg
         have hbs : ∀ g, (Value.slice av l cv).ownBlock = some g → wa.heap.size ≤ g := own_base RW4.out
         have BO5 := Lib.hid (BO4.out.keeps hk5 (fun e => (hty _ e).ne BO4.out.tyd (by decide) rfl))
         have R5 := Lib.hid (R4.out.keep hk5 (fun e => (hty _ e).ne R4.out.tyd (by decide) rfl) (fun k hk => Nat.le_trans W2.out.rd.bel.size (hbs k hk)))
         have K5 := Lib.hid (K4.out.step hk5 (fun i hi hg => absurd (hbs i hg) (by omega)))
         have RW5 := Lib.hid hr5
         refine hK.out _ _ (BO5.out.cell 0) (fun hHeld => ?_)
         clear hK K hr5 hg5 hk5 hty hbs BO4 R4 K4 RW4 HN4
         refine wpE_tk 9 (oi := ?o7) (v := ?v7) ?h7 (by kernel_rfl) ?q7 ?y7 (by assumption) ?_
         case h7 => (simp only [List.getElem?_toArray]; rfl)
         case q7 => exact fun _ _ _ h => h
         case y7 => exact Or.inl ⟨by rfl, by (intro w hSw; (try dsimp only at hSw); go_simp; try with_reducible rfl)⟩
         try simp only [Act.put, sA, sB, sC]
         refine wpE_tk 10 (oi := ?o8) (v := ?v8) ?h8 (by kernel_rfl) ?q8 ?y8 (by assumption) ?_
         case h8 => (simp only [List.getElem?_toArray]; rfl)
         case q8 => exact fun _ _ _ h => h
         case y8 => exact Or.inl ⟨by rfl, by (intro w hSw; (try dsimp only at hSw); go_simp; try with_reducible rfl)⟩
         try simp only [Act.put, sA, sB, sC]
         refine wpE_last (i := 11) (o := ?o23) ?ho23 (by kernel_rfl) (by kernel_rfl) (by kernel_rfl) (fun K hK => ?_)
         case ho23 => (simp only [List.getElem?_toArray]; rfl)
         have k5 : w5'.cell? ⟨g11, 0, none⟩ = some (.slice av l cv) := BO5.out.cell 0
         have z5 : w5'.frozen? ⟨g11, 0, none⟩ = false := BO5.out.frozen 0
         go_simp
         refine hK.out _ _ ?_
         have hk6 := keep1 w5' g11 0 (.slice a5 (l + 1) c5)
         have hb6 := BO5.out.set_ 0 (.slice a5 (l + 1) c5)
         simp only [List.setIfInBounds_toArray, List.set_cons_zero] at hb6
         have J6 : Hid (RlI w wa (w5'.setCell ⟨g11, 0, none⟩ (.slice a5 (l + 1) c5)) pr g11 nb s1 mk ⟨a5, l + 1, c5, zeroLv, false⟩ zeroSh (.slice a5 (l + 1) c5) (L ++ [z]) u') := Lib.hid
          ⟨R5.out.keep hk6 N11.out.2.1 (fun k hk => by have hk2 : k = g11 := hk; rw [hk2]; exact N11.out.2.2.1), hb6, RW5.out.keep hk6 (fun g hg e => hg.ne BO5.out.tyd (by decide) e), K5.out.step hk6 (fun i _ he => .inr he), by rw [← J1.out.e1, HRL2.out]; simp, by rw [← J1.out.e2, HRL2.out], by have := J1.out.len; rw [List.length_append, List.length_singleton]; omega⟩
         clear hK K hHeld k5 z5 hk6 hb6 J1 BO5 R5 K5 RW5 HRL2
         go_wp2_with fail
         go_roundw
         case rel => exact ⟨mk, a5, c5, _, u', l + 1, by go_num, by rw [List.length_append, List.length_singleton, HLE.out], J6.out⟩
         case measure => simp [RowKit.intOf]
        | false =>
         have HEX : Hid (readLvsR mm u = ([], u)) := Lib.hid (by
          have h := HBB.out
          rw [Bool.and_eq_false_iff] at h
          rcases h with h | h
          ·have : mm = 0 := by have := of_decide_eq_false h; omega
           subst this; rfl
          ·exact lvsR_bad mm (by simpa using h))
         have HRS2 : Hid (readIm L u = (d1, ok1, t1')) := Lib.hid (by
          have e1 := J1.out.e1
          have e2 := J1.out.e2
          rw [HEX.out] at e1 e2
          rw [← HRS.out, ← e1, ← e2, List.append_nil])
         have HLL : Hid (L.length ≤ 255) := Lib.hid (by have := J1.out.len; have := HNB.out; omega)
         have W3 : Hid (RwI w wz pr g9 g11 v acc ⟨av, l, cv, zeroLv, false⟩ zeroSh u) := Lib.hid (W2.out.lev (by have := N9.out; omega) N11.out.1 J1.out.rd J1.out.kp J1.out.bo)
         have SE : Hid (RLV.Row wz w.heap.size (.slice av l cv) L) := Lib.hid (J1.out.row.base W2.out.rd.bel.size)
         have HG3 := Lib.hid (HG2.out.keeps J1.out.kp (by have := N9.out; have := N11.out; omega))
         obtain ⟨hw, u1, hu⟩ : ∃ p t, u.num 1 = (p, t) := ⟨_, _, rfl⟩
         have HU := Lib.hid hu
         clear hu J1 HEX HBB HRS W2 HG2
         go_wp2_with fail
         refine (byte4_eq W3.out.rd HU.out).mono ?_
         rintro e wb ⟨rfl, hr, hk⟩
         have W4 := Lib.hid (W3.out.read (by have := N9.out; omega) N11.out.2.1.symm hr hk)
         have SE4 := Lib.hid (SE.out.keep hk (fun b hb e => hb.ne W3.out.rd.tyd (by decide) e))
         have HG4 := Lib.hid (HG3.out.keeps hk (by have := N9.out; omega))
         clear hr hk W3 SE HG3
         go_upto_region 23 with (fail)
         go_cut [10] (fun v wx => v = .bool (f && decide (hw ≤ 1)) ∧ wb = wx)
         case first =>
          cases f with
          | true =>
           go_wp2_with fail
           go_meet
           exact ⟨by rfl, rfl⟩
          | false =>
           go_wp2_with fail
           go_meet
           exact ⟨by rfl, rfl⟩
         case rest =>
         obtain ⟨rfl, rfl⟩ := hcut
         by_cases hw1 : hw = 1
         ·subst hw1
          obtain ⟨z, u2, hz⟩ : ∃ x t, readLv u1 = (x, t) := ⟨_, _, rfl⟩
          have HE : Hid ((⟨L, z, true⟩, true, u2) = (d1, ok1, t1')) := Lib.hid (by rw [← HRS2.out]; unfold readIm; rw [HU.out]; simp only [if_true, hz])
          have HZ := Lib.hid hz
          obtain ⟨ff, hff⟩ : ∃ ff, (f && decide ((1 : Int) ≤ 1)) = ff := ⟨_, rfl⟩
          rw [hff]
          have HFF := Lib.hid hff
          clear hz hff HRS2
          have o4 : wb.cell? ⟨g11, 4, none⟩ = some (.bool false) := W4.out.bo.cell 4
          have zf : wb.frozen? ⟨g11, 4, none⟩ = false := W4.out.bo.frozen 4
          have hk5 := keep1 wb g11 4 (.bool true)
          have hbo5 := W4.out.bo.set_ 4 (.bool true)
          simp only [List.setIfInBounds_toArray, List.set_cons_zero, List.set_cons_succ] at hbo5
          have W5 : Hid (RwI w (wb.setCell ⟨g11, 4, none⟩ (.bool true)) pr g9 g11 v acc ⟨av, l, cv, zeroLv, true⟩ zeroSh u1) := Lib.hid (W4.out.put N11.out.1 N11.out.2.1 N11.out.2.2.1 hk5 hbo5)
          have SE5 := Lib.hid (SE4.out.keep hk5 (fun b hb e => hb.ne W4.out.bo.tyd (by decide) e))
          have HG5 := Lib.hid (HG4.out.keeps hk5 (by have := N11.out; omega))
          clear hk5 hbo5
          go_upto_region 26 with (fail)
          clear o4 zf W4 SE4 HG4
          generalize wb.setCell ⟨g11, 4, none⟩ (.bool true) = w5 at *
          have HRR := Lib.hid (rread_any W5.out.rd)
          rw [HZ.out] at HRR
          unfold Lv.agg at HRR
          dsimp only at HRR
          go_wp2_with fail
          refine HRR.out.mono ?_
          rintro e wc ⟨rfl, hr, hk⟩
          have W6 := Lib.hid (W5.out.read (by have := N9.out; omega) N11.out.2.1.symm hr hk)
          have SE6 := Lib.hid (SE5.out.keep hk (fun b hb e => hb.ne W5.out.rd.tyd (by decide) e))
          have HG6 := Lib.hid (HG5.out.keeps hk (by have := N9.out; omega))
          clear hr hk HRR W5 SE5 HG5
          have o1 : wc.cell? ⟨g11, 1, none⟩ = some (.int .i64 0) := W6.out.bo.cell 1
          have o2 : wc.cell? ⟨g11, 2, none⟩ = some (.int .i64 0) := W6.out.bo.cell 2
          have o3 : wc.cell? ⟨g11, 3, none⟩ = some (.int .i64 0) := W6.out.bo.cell 3
          have zf : ∀ o, wc.frozen? ⟨g11, o, none⟩ = false := fun o => W6.out.bo.frozen o
          have hk7 : Keeps (fun g => g = g11) wc (((wc.setCell ⟨g11, 1, none⟩ (.int .i64 z.price)).setCell ⟨g11, 2, none⟩ (.int .i64 z.qty)).setCell ⟨g11, 3, none⟩ (.int .i64 z.count)) := ((keep1 wc g11 1 (.int .i64 z.price)).trans (keep1 _ g11 2 (.int .i64 z.qty))).trans (keep1 _ g11 3 (.int .i64 z.count))
          have hbo7 := ((W6.out.bo.set_ 1 (.int .i64 z.price)).set_ 2 (.int .i64 z.qty)).set_ 3 (.int .i64 z.count)
          simp only [List.setIfInBounds_toArray, List.set_cons_zero, List.set_cons_succ] at hbo7
          have W7 : Hid (RwI w (((wc.setCell ⟨g11, 1, none⟩ (.int .i64 z.price)).setCell ⟨g11, 2, none⟩ (.int .i64 z.qty)).setCell ⟨g11, 3, none⟩ (.int .i64 z.count)) pr g9 g11 v acc ⟨av, l, cv, z, true⟩ zeroSh u2) := Lib.hid (W6.out.put N11.out.1 N11.out.2.1 N11.out.2.2.1 hk7 hbo7)
          have SE7 : Hid (ShO RLV (((wc.setCell ⟨g11, 1, none⟩ (.int .i64 z.price)).setCell ⟨g11, 2, none⟩ (.int .i64 z.qty)).setCell ⟨g11, 3, none⟩ (.int .i64 z.count)) w.heap.size ⟨av, l, cv, z, true⟩ d1) := Lib.hid (by
           have h := HE.out
           injection h with h1 h2
           rw [← h1]
           exact ⟨HLE.out.symm, SE6.out.keep hk7 (fun b hb e => hb.ne W6.out.bo.tyd (by decide) e), rfl, rfl⟩)
          have HG7 := Lib.hid (HG6.out.keeps hk7 (by have := N11.out; omega))
          have HFE : Hid ((f && ok1) = ff) := Lib.hid (by have h := HE.out; injection h with h1 h2; injection h2 with h2 h3; rw [← HFF.out, ← h2]; rfl)
          have HTE : Hid (t1' = u2) := Lib.hid (by have h := HE.out; injection h with h1 h2; injection h2 with h2 h3; exact h3.symm)
          clear hk7 hbo7
          go_wp2_with fail
          go_roundw
          case rel => exact ⟨1, ⟨av, l, cv, z, true⟩, zeroSh, ff, u2, by go_num, rfl, W7.out, HG7.out, .inr (.inl ⟨rfl, HFE.out, HTE.out, rfl, SE7.out⟩)⟩
          case measure => simp [RowKit.intOf]
         ·have hwb : (hw == 1) = false := by rw [beq_eq_false_iff_ne]; exact hw1
          have HE : Hid ((⟨L, zeroLv, false⟩, decide (hw ≤ 1), u1) = (d1, ok1, t1')) := Lib.hid (by rw [← HRS2.out]; unfold readIm; rw [HU.out]; exact (if_neg hw1).symm)
          obtain ⟨ff, hff⟩ : ∃ ff, (f && decide (hw ≤ 1)) = ff := ⟨_, rfl⟩
          rw [hff]
          have HFF := Lib.hid hff
          have SE7 : Hid (ShO RLV wb w.heap.size ⟨av, l, cv, zeroLv, false⟩ d1) := Lib.hid (by
           have h := HE.out
           injection h with h1 h2
           rw [← h1]
           exact ⟨HLE.out.symm, SE4.out, rfl, rfl⟩)
          have HFE : Hid ((f && ok1) = ff) := Lib.hid (by have h := HE.out; injection h with h1 h2; injection h2 with h2 h3; rw [← HFF.out, ← h2])
          have HTE : Hid (t1' = u1) := Lib.hid (by have h := HE.out; injection h with h1 h2; injection h2 with h2 h3; exact h3.symm)
          clear hff hw1 HRS2
          go_wp2_with fail
          go_roundw
          case rel => exact ⟨1, ⟨av, l, cv, zeroLv, false⟩, zeroSh, ff, u1, by go_num, rfl, W4.out, HG4.out, .inr (.inl ⟨rfl, HFE.out, HTE.out, rfl, SE7.out⟩)⟩
          case measure => simp [RowKit.intOf]
      ·obtain ⟨nbz, s1, hn1⟩ : ∃ p u, t1'.num 1 = (p, u) := ⟨_, _, rfl⟩
       have hbr := RS.byte_range hW.rd.ok
       rw [hn1] at hbr
       obtain ⟨nb, rfl⟩ : ∃ n : Nat, nbz = n := ⟨nbz.toNat, by omega⟩
       have HNB : Hid (nb ≤ 255) := Lib.hid (by omega)
       have HRS : Hid (readIm (readLvsR nb s1).1 (readLvsR nb s1).2 = (d2, ok2, t2')) := Lib.hid (by rw [← HD2'.out]; unfold readSdR; simp only [hn1, Int.toNat_natCast])
       have W1 := Lib.hid hW
       have HG1 := Lib.hid hG2
       have HN1 := Lib.hid hn1
       have S1 := Lib.hid hs1
       clear hs1
       obtain ⟨fj, hfj⟩ : ∃ fj, (f && ok1) = fj := ⟨_, rfl⟩
       rw [hfj]
       have HFJ := Lib.hid hfj
       clear hfj
       clear hW hG2 hbr hn1
       go_wp2_with fail
       refine (byte4_eq W1.out.rd HN1.out).mono ?_
       rintro e wa ⟨rfl, hr, hk⟩
       have W2 := Lib.hid (W1.out.read (by have := N9.out; omega) N11.out.2.1.symm hr hk)
       have HG2 := Lib.hid (HG1.out.keeps hk (by have := N9.out; omega))
       have S2 := Lib.hid (S1.out.keep hk (fun b hb e => hb.ne W1.out.rd.tyd (by decide) e))
       clear hr hk W1 HG1 S1
       go_wp2_with fail
       go_loopw [14] (fun i w' => ∃ (mm : Nat) (av : Option Addr) (cv : Nat) (L : List Lv) (u : RS) (l : Nat), i = .int .i64 mm ∧ L.length = l ∧ RlI w wa w' pr g11 nb s1 mm x ⟨av, l, cv, zeroLv, false⟩ (.slice av l cv) L u) (fun i _ => (RowKit.intOf i).toNat)
       case atStart => exact ⟨nb, none, 0, [], s1, 0, rfl, rfl, ⟨W2.out.rd, W2.out.bo, Lay.Row.nil _ _, Keeps.refl _ _, rfl, rfl, by rw [List.length_nil]; omega⟩⟩
       case round =>
        obtain ⟨mm, av, cv, L, u, l, rfl, hl, hN⟩ := hrel
        have HLE := Lib.hid hl
        clear hl
        obtain ⟨wz, rfl⟩ : ∃ wo : World, wo = wr := ⟨_, rfl⟩
        have J1 := Lib.hid hN
        have hwy := hN.rd.why
        clear hN
        obtain ⟨bb, hbb⟩ : ∃ bb, (decide (0 < mm) && !u.bad) = bb := ⟨_, rfl⟩
        have HBB := Lib.hid hbb
        go_upto_region 19 with (fail)
        go_cut [88] (fun v wx => v = .bool bb ∧ wz = wx)
        case first =>
         cases hmm : decide (0 < mm) with
         | true =>
          have q0 : (0 : Int) < (mm : Int) := by have := of_decide_eq_true hmm; omega
          cases hbd : u.bad with
          | true =>
           rw [whyP_true hbd] at hwy
           rw [hmm, hbd] at hbb
           clear hmm hbd
           subst hbb
           go_wp2_with fail
           go_meet
           exact ⟨by rfl, rfl⟩
          | false =>
           rw [whyP_false hbd] at hwy
           rw [hmm, hbd] at hbb
           clear hmm hbd
           subst hbb
           go_wp2_with fail
           go_meet
           exact ⟨by rfl, rfl⟩
         | false =>
          have q0 : ¬ (0 : Int) < (mm : Int) := by have := of_decide_eq_false hmm; omega
          rw [hmm, Bool.false_and] at hbb
          clear hmm
          subst hbb
          go_wp2_with fail
          go_meet
          exact ⟨by rfl, rfl⟩
        case rest =>
        obtain ⟨rfl, rfl⟩ := hcut
        clear hwy hbb
        cases bb with
        | true =>
         have hm1 : 0 < mm := by have := HBB.out; rw [Bool.and_eq_true] at this; exact of_decide_eq_true this.1
         have hbf : u.bad = false := by have := HBB.out; rw [Bool.and_eq_true] at this; simpa using this.2
         obtain ⟨mk, rfl⟩ : ∃ k, mm = k + 1 := ⟨mm - 1, by omega⟩
         obtain ⟨z, u', hz⟩ : ∃ x t, readLv u = (x, t) := ⟨_, _, rfl⟩
         have HRL2 : Hid (readLvsR (mk + 1) u = (z :: (readLvsR mk u').1, (readLvsR mk u').2)) := Lib.hid (by rw [lvsR_step mk hbf, hz])
         have HGT := Lib.hid (rread_any (J1.out.rd.below (Below.drewN_of wz 1)))
         rw [hz] at HGT
         unfold Lv.agg at HGT
         dsimp only at HGT
         have HLL : Hid (L.length + 1 ≤ 1000000) := Lib.hid (by have := J1.out.len; have := HNB.out; omega)
         have hmkb : mk ≤ 255 := by have := J1.out.len; have := HNB.out; omega
         clear hz HBB hm1 hbf
         go_upto_region 21 with (fail)
         refine wp_region_E (S := fun w' => w'.cell? ⟨g11, 5, none⟩ = some (.slice av l cv)) (by kernel_rfl) (J1.out.bo.cell 5) (fun hHeld => ?_)
         refine wpE_tk 0 (oi := ?o9) (v := ?v9) ?h9 (by kernel_rfl) ?q9 ?y9 (by assumption) ?_
         case h9 => (simp only [List.getElem?_toArray]; rfl)
         case q9 => exact fun _ _ _ h => h
         case y9 => exact Or.inl ⟨by rfl, by (intro w hSw; (try dsimp only at hSw); go_simp; try with_reducible rfl)⟩
         try simp only [Act.put, sA, sB, sC]
         refine wpE_tk 1 (oi := ?o10) (v := ?v10) ?h10 (by kernel_rfl) ?q10 ?y10 (by assumption) ?_
         case h10 => (simp only [List.getElem?_toArray]; rfl)
         case q10 => exact fun _ _ _ h => h
         case y10 => exact Or.inl ⟨by rfl, by (intro w hSw; (try dsimp only at hSw); go_simp; try with_reducible rfl)⟩
         try simp only [Act.put, sA, sB, sC]
         refine wpE_tk 2 (oi := ?o11) (v := ?v11) ?h11 (by kernel_rfl) ?q11 ?y11 (by assumption) ?_
         case h11 => (simp only [List.getElem?_toArray]; rfl)
         case q11 => exact fun _ _ _ h => h
         case y11 => exact Or.inl ⟨by rfl, by (intro w hSw; (try dsimp only at hSw); go_simp; try with_reducible rfl)⟩
         try simp only [Act.put, sA, sB, sC]
         refine wpE_tk 3 (oi := ?o12) (v := ?v12) ?h12 (by kernel_rfl) ?q12 ?y12 (by assumption) ?_
         case h12 => (simp only [List.getElem?_toArray]; rfl)
         case q12 => exact fun _ _ _ h => h
         case y12 => exact Or.inl ⟨by rfl, by (intro w hSw; (try dsimp only at hSw); go_simp; try with_reducible rfl)⟩
         try simp only [Act.put, sA, sB, sC]
         refine wpE_tk 4 (oi := ?o13) (v := ?v13) ?h13 (by kernel_rfl) ?q13 ?y13 (by assumption) ?_
         case h13 => (simp only [List.getElem?_toArray]; rfl)
         case q13 => exact fun _ _ _ h => h
         case y13 => exact Or.inl ⟨by rfl, by (intro w hSw; (try dsimp only at hSw); go_simp; try with_reducible rfl)⟩
         try simp only [Act.put, sA, sB, sC]
         refine wpE_tk 5 (oi := ?o14) (v := ?v14) ?h14 (by kernel_rfl) ?q14 ?y14 (by assumption) ?_
         case h14 => (simp only [List.getElem?_toArray]; rfl)
         case q14 => exact fun _ _ _ h => h
         case y14 => exact Or.inl ⟨by rfl, by (intro w hSw; (try dsimp only at hSw); go_simp; try with_reducible rfl)⟩
         try simp only [Act.put, sA, sB, sC]
         refine wpE_one (i := 6) (o := ?o20) ?ho20 (by kernel_rfl) (fun K hK => ?_)
         case ho20 => (simp only [List.getElem?_toArray]; rfl)
         go_simp
         refine HGT.out.mono ?_
         rintro e w3 ⟨rfl, hr3, hk3⟩
         have hkz := (Below.keeps (F := fun g => g = pr) (Below.drewN_of wz 1)).trans hk3
         have BO3 := Lib.hid (J1.out.bo.keeps hkz N11.out.2.1.symm)
         have RW3 := Lib.hid (J1.out.row.keep hkz (fun g hg e => hg.ne J1.out.rd.tyd (by decide) e))
         have K3 := Lib.hid (J1.out.kp.step hkz (fun g _ e => .inl e))
         have R3 := Lib.hid hr3
         refine hK.out _ _ (BO3.out.cell 5) (fun hHeld => ?_)
         clear hK K hr3 hk3 hkz HGT
         have hba := Below.allocN w3 (.cells #[.int .i64 z.price, .int .i64 z.qty, .int .i64 z.count] 79)
         have BO4 := Lib.hid (BO3.out.below hba)
         have RW4 := Lib.hid (RW3.out.below hba)
         have K4 := Lib.hid (K3.out.trans (Below.keeps hba))
         have R4 := Lib.hid (R3.out.below hba)
         have HN4 : Hid (Blk (w3.alloc (.cells #[.int .i64 z.price, .int .i64 z.qty, .int .i64 z.count] 79)) w3.heap.size 79 z.cells.toArray) := Lib.hid (Blk.new _ _ _)
         obtain ⟨gx, hgx⟩ : ∃ gx, w3.heap.size = gx := ⟨_, rfl⟩
         refine wpE_one (i := 7) (o := ?o21) ?ho21 (by kernel_rfl) (fun K hK => ?_)
         case ho21 => (simp only [List.getElem?_toArray]; rfl)
         go_simp
         refine hK.out _ _ (BO4.out.cell 5) (fun hHeld => ?_)
         rw [hgx] at HN4
         clear hgx hK K hba BO3 RW3 K3 R3
         generalize w3.alloc (.cells #[.int .i64 z.price, .int .i64 z.qty, .int .i64 z.count] 79) = w4 at *
         refine wpE_one (i := 8) (o := ?o22) ?ho22 (by kernel_rfl) (fun K hK => ?_)
         case ho22 => (simp only [List.getElem?_toArray]; rfl)
         refine RLV.step (by rfl) (.tmp 95) (.tmp 98) (by rfl) wa.heap.size (.slice av l cv) L (by rfl) RW4.out gx z (by rfl) HN4.out.lt HN4.out.cellsAt HLL.out K4.out.size ?_
         intro v' w5' hr5 hg5 _
         obtain ⟨a5, c5, hv5⟩ := hr5.form
         rw [List.length_append, List.length_singleton, HLE.out] at hv5
         subst hv5
         have hk5 := grown_keeps hg5
         have hty : ∀ g, (Value.slice av l cv).ownBlock = some g → Tyd w4 g RLV.t := fun g hg => own_tyd RW4.out g hg
         have hbs : ∀ g, (Value.slice av l cv).ownBlock = some g → wa.heap.size ≤ g := own_base RW4.out
         have BO5 := Lib.hid (BO4.out.keeps hk5 (fun e => (hty _ e).ne BO4.out.tyd (by decide) rfl))
         have R5 := Lib.hid (R4.out.keep hk5 (fun e => (hty _ e).ne R4.out.tyd (by decide) rfl) (fun k hk => Nat.le_trans W2.out.rd.bel.size (hbs k hk)))
         have K5 := Lib.hid (K4.out.step hk5 (fun i hi hg => absurd (hbs i hg) (by omega)))
         have RW5 := Lib.hid hr5
         refine hK.out _ _ (BO5.out.cell 5) (fun hHeld => ?_)
         clear hK K hr5 hg5 hk5 hty hbs BO4 R4 K4 RW4 HN4
         refine wpE_tk 9 (oi := ?o15) (v := ?v15) ?h15 (by kernel_rfl) ?q15 ?y15 (by assumption) ?_
         case h15 => (simp only [List.getElem?_toArray]; rfl)
         case q15 => exact fun _ _ _ h => h
         case y15 => exact Or.inl ⟨by rfl, by (intro w hSw; (try dsimp only at hSw); go_simp; try with_reducible rfl)⟩
         try simp only [Act.put, sA, sB, sC]
         refine wpE_tk 10 (oi := ?o16) (v := ?v16) ?h16 (by kernel_rfl) ?q16 ?y16 (by assumption) ?_
         case h16 => (simp only [List.getElem?_toArray]; rfl)
         case q16 => exact fun _ _ _ h => h
         case y16 => exact Or.inl ⟨by rfl, by (intro w hSw; (try dsimp only at hSw); go_simp; try with_reducible rfl)⟩
         try simp only [Act.put, sA, sB, sC]
         refine wpE_last (i := 11) (o := ?o24) ?ho24 (by kernel_rfl) (by kernel_rfl) (by kernel_rfl) (fun K hK => ?_)
         case ho24 => (simp only [List.getElem?_toArray]; rfl)
         have k5 : w5'.cell? ⟨g11, 5, none⟩ = some (.slice av l cv) := BO5.out.cell 5
         have z5 : w5'.frozen? ⟨g11, 5, none⟩ = false := BO5.out.frozen 5
         go_simp
         refine hK.out _ _ ?_
         have hk6 := keep1 w5' g11 5 (.slice a5 (l + 1) c5)
         have hb6 := BO5.out.set_ 5 (.slice a5 (l + 1) c5)
         simp only [List.setIfInBounds_toArray, List.set_cons_zero, List.set_cons_succ] at hb6
         have J6 : Hid (RlI w wa (w5'.setCell ⟨g11, 5, none⟩ (.slice a5 (l + 1) c5)) pr g11 nb s1 mk x ⟨a5, l + 1, c5, zeroLv, false⟩ (.slice a5 (l + 1) c5) (L ++ [z]) u') := Lib.hid
          ⟨R5.out.keep hk6 N11.out.2.1 (fun k hk => by have hk2 : k = g11 := hk; rw [hk2]; exact N11.out.2.2.1), hb6, RW5.out.keep hk6 (fun g hg e => hg.ne BO5.out.tyd (by decide) e), K5.out.step hk6 (fun i _ he => .inr he), by rw [← J1.out.e1, HRL2.out]; simp, by rw [← J1.out.e2, HRL2.out], by have := J1.out.len; rw [List.length_append, List.length_singleton]; omega⟩
         clear hK K hHeld k5 z5 hk6 hb6 J1 BO5 R5 K5 RW5 HRL2
         go_wp2_with fail
         go_roundw
         case rel => exact ⟨mk, a5, c5, _, u', l + 1, by go_num, by rw [List.length_append, List.length_singleton, HLE.out], J6.out⟩
         case measure => simp [RowKit.intOf]
        | false =>
         have HEX : Hid (readLvsR mm u = ([], u)) := Lib.hid (by
          have h := HBB.out
          rw [Bool.and_eq_false_iff] at h
          rcases h with h | h
          ·have : mm = 0 := by have := of_decide_eq_false h; omega
           subst this; rfl
          ·exact lvsR_bad mm (by simpa using h))
         have HRS2 : Hid (readIm L u = (d2, ok2, t2')) := Lib.hid (by
          have e1 := J1.out.e1
          have e2 := J1.out.e2
          rw [HEX.out] at e1 e2
          rw [← HRS.out, ← e1, ← e2, List.append_nil])
         have HLL : Hid (L.length ≤ 255) := Lib.hid (by have := J1.out.len; have := HNB.out; omega)
         have W3 : Hid (RwI w wz pr g9 g11 v acc x ⟨av, l, cv, zeroLv, false⟩ u) := Lib.hid (W2.out.lev (by have := N9.out; omega) N11.out.1 J1.out.rd J1.out.kp J1.out.bo)
         have SE : Hid (RLV.Row wz w.heap.size (.slice av l cv) L) := Lib.hid (J1.out.row.base W2.out.rd.bel.size)
         have HG3 := Lib.hid (HG2.out.keeps J1.out.kp (by have := N9.out; have := N11.out; omega))
         have S3 := Lib.hid (ShO.lev S2.out W2.out.rd ⟨_, W2.out.bo⟩ J1.out.kp)
         obtain ⟨hw, u1, hu⟩ : ∃ p t, u.num 1 = (p, t) := ⟨_, _, rfl⟩
         have HU := Lib.hid hu
         clear hu J1 HEX HBB HRS W2 HG2 S2
         go_wp2_with fail
         refine (byte4_eq W3.out.rd HU.out).mono ?_
         rintro e wb ⟨rfl, hr, hk⟩
         have W4 := Lib.hid (W3.out.read (by have := N9.out; omega) N11.out.2.1.symm hr hk)
         have SE4 := Lib.hid (SE.out.keep hk (fun b hb e => hb.ne W3.out.rd.tyd (by decide) e))
         have HG4 := Lib.hid (HG3.out.keeps hk (by have := N9.out; omega))
         have S4 := Lib.hid (S3.out.keep hk (fun b hb e => hb.ne W3.out.rd.tyd (by decide) e))
         clear hr hk W3 SE HG3 S3
         go_upto_region 23 with (fail)
         go_cut [10] (fun v wx => v = .bool (fj && decide (hw ≤ 1)) ∧ wb = wx)
         case first =>
          cases fj with
          | true =>
           go_wp2_with fail
           go_meet
           exact ⟨by rfl, rfl⟩
          | false =>
           go_wp2_with fail
           go_meet
           exact ⟨by rfl, rfl⟩
         case rest =>
         obtain ⟨rfl, rfl⟩ := hcut
         by_cases hw1 : hw = 1
         ·subst hw1
          obtain ⟨z, u2, hz⟩ : ∃ x t, readLv u1 = (x, t) := ⟨_, _, rfl⟩
          have HE : Hid ((⟨L, z, true⟩, true, u2) = (d2, ok2, t2')) := Lib.hid (by rw [← HRS2.out]; unfold readIm; rw [HU.out]; simp only [if_true, hz])
          have HZ := Lib.hid hz
          obtain ⟨ff, hff⟩ : ∃ ff, (fj && decide ((1 : Int) ≤ 1)) = ff := ⟨_, rfl⟩
          rw [hff]
          have HFF := Lib.hid hff
          clear hz hff HRS2
          have o4 : wb.cell? ⟨g11, 9, none⟩ = some (.bool false) := W4.out.bo.cell 9
          have zf : wb.frozen? ⟨g11, 9, none⟩ = false := W4.out.bo.frozen 9
          have hk5 := keep1 wb g11 9 (.bool true)
          have hbo5 := W4.out.bo.set_ 9 (.bool true)
          simp only [List.setIfInBounds_toArray, List.set_cons_zero, List.set_cons_succ] at hbo5
          have W5 : Hid (RwI w (wb.setCell ⟨g11, 9, none⟩ (.bool true)) pr g9 g11 v acc x ⟨av, l, cv, zeroLv, true⟩ u1) := Lib.hid (W4.out.put N11.out.1 N11.out.2.1 N11.out.2.2.1 hk5 hbo5)
          have SE5 := Lib.hid (SE4.out.keep hk5 (fun b hb e => hb.ne W4.out.bo.tyd (by decide) e))
          have HG5 := Lib.hid (HG4.out.keeps hk5 (by have := N11.out; omega))
          have S5 := Lib.hid (S4.out.keep hk5 (fun b hb e => hb.ne W4.out.bo.tyd (by decide) e))
          clear hk5 hbo5
          go_upto_region 26 with (fail)
          clear o4 zf W4 SE4 HG4 S4
          generalize wb.setCell ⟨g11, 9, none⟩ (.bool true) = w5 at *
          have HRR := Lib.hid (rread_any W5.out.rd)
          rw [HZ.out] at HRR
          unfold Lv.agg at HRR
          dsimp only at HRR
          go_wp2_with fail
          refine HRR.out.mono ?_
          rintro e wc ⟨rfl, hr, hk⟩
          have W6 := Lib.hid (W5.out.read (by have := N9.out; omega) N11.out.2.1.symm hr hk)
          have SE6 := Lib.hid (SE5.out.keep hk (fun b hb e => hb.ne W5.out.rd.tyd (by decide) e))
          have HG6 := Lib.hid (HG5.out.keeps hk (by have := N9.out; omega))
          have S6 := Lib.hid (S5.out.keep hk (fun b hb e => hb.ne W5.out.rd.tyd (by decide) e))
          clear hr hk HRR W5 SE5 HG5 S5
          have o1 : wc.cell? ⟨g11, 6, none⟩ = some (.int .i64 0) := W6.out.bo.cell 6
          have o2 : wc.cell? ⟨g11, 7, none⟩ = some (.int .i64 0) := W6.out.bo.cell 7
          have o3 : wc.cell? ⟨g11, 8, none⟩ = some (.int .i64 0) := W6.out.bo.cell 8
          have zf : ∀ o, wc.frozen? ⟨g11, o, none⟩ = false := fun o => W6.out.bo.frozen o
          have hk7 : Keeps (fun g => g = g11) wc (((wc.setCell ⟨g11, 6, none⟩ (.int .i64 z.price)).setCell ⟨g11, 7, none⟩ (.int .i64 z.qty)).setCell ⟨g11, 8, none⟩ (.int .i64 z.count)) := ((keep1 wc g11 6 (.int .i64 z.price)).trans (keep1 _ g11 7 (.int .i64 z.qty))).trans (keep1 _ g11 8 (.int .i64 z.count))
          have hbo7 := ((W6.out.bo.set_ 6 (.int .i64 z.price)).set_ 7 (.int .i64 z.qty)).set_ 8 (.int .i64 z.count)
          simp only [List.setIfInBounds_toArray, List.set_cons_zero, List.set_cons_succ] at hbo7
          have W7 : Hid (RwI w (((wc.setCell ⟨g11, 6, none⟩ (.int .i64 z.price)).setCell ⟨g11, 7, none⟩ (.int .i64 z.qty)).setCell ⟨g11, 8, none⟩ (.int .i64 z.count)) pr g9 g11 v acc x ⟨av, l, cv, z, true⟩ u2) := Lib.hid (W6.out.put N11.out.1 N11.out.2.1 N11.out.2.2.1 hk7 hbo7)
          have SE7 : Hid (ShO RLV (((wc.setCell ⟨g11, 6, none⟩ (.int .i64 z.price)).setCell ⟨g11, 7, none⟩ (.int .i64 z.qty)).setCell ⟨g11, 8, none⟩ (.int .i64 z.count)) w.heap.size ⟨av, l, cv, z, true⟩ d2) := Lib.hid (by
           have h := HE.out
           injection h with h1 h2
           rw [← h1]
           exact ⟨HLE.out.symm, SE6.out.keep hk7 (fun b hb e => hb.ne W6.out.bo.tyd (by decide) e), rfl, rfl⟩)
          have HG7 := Lib.hid (HG6.out.keeps hk7 (by have := N11.out; omega))
          have S7 := Lib.hid (S6.out.keep hk7 (fun b hb e => hb.ne W6.out.bo.tyd (by decide) e))
          have HFE : Hid ((fj && ok2) = ff) := Lib.hid (by have h := HE.out; injection h with h1 h2; injection h2 with h2 h3; rw [← HFF.out, ← h2]; rfl)
          have HTE : Hid (t2' = u2) := Lib.hid (by have h := HE.out; injection h with h1 h2; injection h2 with h2 h3; exact h3.symm)
          clear hk7 hbo7
          go_wp2_with fail
          go_roundw
          case rel => exact ⟨2, x, ⟨av, l, cv, z, true⟩, ff, u2, by go_num, rfl, W7.out, HG7.out, .inr (.inr ⟨rfl, HFE.out, HTE.out, S7.out, SE7.out⟩)⟩
          case measure => simp [RowKit.intOf]
         ·have hwb : (hw == 1) = false := by rw [beq_eq_false_iff_ne]; exact hw1
          have HE : Hid ((⟨L, zeroLv, false⟩, decide (hw ≤ 1), u1) = (d2, ok2, t2')) := Lib.hid (by rw [← HRS2.out]; unfold readIm; rw [HU.out]; exact (if_neg hw1).symm)
          obtain ⟨ff, hff⟩ : ∃ ff, (fj && decide (hw ≤ 1)) = ff := ⟨_, rfl⟩
          rw [hff]
          have HFF := Lib.hid hff
          have SE7 : Hid (ShO RLV wb w.heap.size ⟨av, l, cv, zeroLv, false⟩ d2) := Lib.hid (by
           have h := HE.out
           injection h with h1 h2
           rw [← h1]
           exact ⟨HLE.out.symm, SE4.out, rfl, rfl⟩)
          have HFE : Hid ((fj && ok2) = ff) := Lib.hid (by have h := HE.out; injection h with h1 h2; injection h2 with h2 h3; rw [← HFF.out, ← h2])
          have HTE : Hid (t2' = u1) := Lib.hid (by have h := HE.out; injection h with h1 h2; injection h2 with h2 h3; exact h3.symm)
          clear hff hw1 HRS2
          go_wp2_with fail
          go_roundw
          case rel => exact ⟨2, x, ⟨av, l, cv, zeroLv, false⟩, ff, u1, by go_num, rfl, W4.out, HG4.out, .inr (.inr ⟨rfl, HFE.out, HTE.out, S4.out, SE7.out⟩)⟩
          case measure => simp [RowKit.intOf]
      ·obtain ⟨P, hP, hPl, hPs⟩ := hW.vo
       obtain ⟨av, cv, hvf⟩ := hP.form
       subst hvf
       obtain ⟨f2, hf2⟩ : ∃ f2, (f && ok1 && ok2) = f2 := ⟨_, rfl⟩
       rw [hf2]
       have HF2 := Lib.hid hf2
       have W1 := Lib.hid hW
       have HP := Lib.hid hP
       have HPL := Lib.hid hPl
       have HPS := Lib.hid hPs
       have HS1 := Lib.hid hs1
       have HS2 := Lib.hid hs2
       have HG1 := Lib.hid hG2
       clear hP hPl hPs hW hs1 hs2 hf2 hG2
       have m0 : wv.cell? ⟨g11, 0, none⟩ = some (.slice x.a x.n x.c) := W1.out.bo.cell 0
       have m1 : wv.cell? ⟨g11, 1, none⟩ = some (.int .i64 x.im.price) := W1.out.bo.cell 1
       have m2 : wv.cell? ⟨g11, 2, none⟩ = some (.int .i64 x.im.qty) := W1.out.bo.cell 2
       have m3 : wv.cell? ⟨g11, 3, none⟩ = some (.int .i64 x.im.count) := W1.out.bo.cell 3
       have m4 : wv.cell? ⟨g11, 4, none⟩ = some (.bool x.has) := W1.out.bo.cell 4
       have m5 : wv.cell? ⟨g11, 5, none⟩ = some (.slice y.a y.n y.c) := W1.out.bo.cell 5
       have m6 : wv.cell? ⟨g11, 6, none⟩ = some (.int .i64 y.im.price) := W1.out.bo.cell 6
       have m7 : wv.cell? ⟨g11, 7, none⟩ = some (.int .i64 y.im.qty) := W1.out.bo.cell 7
       have m8 : wv.cell? ⟨g11, 8, none⟩ = some (.int .i64 y.im.count) := W1.out.bo.cell 8
       have m9 : wv.cell? ⟨g11, 9, none⟩ = some (.bool y.has) := W1.out.bo.cell 9
       have v0 : wv.cell? ⟨g9, 0, none⟩ = some (.slice av P.length cv) := W1.out.bx.cell 0
       have hba := Below.allocN wv (.cells #[.slice x.a x.n x.c, .int .i64 x.im.price, .int .i64 x.im.qty, .int .i64 x.im.count, .bool x.has, .slice y.a y.n y.c, .int .i64 y.im.price, .int .i64 y.im.qty, .int .i64 y.im.count, .bool y.has] 82)
       have HBA := Lib.hid hba
       have HPB := Lib.hid (HP.out.below hba)
       have HPSB : Hid (∀ (j : Nat) (p : Pr) (x : Sd × Sd), P[j]? = some p → acc[j]? = some x → ShO RLV _ w.heap.size p.s x.1 ∧ ShO RLV _ w.heap.size p.t x.2) := Lib.hid fun j p x hp hx => ⟨(HPS.out j p x hp hx).1.below hba, (HPS.out j p x hp hx).2.below hba⟩
       have hmkb : mm ≤ 255 := by have := I1.out.len; have := HNN.out; omega
       have hmk1 : 1 ≤ mm := by have := HMK.out; omega
       have HNB : Hid (Blk (wv.alloc (.cells #[.slice x.a x.n x.c, .int .i64 x.im.price, .int .i64 x.im.qty, .int .i64 x.im.count, .bool x.has, .slice y.a y.n y.c, .int .i64 y.im.price, .int .i64 y.im.qty, .int .i64 y.im.count, .bool y.has] 82)) wv.heap.size 82 (RPR.cells ⟨x, y⟩).toArray) := Lib.hid (Blk.new _ _ _)
       have HSZ : Hid (w.heap.size ≤ (wv.alloc (.cells #[.slice x.a x.n x.c, .int .i64 x.im.price, .int .i64 x.im.qty, .int .i64 x.im.count, .bool x.has, .slice y.a y.n y.c, .int .i64 y.im.price, .int .i64 y.im.qty, .int .i64 y.im.count, .bool y.has] 82)).heap.size) := Lib.hid (Nat.le_trans W1.out.rd.bel.size hba.size)
       have HPN : Hid (P.length + 1 ≤ 1000000) := Lib.hid (by rw [HPL.out]; have := I1.out.len; have := HNN.out; omega)
       clear hba HP HPS
       go_wp2_with (first
        | (at_builtin; go_loud (refine RPR.push rfl (.tmp 120) (.tmp 122) rfl w.heap.size (.slice av P.length cv) P rfl HPB.out wv.heap.size ⟨x, y⟩ rfl HNB.out.lt HNB.out.cellsAt HPN.out HSZ.out ?_)))
       intro v' w5 hr5 hg5 _
       obtain ⟨a5, c5, hv5⟩ := hr5.form
       rw [show (P ++ [(⟨x, y⟩ : Pr)]).length = P.length + 1 by rw [List.length_append]; rfl] at hv5
       subst hv5
       have hgf : Hid (Blk (w5.setCell ⟨g9, 0, none⟩ (.slice a5 (P.length + 1) c5)) g 44 #[.slice none 0 0]) := Lib.hid (((HG1.out.below HBA.out).keeps (grown_keeps hg5) (fun e => (own_tyd HPB.out _ e).ne (HG1.out.below HBA.out).tyd (by decide) rfl)).far (p := ⟨g9, 0, none⟩) (by have := N9.out; show g ≠ g9; omega) _)
       obtain ⟨r6, b6, vo6, k5, z5⟩ := W1.out.grow HBA.out HPB.out HPL.out HPSB.out HS1.out HS2.out hr5 hg5 (by have := N9.out; omega) (by have := N9.out; omega)
       have I6 : Hid (RvI w (w5.setCell ⟨g9, 0, none⟩ (.slice a5 (P.length + 1) c5)) pr g9 n t2 mk (.slice a5 (P.length + 1) c5) f2 (acc ++ [(d1, d2)]) t2') := Lib.hid
        ⟨r6, b6, vo6, by rw [← I1.out.e1, HRV.out]; simp, by rw [← I1.out.e2, HRV.out, ← HF2.out]; simp [Bool.and_assoc], by rw [← I1.out.e3, HRV.out], by have := I1.out.len; have := HMK.out; rw [List.length_append, List.length_singleton]; omega, fun p hp => by
         rcases List.mem_append.1 hp with hp | hp
         ·exact I1.out.le p hp
         ·rw [List.mem_singleton] at hp
          subst hp
          have q1 := sdR_le I1.out.rd.ok
          rw [HD1.out] at q1
          have hk1 : RS.ok t1' := by have := sdR_ok I1.out.rd.ok; rw [HD1.out] at this; exact this
          have q2 := sdR_le hk1
          rw [HD2'.out] at q2
          exact ⟨q1, q2⟩⟩
       clear hr5 hg5 r6 b6 vo6 HPB HPSB HNB HSZ HPN HBA W1 HS1 HS2 m0 m1 m2 m3 m4 m5 m6 m7 m8 m9 v0
       go_wp2_with fail
       go_roundw
       case rel => exact ⟨mk, f2, _, _, _, by have := HMK.out; go_num, rfl, I6.out, hgf.out⟩
       case measure => have := HMK.out; simp [RowKit.intOf]; omega
    | false =>
     have HEX : Hid (readVwR mm t = ([], true, t)) := Lib.hid (by
      have h := HBB.out
      rw [Bool.and_eq_false_iff] at h
      rcases h with h | h
      ·have : mm = 0 := by have := of_decide_eq_false h; omega
       subst this; rfl
      ·exact vwR_bad mm (by simpa using h))
     have HRE : Hid (readVwR n t2 = (acc, f, t)) := Lib.hid (by
      have e1 := I1.out.e1
      have e2 := I1.out.e2
      have e3 := I1.out.e3
      rw [HEX.out] at e1 e2 e3
      have e1' : acc = (readVwR n t2).1 := by rw [← e1]; exact (List.append_nil _).symm
      have e2' : f = (readVwR n t2).2.1 := by rw [← e2]; exact (Bool.and_true _).symm
      rw [e1', e2', show t = (readVwR n t2).2.2 from e3])
     have HD3 : Hid ((dW, dV, dQ) = decT q (acc, f, t)) := Lib.hid (by rw [HD2.out, Int.toNat_natCast, HRE.out])
     have HB5 : Hid (Below w.heap.size w wz) := Lib.hid I1.out.rd.bel
     clear HD2 HRE HEX HBB hbb
     cases f with
     | false =>
      have HR : Hid (dW = 12 ∧ dV = [] ∧ dQ = 0) := Lib.hid (by have h1 := HD3.out; rw [decT_fine] at h1; injection h1 with h1 h2; injection h2 with h2 h3; exact ⟨h1, h2, h3⟩)
      have g0 : wz.cell? ⟨g, 0, none⟩ = some (.slice none 0 0) := HG1.out.cell 0
      have z0 : wz.frozen? ⟨g, 0, none⟩ = false := HG1.out.frozen 0
      go_wp2_with fail
      clear g0 z0
      have k0 : (wz.setCell ⟨g, 0, none⟩ (.slice none 0 0)).cell? ⟨g, 0, none⟩ = some (.slice none 0 0) := (HG1.out.set_ 0 (.slice none 0 0)).cell 0
      have hbz := HB5.out.setCell (p := ⟨g, 0, none⟩) (Nat.le_of_eq HGG.out) (.slice none 0 0)
      refine bodyPost_ret (v := .tuple #[.agg #[.slice none 0 0], .int .i64 0, .int .i64 12]) (by simp [results, Try.results41, go_sem, k0]) rfl ⟨_, by rw [HR.out.1, HR.out.2.2], by rw [HR.out.2.1]; exact VO.nil _ _, hbz⟩
     | true =>
      have HE := Lib.hid (end4_any I1.out.rd)
      by_cases he : endP t = 0
      ·rw [he] at HE
       have HD4 : Hid ((dW, dV, dQ) = if rightV acc = true then (0, acc, q) else (12, [], 0)) := Lib.hid (by rw [HD3.out]; exact decT_right he)
       obtain ⟨av, cv, hvf⟩ := I1.out.vo.form
       subst hvf
       clear he HD3
       go_wp2_with fail
       refine HE.out.mono ?_
       rintro e wa ⟨rfl, hbe⟩
       have HB6 := Lib.hid (HB5.out.trans (hbe.mono HB5.out.size))
       have HG6 := Lib.hid (HG1.out.below hbe)
       have HV6 := Lib.hid (I1.out.vo.below hbe)
       have HX6 := Lib.hid (I1.out.bx.below hbe)
       have v0 : wa.cell? ⟨g9, 0, none⟩ = some (.slice av acc.length cv) := HX6.out.cell 0
       have HVR := Lib.hid (rright_any HV6.out (by have := I1.out.len; have := HNN.out; omega) (fun p hp => ⟨Nat.le_trans (I1.out.le p hp).1 (by decide), Nat.le_trans (I1.out.le p hp).2 (by decide)⟩))
       obtain ⟨rv, hrv⟩ : ∃ rv, rightV acc = rv := ⟨_, rfl⟩
       rw [hrv] at HVR HD4
       clear HE hbe hrv HB5 HG1 I1
       go_wp2_with fail
       refine HVR.out.mono ?_
       rintro e wb ⟨rfl, hb⟩
       have HB7 := Lib.hid (HB6.out.trans (hb.mono HB6.out.size))
       have HG7 := Lib.hid (HG6.out.below hb)
       have HV7 := Lib.hid (HV6.out.below hb)
       have HX7 := Lib.hid (HX6.out.below hb)
       clear hb HVR v0 HB6 HG6 HV6 HX6
       cases rv with
       | false =>
        have HR : Hid (dW = 12 ∧ dV = [] ∧ dQ = 0) := Lib.hid (by have h1 := HD4.out; rw [if_neg (by decide)] at h1; injection h1 with h1 h2; injection h2 with h2 h3; exact ⟨h1, h2, h3⟩)
        have g0 : wb.cell? ⟨g, 0, none⟩ = some (.slice none 0 0) := HG7.out.cell 0
        have z0 : wb.frozen? ⟨g, 0, none⟩ = false := HG7.out.frozen 0
        go_wp2_with fail
        clear g0 z0
        have k0 : (wb.setCell ⟨g, 0, none⟩ (.slice none 0 0)).cell? ⟨g, 0, none⟩ = some (.slice none 0 0) := (HG7.out.set_ 0 (.slice none 0 0)).cell 0
        have hbz := HB7.out.setCell (p := ⟨g, 0, none⟩) (Nat.le_of_eq HGG.out) (.slice none 0 0)
        refine bodyPost_ret (v := .tuple #[.agg #[.slice none 0 0], .int .i64 0, .int .i64 12]) (by simp [results, Try.results41, go_sem, k0]) rfl ⟨_, by rw [HR.out.1, HR.out.2.2], by rw [HR.out.2.1]; exact VO.nil _ _, hbz⟩
       | true =>
        have HR : Hid (dW = 0 ∧ dV = acc ∧ dQ = q) := Lib.hid (by have h1 := HD4.out; rw [if_pos rfl] at h1; injection h1 with h1 h2; injection h2 with h2 h3; exact ⟨h1, h2, h3⟩)
        have v0 : wb.cell? ⟨g9, 0, none⟩ = some (.slice av acc.length cv) := HX7.out.cell 0
        have g0 : wb.cell? ⟨g, 0, none⟩ = some (.slice none 0 0) := HG7.out.cell 0
        have z0 : wb.frozen? ⟨g, 0, none⟩ = false := HG7.out.frozen 0
        go_wp2_with fail
        clear g0 z0 v0
        have k0 : (wb.setCell ⟨g, 0, none⟩ (.slice av acc.length cv)).cell? ⟨g, 0, none⟩ = some (.slice av acc.length cv) := (HG7.out.set_ 0 (.slice av acc.length cv)).cell 0
        have hbz := HB7.out.setCell (p := ⟨g, 0, none⟩) (Nat.le_of_eq HGG.out) (.slice av acc.length cv)
        have hvz := HV7.out.keep (keep1 wb g 0 (.slice av acc.length cv)) (fun k hk e => hk.ne HG7.out.tyd (by decide) e) (fun k hk e => hk.ne HG7.out.tyd (by decide) e)
        refine bodyPost_ret (v := .tuple #[.agg #[.slice av acc.length cv], .int .i64 q, .int .i64 0]) (by simp [results, Try.results41, go_sem, k0]) rfl ⟨_, by rw [HR.out.1, HR.out.2.2], by rw [HR.out.2.1]; exact hvz, hbz⟩
      ·have heb : (endP t != 0) = true := by simpa using he
       have HR : Hid (dW = 12 ∧ dV = [] ∧ dQ = 0) := Lib.hid (by have h1 := HD3.out; rw [decT_end he] at h1; injection h1 with h1 h2; injection h2 with h2 h3; exact ⟨h1, h2, h3⟩)
       clear he
       go_wp2_with fail
       refine HE.out.mono ?_
       rintro e wa ⟨rfl, hbe⟩
       have HB6 := Lib.hid (HB5.out.trans (hbe.mono HB5.out.size))
       have HG6 := Lib.hid (HG1.out.below hbe)
       clear HE hbe
       have g0 : wa.cell? ⟨g, 0, none⟩ = some (.slice none 0 0) := HG6.out.cell 0
       have z0 : wa.frozen? ⟨g, 0, none⟩ = false := HG6.out.frozen 0
       go_wp2_with fail
       clear g0 z0
       have k0 : (wa.setCell ⟨g, 0, none⟩ (.slice none 0 0)).cell? ⟨g, 0, none⟩ = some (.slice none 0 0) := (HG6.out.set_ 0 (.slice none 0 0)).cell 0
       have hbz := HB6.out.setCell (p := ⟨g, 0, none⟩) (Nat.le_of_eq HGG.out) (.slice none 0 0)
       refine bodyPost_ret (v := .tuple #[.agg #[.slice none 0 0], .int .i64 0, .int .i64 12]) (by simp [results, Try.results41, go_sem, k0]) rfl ⟨_, by rw [HR.out.1, HR.out.2.2], by rw [HR.out.2.1]; exact VO.nil _ _, hbz⟩
end
end Go.Proofs.Ytmaijkoopjocdaa
