/- Merged: R4 Dec Dec2 Ve. -/
import Derived.Test.YtmaijkoopjocdaaGA
import Derived.Deep.DeepCutAuto
/- The document's bytes that are read: the walks of cornhillref4.Reader's take, Byte, Long, End. -/
namespace Go.Proofs.Ytmaijkoopjocdaa
open Go.RowKit Go.Lib

def whyP (s : RS) : Int := if s.bad = true then 10 else 0
structure RR4 (W w : World) (pr : Nat) (s : RS) : Prop where
 box : ∃ (a : Option Addr) (c : Nat) (X : List Int) (p : Nat), Blk w pr 111 #[.slice a X.length c, .int .i64 p, .int .i64 (whyP s)] ∧ SlOk a X.length c ∧ X.length ≤ c ∧ BYL.Rd w a X ∧ (∀ b off, a = some ⟨b, off, none⟩ → X ≠ [] → b < W.heap.size) ∧ p ≤ X.length ∧ s.bs = X.drop p ∧ X.length ≤ 900000
 base : W.heap.size ≤ pr
 bel : Below W.heap.size W w
 ok : s.ok
section
variable {W w w' : World} {pr : Nat} {s : RS}
theorem RR4.keep {F : Nat → Prop} (h : RR4 W w pr s) (hk : Keeps F w w') (hp : ¬ F pr) (hF : ∀ k, F k → W.heap.size ≤ k) : RR4 W w' pr s := by
 obtain ⟨⟨a, c, X, p, h1, h2, h3, h4, h5, hr⟩, h6, h7, h8⟩ := h
 exact ⟨⟨a, c, X, p, h1.keeps hk hp, h2, h3, BYL_keep h4 hk fun b off e hx hf => by have := hF b hf; have := h5 b off e hx; omega, h5, hr⟩, h6, h7.trans (hk.below hF h7.size), h8⟩
theorem RR4.below (h : RR4 W w pr s) (hb : Below w.heap.size w w') : RR4 W w' pr s :=
 h.keep (F := fun _ => False) (Below.keeps hb) (fun h => h) (fun _ h => h.elim)
set_option maxRecDepth 20000 in
set_option maxHeartbeats 8000000 in
theorem take4_any (h : RR4 W w pr s) (n : Nat) (hn : 1 ≤ n) (hn8 : n ≤ 8) :
  Calls Try.prog 82 #[.pointer (some ⟨pr, 0, none⟩), .int .i64 n] w fun e w' => ∃ v, e = .returned v ∧ BYL.Sl w' v (s.take n).1 ∧ RR4 W w' pr (s.take n).2 ∧ Keeps (fun g => g = pr) w w' := by
 have H := Lib.hid h
 obtain ⟨bs, bad⟩ := s
 obtain ⟨⟨a, c, X, p, hb, ho, hlc, hrd, hlw, hp, hx, hl⟩, h5, h6, h7⟩ := h
 dsimp only at *
 have hne : ∀ b off, a = some ⟨b, off, none⟩ → X ≠ [] → b ≠ pr := fun b off e hx => by have := hlw b off e hx; omega
 subst hx
 have hdl : (X.drop p).length = X.length - p := List.length_drop
 cases bad with
 | true =>
  have HT : Hid ((⟨X.drop p, true⟩ : RS).take n = ([], ⟨X.drop p, true⟩)) := Lib.hid (RS.bad_take rfl)
  rw [HT.out]
  have c2 : w.cell? ⟨pr, 2, none⟩ = some (.int .i64 10) := hb.cell 2
  clear hb ho hrd hne h5 h6 h7
  go_enter Try.func82, Try.ntmps82
  go_wp2_with fail
  go_ret
  exact ⟨_, rfl, Lay.Sl.nil, H.out, Keeps.refl _ _⟩
 | false =>
  have c0 : w.cell? ⟨pr, 0, none⟩ = some (.slice a X.length c) := hb.cell 0
  have c1 : w.cell? ⟨pr, 1, none⟩ = some (.int .i64 p) := hb.cell 1
  have c2 : w.cell? ⟨pr, 2, none⟩ = some (.int .i64 0) := hb.cell 2
  have fz : ∀ o, w.frozen? ⟨pr, o, none⟩ = false := fun o => hb.frozen o
  have y1 : IntKind.i64.wrap ((X.length : Int) - (p : Int)) = (X.length : Int) - (p : Int) := IntWalk.i64_in _ (by omega)
  by_cases hlt : X.length - p < n
  ·have HT : Hid ((⟨X.drop p, false⟩ : RS).take n = ([], ⟨X.drop p, true⟩)) := Lib.hid (if_pos (.inr (by rw [hdl]; exact hlt)))
   rw [HT.out]
   have hlt' : (X.length : Int) - (p : Int) < (n : Int) := by omega
   have hbad : ∀ q, RR4 W ((w.drewN q).setCell ⟨pr, 2, none⟩ (.int .i64 10)) pr ⟨X.drop p, true⟩ := fun q => ⟨⟨a, c, X, p, (hb.drewN q).set_ 2 _, ho, hlc, BYL_keep (hrd.below (Below.drewN_of w q)) (keep1 (w.drewN q) pr 2 _) hne, hlw, hp, rfl, hl⟩, h5, (h6.trans ((Below.drewN_of w q).mono h6.size)).setCell (p := ⟨pr, 2, none⟩) h5 _, h7⟩
   have HBAD := Lib.hid hbad
   clear hb ho hrd hne h5 h6 h7 hbad
   go_enter Try.func82, Try.ntmps82
   go_wp2_with fail
   go_quiet (fail)
   go_wp2_with fail
   go_ret
   exact ⟨_, rfl, Lay.Sl.nil, HBAD.out _, (Below.keeps (Below.drewN_of w _)).trans (keep1 _ pr 2 _)⟩
  ·have HT : Hid ((⟨X.drop p, false⟩ : RS).take n = ((X.drop p).take n, ⟨(X.drop p).drop n, false⟩)) := Lib.hid (if_neg (by rintro (h | h); cases h; rw [hdl] at h; exact hlt h))
   rw [HT.out]
   have hlt' : ¬ (X.length : Int) - (p : Int) < (n : Int) := by omega
   cases a with
   | none => have := (ho.1 rfl).1; omega
   | some ad =>
    obtain ⟨b, off, rfl⟩ := ho.2.1 ad rfl
    have y2 : IntKind.i64.wrap ((p : Int) + (n : Int)) = (p : Int) + (n : Int) := IntWalk.i64_in _ (by omega)
    have hsl : ∀ q, BYL.Sl ((w.drewN q).setCell ⟨pr, 1, none⟩ (.int .i64 ((p : Int) + (n : Int)))) (.slice (if c = p then some (⟨b, off, none⟩ : Addr) else some ⟨b, off + p, none⟩) (p + n - p) (c - p)) ((X.drop p).take n) := by
     intro q
     have htl : ((X.drop p).take n).length = n := by rw [List.length_take, hdl]; omega
     refine ⟨if c = p then some (⟨b, off, none⟩ : Addr) else some ⟨b, off + p, none⟩, c - p, by rw [htl, Nat.add_sub_cancel_left], SlOk.drop (by omega), ?_⟩
     exact Lay.Rd.take (rd_drop (BYL_keep (hrd.below (Below.drewN_of w q)) (keep1 (w.drewN q) pr 1 _) hne) hlc) n
    have hbx : ∀ q, RR4 W ((w.drewN q).setCell ⟨pr, 1, none⟩ (.int .i64 ((p : Int) + (n : Int)))) pr ⟨(X.drop p).drop n, false⟩ := fun q => ⟨⟨_, c, X, p + n, (hb.drewN q).set_ 1 _, ho, hlc, BYL_keep (hrd.below (Below.drewN_of w q)) (keep1 (w.drewN q) pr 1 _) hne, hlw, by omega, by dsimp only; rw [List.drop_drop], hl⟩, h5, (h6.trans ((Below.drewN_of w q).mono h6.size)).setCell (p := ⟨pr, 1, none⟩) h5 _, fun z hz => h7 z (List.mem_of_mem_drop hz)⟩
    have z1 : c ≠ p := by omega
    have z2 : p ≤ p + n := by omega
    have z3 : p + n ≤ c := by omega
    have z4 : p + n - p = n := by omega
    simp only [if_neg z1] at hsl
    have HSL := Lib.hid hsl
    have HBX := Lib.hid hbx
    clear hb ho hrd hne h5 h6 h7 hsl hbx H
    go_enter Try.func82, Try.ntmps82
    go_wp2_with fail
    go_quiet (fail)
    go_wp2_with fail
    go_quiet (fail)
    go_wp2_with fail
    go_ret
    exact ⟨_, rfl, HSL.out _, HBX.out _, (Below.keeps (Below.drewN_of w _)).trans (keep1 _ pr 1 _)⟩
set_option maxRecDepth 20000 in
set_option maxHeartbeats 4000000 in
theorem byte4_any (h : RR4 W w pr s) :
  Calls Try.prog 57 #[.pointer (some ⟨pr, 0, none⟩)] w fun e w' => e = .returned (.int .i64 (s.num 1).1) ∧ RR4 W w' pr (s.num 1).2 ∧ Keeps (fun g => g = pr) w w' := by
 have HT := Lib.hid (take4_any h 1 (Nat.le_refl 1) (by decide))
 have hok := RS.take_ok (n := 1) h.ok
 have hlen := RS.take_len 1 s
 have e1 : Hid ((s.num 1).1 = leZ (s.take 1).1) := Lib.hid rfl
 have e2 : Hid ((s.num 1).2 = (s.take 1).2) := Lib.hid rfl
 rw [e1.out, e2.out]
 clear e1 e2 h
 generalize (s.take 1).1 = x at *
 generalize (s.take 1).2 = s' at *
 match x, hlen.1 with
 | [], _ =>
  clear hok hlen
  go_enter Try.func57, Try.ntmps57
  go_wp2_with fail
  refine HT.out.mono ?_
  rintro e w1 ⟨v, rfl, ⟨a, c, rfl, _, _⟩, hrd, hk⟩
  have HR := Lib.hid hrd
  have HK := Lib.hid hk
  clear hrd hk HT
  go_wp2_with fail
  go_ret
  exact ⟨by rfl, HR.out, HK.out⟩
 | [z], _ =>
  have hz := hok.2 z (by simp)
  have y1 : IntKind.i64.wrap z = z := IntWalk.i64_in _ (by unfold isByte at hz; omega)
  have hv : leZ [z] = z := by simp [leZ]
  rw [hv]
  clear hok hlen hz hv
  go_enter Try.func57, Try.ntmps57
  go_wp2_with fail
  refine HT.out.mono ?_
  rintro e w1 ⟨v, rfl, hsl, hrd, hk⟩
  obtain ⟨b, off, c, hv, c0⟩ := crc_at hsl (k := 0) (z := z) rfl
  rw [show [z].length = 1 from rfl] at hv
  rw [Nat.add_zero] at c0
  subst hv
  have HR := Lib.hid hrd
  have HK := Lib.hid hk
  clear hrd hk HT hsl
  go_wp2_with fail
  go_ret
  exact ⟨by trivial, HR.out, HK.out⟩
 | _ :: _ :: _, h => exact absurd h (by simp)
set_option maxRecDepth 20000 in
set_option maxHeartbeats 4000000 in
theorem long4_any (h : RR4 W w pr s) :
  Calls Try.prog 56 #[.pointer (some ⟨pr, 0, none⟩)] w fun e w' => e = .returned (.int .i64 s.long.1) ∧ RR4 W w' pr s.long.2 ∧ Keeps (fun g => g = pr) w w' := by
 have hok := RS.take_ok (n := 8) h.ok
 have hlen := RS.take_len 8 s
 have e1 : Hid (s.long.1 = IntKind.i64.wrap (leZ (s.take 8).1)) := Lib.hid rfl
 have e2 : Hid (s.long.2 = (s.take 8).2) := Lib.hid rfl
 rw [e1.out, e2.out]
 clear e1 e2
 have HT := Lib.hid (take4_any h 8 (by decide) (Nat.le_refl 8))
 clear h
 generalize (s.take 8).1 = x at *
 generalize (s.take 8).2 = s' at *
 have HO := Lib.hid hok.2
 have HL : Hid (x.length ≤ 8) := Lib.hid (by omega)
 have HW : Hid (IntKind.i64.wrap (leZ x) = wrap64 (leZ x)) := Lib.hid (IntWalk.i64_left _)
 rw [HW.out]
 clear hok hlen
 go_enter Try.func56, Try.ntmps56
 go_wp2_with fail
 refine HT.out.mono ?_
 rintro e w1 ⟨v, rfl, hsl, hrd, hk⟩
 have HS := Lib.hid hsl
 have HR := Lib.hid hrd
 have HK := Lib.hid hk
 clear hsl hrd hk HT
 obtain ⟨a, c, rfl, _, _⟩ := HS.out
 go_wp2_with fail
 go_loopw [4, 5] (fun y i w' => ∃ k : Nat, i = .int .i64 k ∧ y = .int .u64 (leZ (x.take k)) ∧ k ≤ x.length ∧ w1 = w') (fun _ i _ => x.length - (RowKit.intOf i).toNat)
 case atStart => exact ⟨0, rfl, rfl, Nat.zero_le _, rfl⟩
 case round =>
  obtain ⟨k, rfl, rfl, hk, rfl⟩ := hrel
  by_cases hlt : k < x.length
  ·have hlt' : (k : Int) < (x.length : Int) := by omega
   have hk8 : k < 8 := by have := HL.out; omega
   obtain ⟨z, hz⟩ : ∃ z, x[k]? = some z := ⟨_, List.getElem?_eq_getElem hlt⟩
   obtain ⟨g, off, c', he, c0⟩ := crc_at HS.out hz
   injection he with he _ he3
   subst he
   subst he3
   have hzb : isByte z := HO.out z (List.mem_of_getElem? hz)
   have htl : (x.take k).length = k := by rw [List.length_take]; omega
   have hrg := leZ_range (x.take k) (fun q hq => HO.out q (List.mem_of_mem_take hq))
   rw [htl] at hrg
   have HST : Hid (bits .or .u64 (leZ (x.take k)) (z * 256 ^ k) = leZ (x.take (k + 1))) := Lib.hid (by rw [or_step hk8 hrg.1 hrg.2 hzb, take_snoc hz, leZ_snoc, htl])
   have HP : Hid ((2 : Int) ^ (8 * k) = 256 ^ k) := Lib.hid (by rw [Int.pow_mul]; rfl)
   have HST0 : Hid (IntKind.u64.wrap (z * 256 ^ k) = z * 256 ^ k) := Lib.hid (by
    have e : (2 : Int) ^ (8 * k) = 256 ^ k := by rw [Int.pow_mul]; rfl
    have h56 : (2 : Int) ^ (8 * k) ≤ 2 ^ 56 := by exact_mod_cast Nat.pow_le_pow_right (n := 2) (by decide) (show 8 * k ≤ 56 by omega)
    have hp : (0 : Int) < 2 ^ (8 * k) := Int.pow_pos (by decide)
    have hz1 : 0 ≤ z * 2 ^ (8 * k) := Int.mul_nonneg hzb.1 (Int.le_of_lt hp)
    have hz2 : z * 2 ^ (8 * k) ≤ 255 * 2 ^ (8 * k) := Int.mul_le_mul_of_nonneg_right hzb.2 (Int.le_of_lt hp)
    rw [← e]
    exact u64_wrap_id _ hz1 (by omega))
   have y1 : IntKind.i64.wrap (8 * (k : Int)) = 8 * (k : Int) := IntWalk.i64_in _ (by omega)
   have y2 : IntKind.u64.wrap z = z := u64_wrap_id z (by have := hzb.1; omega) (by have := hzb.2; omega)
   have y3 : IntKind.u64.wrap (8 * (k : Int)) = 8 * (k : Int) := u64_wrap_id _ (by omega) (by omega)
   clear hz hzb htl hrg
   generalize leZ (x.take k) = yk at *
   go_wp2_with fail
   go_roundw
   case rel => exact ⟨k + 1, by go_num, by rw [HP.out, HST0.out, HST.out], hlt, by trivial⟩
   case measure => simp [RowKit.intOf]; omega
  ·obtain rfl : k = x.length := by omega
   rw [List.take_length]
   go_wp2_with fail
   go_ret
   exact ⟨by trivial, HR.out, HK.out⟩
set_option maxRecDepth 20000 in
set_option maxHeartbeats 2000000 in
theorem end4_any (h : RR4 W w pr s) :
  Calls Try.prog 58 #[.pointer (some ⟨pr, 0, none⟩)] w fun e w' => e = .returned (.int .i64 (endP s)) ∧ Below w.heap.size w w' := by
 obtain ⟨bs, bad⟩ := s
 obtain ⟨a, c, X, p, hb, _, _, _, _, hp, hx, hl⟩ := h.box
 dsimp only at hb hx
 subst hx
 have c0 : w.cell? ⟨pr, 0, none⟩ = some (.slice a X.length c) := hb.cell 0
 have c1 : w.cell? ⟨pr, 1, none⟩ = some (.int .i64 p) := hb.cell 1
 cases bad with
 | true =>
  have c2 : w.cell? ⟨pr, 2, none⟩ = some (.int .i64 10) := hb.cell 2
  clear hb h
  go_enter Try.func58, Try.ntmps58
  go_wp2_with fail
  go_ret
  exact ⟨by rfl, Below.refl _ _⟩
 | false =>
  have c2 : w.cell? ⟨pr, 2, none⟩ = some (.int .i64 0) := hb.cell 2
  clear hb h
  by_cases hlt : p < X.length
  ·have hlt' : (p : Int) < (X.length : Int) := by omega
   have HE : Hid (endP ⟨X.drop p, false⟩ = 15) := Lib.hid (by
    unfold endP
    have hne : X.drop p ≠ [] := by intro h0; have := congrArg List.length h0; rw [List.length_drop, List.length_nil] at this; omega
    rw [if_neg (by simp), if_neg hne])
   rw [HE.out]
   go_enter Try.func58, Try.ntmps58
   go_wp2_with fail
   go_quiet (fail)
   go_wp2_with fail
   go_ret
   exact ⟨by trivial, Below.drewN_of w _⟩
  ·have hlt' : ¬ (p : Int) < (X.length : Int) := by omega
   have HE : Hid (endP ⟨X.drop p, false⟩ = 0) := Lib.hid (by
    unfold endP
    rw [if_neg (by simp), if_pos (List.drop_eq_nil_of_le (by omega))])
   rw [HE.out]
   go_enter Try.func58, Try.ntmps58
   go_wp2_with fail
   go_quiet (fail)
   go_wp2_with fail
   go_ret
   exact ⟨by trivial, Below.drewN_of w _⟩
end
end Go.Proofs.Ytmaijkoopjocdaa

/- The walk of feed.Decode. -/
namespace Go.Proofs.Ytmaijkoopjocdaa
open Go.RowKit Go.Lib

section
variable {W w w' : World} {pr : Nat} {s s' : RS} {x : Int}
theorem rlong_eq (h : RDR W w pr s) (he : s.long = (x, s')) :
  Calls Try.prog 49 #[.pointer (some ⟨pr, 0, none⟩)] w fun e w' => e = .returned (.int .i64 x) ∧ RDR W w' pr s' ∧ Keeps (fun g => g = pr) w w' := by
 have := rlong_any h
 rw [he] at this
 exact this
theorem rbyte_eq (h : RDR W w pr s) (he : s.num 1 = (x, s')) :
  Calls Try.prog 50 #[.pointer (some ⟨pr, 0, none⟩)] w fun e w' => e = .returned (.int .i64 x) ∧ RDR W w' pr s' ∧ Keeps (fun g => g = pr) w w' := by
 have := rbyte_any h
 rw [he] at this
 exact this
theorem long4_eq (h : RR4 W w pr s) (he : s.long = (x, s')) :
  Calls Try.prog 56 #[.pointer (some ⟨pr, 0, none⟩)] w fun e w' => e = .returned (.int .i64 x) ∧ RR4 W w' pr s' ∧ Keeps (fun g => g = pr) w w' := by
 have := long4_any h
 rw [he] at this
 exact this
theorem byte4_eq (h : RR4 W w pr s) (he : s.num 1 = (x, s')) :
  Calls Try.prog 57 #[.pointer (some ⟨pr, 0, none⟩)] w fun e w' => e = .returned (.int .i64 x) ∧ RR4 W w' pr s' ∧ Keeps (fun g => g = pr) w w' := by
 have := byte4_any h
 rw [he] at this
 exact this
theorem rawM_eq {s s1 s2 s3 s4 s5 s6 s7 : RS} {q i d p t c n : Int} (h1 : s.long = (q, s1)) (h2 : s1.num 1 = (i, s2)) (h3 : s2.num 1 = (d, s3)) (h4 : s3.long = (p, s4)) (h5 : s4.long = (t, s5)) (h6 : s5.long = (c, s6)) (h7 : s6.num 1 = (n, s7)) :
  rawM s = (⟨q, i, d, p, t, c, n == 1⟩, n, s7) := by
 unfold rawM
 simp only [h1, h2, h3, h4, h5, h6, h7]
def decR (m : Mg) (n : Int) (s : RS) : Option Mg := if (s.bad = true ∨ s.bs ≠ []) ∨ 1 < n ∨ ¬ (m.side = 1 ∨ m.side = 2) then none else some m
theorem decM_eq {b : List Int} {m : Mg} {n : Int} {s : RS} (h : rawM ⟨b, false⟩ = (m, n, s)) : decM b = decR m n s := by
 unfold decM decR
 rw [h]
/-- what comes back of a reading -/
def decV (o : Option Mg) : Value := .tuple #[.agg (o.getD zeroMg).cells.toArray, .int .i64 (if o.isSome = true then 0 else 12)]
theorem endP_bad {s : RS} : endP s = 0 ↔ ¬ (s.bad = true ∨ s.bs ≠ []) := by
 unfold endP
 by_cases h1 : s.bad = true
 ·simp [h1]
 ·by_cases h2 : s.bs = []
  ·simp [h1, h2]
  ·simp [h1, h2]
set_option maxRecDepth 20000 in
set_option maxHeartbeats 8000000 in
theorem dec_any {w : World} {v : Value} {b : List Int} (h : BYL.Sl w v b) (hl : b.length ≤ 900000) (hok : ∀ z ∈ b, isByte z) :
  Calls Try.prog 20 #[v] w fun e w' => e = .returned (decV (decM b)) ∧ Below w.heap.size w w' := by
 obtain ⟨q, s1, h1⟩ : ∃ q s1, (⟨b, false⟩ : RS).long = (q, s1) := ⟨_, _, rfl⟩
 obtain ⟨i, s2, h2⟩ : ∃ q t, s1.num 1 = (q, t) := ⟨_, _, rfl⟩
 obtain ⟨d, s3, h3⟩ : ∃ q t, s2.num 1 = (q, t) := ⟨_, _, rfl⟩
 obtain ⟨p, s4, h4⟩ : ∃ q t, s3.long = (q, t) := ⟨_, _, rfl⟩
 obtain ⟨t, s5, h5⟩ : ∃ q t, s4.long = (q, t) := ⟨_, _, rfl⟩
 obtain ⟨c, s6, h6⟩ : ∃ q t, s5.long = (q, t) := ⟨_, _, rfl⟩
 obtain ⟨n, s7, h7⟩ : ∃ q t, s6.num 1 = (q, t) := ⟨_, _, rfl⟩
 rw [decM_eq (rawM_eq h1 h2 h3 h4 h5 h6 h7)]
 obtain ⟨fl, hfl⟩ : ∃ fl, (n == 1) = fl := ⟨_, rfl⟩
 rw [hfl]
 have H1 := Lib.hid h1
 have H2 := Lib.hid h2
 have H3 := Lib.hid h3
 have H4 := Lib.hid h4
 have H5 := Lib.hid h5
 have H6 := Lib.hid h6
 have H7 := Lib.hid h7
 clear h1 h2 h3 h4 h5 h6 h7
 have HBL := Lib.hid (Below.allocN w (.cells zeroMg.cells.toArray 34))
 have HG : Hid (Blk (w.alloc (.cells zeroMg.cells.toArray 34)) w.heap.size 34 zeroMg.cells.toArray) := Lib.hid (Blk.new _ _ _)
 have HNR := Lib.hid (newr_any (h.below HBL.out) hl hok)
 clear h hl hok
 unfold zeroMg Mg.cells at HBL HG HNR
 dsimp only at HBL HG HNR
 go_enter Try.func20, Try.ntmps20
 go_wp2_with fail
 refine HNR.out.mono ?_
 rintro e w1 ⟨pr, rfl, hr⟩
 obtain ⟨g, hg⟩ : ∃ g, w.heap.size = g := ⟨_, rfl⟩
 have hne : g ≠ pr := by have := hr.base; have := HG.out.lt; omega
 have hgg : Blk w1 g 34 #[.int .i64 0, .int .i64 0, .int .i64 0, .int .i64 0, .int .i64 0, .int .i64 0, .bool false] := by rw [← hg]; exact HG.out.below hr.bel
 have hb1 : Below w.heap.size w w1 := HBL.out.trans (hr.bel.mono HBL.out.size)
 rw [hg] at ⊢
 have G0 := Lib.hid hgg
 have R0 := Lib.hid hr
 have B0 := Lib.hid hb1
 have NE := Lib.hid hne
 have HGG := Lib.hid hg
 have HW : Hid (w.heap.size ≤ _) := Lib.hid HBL.out.size
 have HBW := HBL
 clear hr hne hgg hb1 hg HNR HG HBL
 generalize w.alloc _ = W0 at *
 go_wp2_with fail
 refine (rlong_eq R0.out H1.out).mono ?_
 rintro e w2 ⟨rfl, hr, hk⟩
 have R1 := Lib.hid hr
 have K1 := Lib.hid hk
 clear hr hk
 go_wp2_with fail
 refine (rbyte_eq R1.out H2.out).mono ?_
 rintro e w3 ⟨rfl, hr, hk⟩
 have R2 := Lib.hid hr
 have K2 := Lib.hid (K1.out.trans hk)
 clear hr hk R1 K1
 go_wp2_with fail
 refine (rbyte_eq R2.out H3.out).mono ?_
 rintro e w4 ⟨rfl, hr, hk⟩
 have R3 := Lib.hid hr
 have K3 := Lib.hid (K2.out.trans hk)
 clear hr hk R2 K2
 go_wp2_with fail
 refine (rlong_eq R3.out H4.out).mono ?_
 rintro e w5 ⟨rfl, hr, hk⟩
 have R4 := Lib.hid hr
 have K4 := Lib.hid (K3.out.trans hk)
 clear hr hk R3 K3
 go_wp2_with fail
 refine (rlong_eq R4.out H5.out).mono ?_
 rintro e w6 ⟨rfl, hr, hk⟩
 have R5 := Lib.hid hr
 have K5 := Lib.hid (K4.out.trans hk)
 clear hr hk R4 K4
 go_wp2_with fail
 refine (rlong_eq R5.out H6.out).mono ?_
 rintro e w7 ⟨rfl, hr, hk⟩
 have R6 := Lib.hid hr
 have K6 := Lib.hid (K5.out.trans hk)
 clear hr hk R5 K5
 go_upto_region 3 with (fail)
 have hgg := G0.out.keeps K6.out NE.out
 have hba := Below.allocN w7 (.cells #[.int .i64 q, .int .i64 i, .int .i64 d, .int .i64 p, .int .i64 t, .int .i64 c, .bool false] 34)
 have hmm : Blk (w7.alloc (.cells #[.int .i64 q, .int .i64 i, .int .i64 d, .int .i64 p, .int .i64 t, .int .i64 c, .bool false] 34)) w7.heap.size 34 #[.int .i64 q, .int .i64 i, .int .i64 d, .int .i64 p, .int .i64 t, .int .i64 c, .bool false] := Blk.new _ _ _
 have hb7 : Below w.heap.size w w7 := B0.out.trans ((K6.out.below (B := w.heap.size) (fun k hk => by have hk' : k = pr := hk; rw [hk']; exact Nat.le_trans HW.out R0.out.base) B0.out.size))
 obtain ⟨gm, hgm⟩ : ∃ gm, w7.heap.size = gm := ⟨_, rfl⟩
 have R7 := Lib.hid (R6.out.below hba)
 have G7 := Lib.hid (hgg.below hba)
 have B7 := Lib.hid (hb7.trans (hba.mono hb7.size))
 have N1 : Hid (gm ≠ pr) := Lib.hid (by obtain ⟨a, c, h, _⟩ := R6.out.box; have := h.lt; omega)
 have N2 : Hid (gm ≠ g) := Lib.hid (by have := hgg.lt; omega)
 have HWG : Hid (W0.heap.size ≤ gm) := Lib.hid (by have := R6.out.bel.size; omega)
 have N3 : Hid (w.heap.size ≤ gm) := Lib.hid (by have := hb7.size; omega)
 rw [hgm] at hmm ⊢
 have M7 := Lib.hid hmm
 clear hgg hba hmm hb7 hgm R6 K6 G0 B0
 generalize w7.alloc _ = W7 at *
 go_wp2_with fail
 refine (rbyte_eq R7.out H7.out).mono ?_
 rintro e w8 ⟨rfl, hr, hk⟩
 have hm8 := M7.out.keeps hk N1.out
 have hg8 := G7.out.keeps hk NE.out
 have hb8 := B7.out.trans (hk.below (B := w.heap.size) (fun k hk => by have hk' : k = pr := hk; rw [hk']; exact Nat.le_trans HW.out R0.out.base) B7.out.size)
 have R8 := Lib.hid (hr.keep (keep1 w8 gm 6 (.bool fl)) (Ne.symm N1.out) (fun b ht e => ht.ne hm8.tyd (by decide) e) (fun k hk => by have hk' : k = gm := hk; rw [hk']; exact HWG.out))
 have hm9 := hm8.set_ 6 (.bool fl)
 simp only [List.setIfInBounds_toArray, List.set_cons_zero, List.set_cons_succ] at hm9
 have M8 := Lib.hid hm9
 have G8 := Lib.hid (hg8.far (p := ⟨gm, 6, none⟩) (Ne.symm N2.out) (.bool fl))
 have B8 := Lib.hid (hb8.setCell (p := ⟨gm, 6, none⟩) N3.out (.bool fl))
 have fz8 : w8.frozen? ⟨gm, 6, none⟩ = false := hm8.frozen 6
 have c68 : w8.cell? ⟨gm, 6, none⟩ = some (.bool false) := hm8.cell 6
 clear hr hk hm8 hm9 hg8 hb8 R7 M7 G7 B7
 go_upto_region 5 with (fail)
 clear fz8 c68 hfl
 generalize w8.setCell ⟨gm, 6, none⟩ (.bool fl) = w9 at *
 have m0 : w9.cell? ⟨gm, 0, none⟩ = some (.int .i64 q) := M8.out.cell 0
 have m1 : w9.cell? ⟨gm, 1, none⟩ = some (.int .i64 i) := M8.out.cell 1
 have m2 : w9.cell? ⟨gm, 2, none⟩ = some (.int .i64 d) := M8.out.cell 2
 have m3 : w9.cell? ⟨gm, 3, none⟩ = some (.int .i64 p) := M8.out.cell 3
 have m4 : w9.cell? ⟨gm, 4, none⟩ = some (.int .i64 t) := M8.out.cell 4
 have m5 : w9.cell? ⟨gm, 5, none⟩ = some (.int .i64 c) := M8.out.cell 5
 have m6 : w9.cell? ⟨gm, 6, none⟩ = some (.bool fl) := M8.out.cell 6
 have l0 : w9.cell? ⟨g, 0, none⟩ = some (.int .i64 0) := G8.out.cell 0
 have l1 : w9.cell? ⟨g, 1, none⟩ = some (.int .i64 0) := G8.out.cell 1
 have l2 : w9.cell? ⟨g, 2, none⟩ = some (.int .i64 0) := G8.out.cell 2
 have l3 : w9.cell? ⟨g, 3, none⟩ = some (.int .i64 0) := G8.out.cell 3
 have l4 : w9.cell? ⟨g, 4, none⟩ = some (.int .i64 0) := G8.out.cell 4
 have l5 : w9.cell? ⟨g, 5, none⟩ = some (.int .i64 0) := G8.out.cell 5
 have l6 : w9.cell? ⟨g, 6, none⟩ = some (.bool false) := G8.out.cell 6
 have fz : ∀ o, w9.frozen? ⟨g, o, none⟩ = false := fun o => G8.out.frozen o
 have HE := Lib.hid (rend_any R8.out)
 have hep := endP_bad (s := s7)
 by_cases e0 : endP s7 = 0
 ·have hnb := hep.1 e0
  rw [e0] at HE
  by_cases e1 : 1 < n
  ·have HV : Hid (decR ⟨q, i, d, p, t, c, fl⟩ n s7 = none) := Lib.hid (if_pos (.inr (.inl e1)))
   clear e0 hnb
   clear hep
   go_wp2_with fail
   refine HE.out.mono ?_
   rintro e w10 ⟨rfl, rfl⟩
   clear HE
   go_wp2_with fail
   clear fz l0 l1 l2 l3 l4 l5 l6 m0 m1 m2 m3 m4 m5 m6
   have hz := G8.out.fillN7 (.int .i64 0) (.int .i64 0) (.int .i64 0) (.int .i64 0) (.int .i64 0) (.int .i64 0) (.bool false)
   have hbz := B8.out.trans ((Keeps.fillN7 w9 g (.int .i64 0) (.int .i64 0) (.int .i64 0) (.int .i64 0) (.int .i64 0) (.int .i64 0) (.bool false)).below (B := w.heap.size) (fun k hk => by have hk2 : k = g := hk; rw [hk2]; exact Nat.le_of_eq HGG.out) B8.out.size)
   generalize (((((((w9.setCell ⟨g, 0, none⟩ (.int .i64 0)).setCell ⟨g, 1, none⟩ (.int .i64 0)).setCell ⟨g, 2, none⟩ (.int .i64 0)).setCell ⟨g, 3, none⟩ (.int .i64 0)).setCell ⟨g, 4, none⟩ (.int .i64 0)).setCell ⟨g, 5, none⟩ (.int .i64 0)).setCell ⟨g, 6, none⟩ (.bool false)) = wz at *
   have k0 : wz.cell? ⟨g, 0, none⟩ = some (.int .i64 0) := hz.cell 0
   have k1 : wz.cell? ⟨g, 1, none⟩ = some (.int .i64 0) := hz.cell 1
   have k2 : wz.cell? ⟨g, 2, none⟩ = some (.int .i64 0) := hz.cell 2
   have k3 : wz.cell? ⟨g, 3, none⟩ = some (.int .i64 0) := hz.cell 3
   have k4 : wz.cell? ⟨g, 4, none⟩ = some (.int .i64 0) := hz.cell 4
   have k5 : wz.cell? ⟨g, 5, none⟩ = some (.int .i64 0) := hz.cell 5
   have k6 : wz.cell? ⟨g, 6, none⟩ = some (.bool false) := hz.cell 6
   refine bodyPost_ret (v := .tuple #[.agg #[.int .i64 0, .int .i64 0, .int .i64 0, .int .i64 0, .int .i64 0, .int .i64 0, .bool false], .int .i64 12]) (by simp [results, Try.results20, go_sem, k0, k1, k2, k3, k4, k5, k6]) rfl ⟨by rw [HV.out]; rfl, hbz⟩
  ·by_cases e2 : d = 1
   ·have HV : Hid (decR ⟨q, i, d, p, t, c, fl⟩ n s7 = some ⟨q, i, d, p, t, c, fl⟩) := Lib.hid (if_neg (by rintro (h | h | h); exact hnb h; exact e1 h; exact h (.inl e2)))
    have e2b : (d != 1) = false := by rw [e2]; rfl
    clear e0 hnb e2
    clear hep
    go_wp2_with fail
    refine HE.out.mono ?_
    rintro e w10 ⟨rfl, rfl⟩
    clear HE
    go_wp2_with fail
    clear fz l0 l1 l2 l3 l4 l5 l6 m0 m1 m2 m3 m4 m5 m6
    have hz := G8.out.fillN7 (.int .i64 q) (.int .i64 i) (.int .i64 d) (.int .i64 p) (.int .i64 t) (.int .i64 c) (.bool fl)
    have hbz := B8.out.trans ((Keeps.fillN7 w9 g (.int .i64 q) (.int .i64 i) (.int .i64 d) (.int .i64 p) (.int .i64 t) (.int .i64 c) (.bool fl)).below (B := w.heap.size) (fun k hk => by have hk2 : k = g := hk; rw [hk2]; exact Nat.le_of_eq HGG.out) B8.out.size)
    generalize (((((((w9.setCell ⟨g, 0, none⟩ (.int .i64 q)).setCell ⟨g, 1, none⟩ (.int .i64 i)).setCell ⟨g, 2, none⟩ (.int .i64 d)).setCell ⟨g, 3, none⟩ (.int .i64 p)).setCell ⟨g, 4, none⟩ (.int .i64 t)).setCell ⟨g, 5, none⟩ (.int .i64 c)).setCell ⟨g, 6, none⟩ (.bool fl)) = wz at *
    have k0 : wz.cell? ⟨g, 0, none⟩ = some (.int .i64 q) := hz.cell 0
    have k1 : wz.cell? ⟨g, 1, none⟩ = some (.int .i64 i) := hz.cell 1
    have k2 : wz.cell? ⟨g, 2, none⟩ = some (.int .i64 d) := hz.cell 2
    have k3 : wz.cell? ⟨g, 3, none⟩ = some (.int .i64 p) := hz.cell 3
    have k4 : wz.cell? ⟨g, 4, none⟩ = some (.int .i64 t) := hz.cell 4
    have k5 : wz.cell? ⟨g, 5, none⟩ = some (.int .i64 c) := hz.cell 5
    have k6 : wz.cell? ⟨g, 6, none⟩ = some (.bool fl) := hz.cell 6
    refine bodyPost_ret (v := .tuple #[.agg #[.int .i64 q, .int .i64 i, .int .i64 d, .int .i64 p, .int .i64 t, .int .i64 c, .bool fl], .int .i64 0]) (by simp [results, Try.results20, go_sem, k0, k1, k2, k3, k4, k5, k6]) rfl ⟨by rw [HV.out]; rfl, hbz⟩
   ·have e2b : (d != 1) = true := by simpa using e2
    by_cases e3 : d = 2
    ·have HV : Hid (decR ⟨q, i, d, p, t, c, fl⟩ n s7 = some ⟨q, i, d, p, t, c, fl⟩) := Lib.hid (if_neg (by rintro (h | h | h); exact hnb h; exact e1 h; exact h (.inr e3)))
     have e3b : (d != 2) = false := by rw [e3]; rfl
     clear e0 hnb e2 e3
     clear hep
     go_wp2_with fail
     refine HE.out.mono ?_
     rintro e w10 ⟨rfl, rfl⟩
     clear HE
     go_wp2_with fail
     clear fz l0 l1 l2 l3 l4 l5 l6 m0 m1 m2 m3 m4 m5 m6
     have hz := G8.out.fillN7 (.int .i64 q) (.int .i64 i) (.int .i64 d) (.int .i64 p) (.int .i64 t) (.int .i64 c) (.bool fl)
     have hbz := B8.out.trans ((Keeps.fillN7 w9 g (.int .i64 q) (.int .i64 i) (.int .i64 d) (.int .i64 p) (.int .i64 t) (.int .i64 c) (.bool fl)).below (B := w.heap.size) (fun k hk => by have hk2 : k = g := hk; rw [hk2]; exact Nat.le_of_eq HGG.out) B8.out.size)
     generalize (((((((w9.setCell ⟨g, 0, none⟩ (.int .i64 q)).setCell ⟨g, 1, none⟩ (.int .i64 i)).setCell ⟨g, 2, none⟩ (.int .i64 d)).setCell ⟨g, 3, none⟩ (.int .i64 p)).setCell ⟨g, 4, none⟩ (.int .i64 t)).setCell ⟨g, 5, none⟩ (.int .i64 c)).setCell ⟨g, 6, none⟩ (.bool fl)) = wz at *
     have k0 : wz.cell? ⟨g, 0, none⟩ = some (.int .i64 q) := hz.cell 0
     have k1 : wz.cell? ⟨g, 1, none⟩ = some (.int .i64 i) := hz.cell 1
     have k2 : wz.cell? ⟨g, 2, none⟩ = some (.int .i64 d) := hz.cell 2
     have k3 : wz.cell? ⟨g, 3, none⟩ = some (.int .i64 p) := hz.cell 3
     have k4 : wz.cell? ⟨g, 4, none⟩ = some (.int .i64 t) := hz.cell 4
     have k5 : wz.cell? ⟨g, 5, none⟩ = some (.int .i64 c) := hz.cell 5
     have k6 : wz.cell? ⟨g, 6, none⟩ = some (.bool fl) := hz.cell 6
     refine bodyPost_ret (v := .tuple #[.agg #[.int .i64 q, .int .i64 i, .int .i64 d, .int .i64 p, .int .i64 t, .int .i64 c, .bool fl], .int .i64 0]) (by simp [results, Try.results20, go_sem, k0, k1, k2, k3, k4, k5, k6]) rfl ⟨by rw [HV.out]; rfl, hbz⟩
    ·have e3b : (d != 2) = true := by simpa using e3
     have HV : Hid (decR ⟨q, i, d, p, t, c, fl⟩ n s7 = none) := Lib.hid (if_pos (.inr (.inr (by rintro (h | h); exact e2 h; exact e3 h))))
     clear e0 hnb e2 e3
     clear hep
     go_wp2_with fail
     refine HE.out.mono ?_
     rintro e w10 ⟨rfl, rfl⟩
     clear HE
     go_wp2_with fail
     clear fz l0 l1 l2 l3 l4 l5 l6 m0 m1 m2 m3 m4 m5 m6
     have hz := G8.out.fillN7 (.int .i64 0) (.int .i64 0) (.int .i64 0) (.int .i64 0) (.int .i64 0) (.int .i64 0) (.bool false)
     have hbz := B8.out.trans ((Keeps.fillN7 w9 g (.int .i64 0) (.int .i64 0) (.int .i64 0) (.int .i64 0) (.int .i64 0) (.int .i64 0) (.bool false)).below (B := w.heap.size) (fun k hk => by have hk2 : k = g := hk; rw [hk2]; exact Nat.le_of_eq HGG.out) B8.out.size)
     generalize (((((((w9.setCell ⟨g, 0, none⟩ (.int .i64 0)).setCell ⟨g, 1, none⟩ (.int .i64 0)).setCell ⟨g, 2, none⟩ (.int .i64 0)).setCell ⟨g, 3, none⟩ (.int .i64 0)).setCell ⟨g, 4, none⟩ (.int .i64 0)).setCell ⟨g, 5, none⟩ (.int .i64 0)).setCell ⟨g, 6, none⟩ (.bool false)) = wz at *
     have k0 : wz.cell? ⟨g, 0, none⟩ = some (.int .i64 0) := hz.cell 0
     have k1 : wz.cell? ⟨g, 1, none⟩ = some (.int .i64 0) := hz.cell 1
     have k2 : wz.cell? ⟨g, 2, none⟩ = some (.int .i64 0) := hz.cell 2
     have k3 : wz.cell? ⟨g, 3, none⟩ = some (.int .i64 0) := hz.cell 3
     have k4 : wz.cell? ⟨g, 4, none⟩ = some (.int .i64 0) := hz.cell 4
     have k5 : wz.cell? ⟨g, 5, none⟩ = some (.int .i64 0) := hz.cell 5
     have k6 : wz.cell? ⟨g, 6, none⟩ = some (.bool false) := hz.cell 6
     refine bodyPost_ret (v := .tuple #[.agg #[.int .i64 0, .int .i64 0, .int .i64 0, .int .i64 0, .int .i64 0, .int .i64 0, .bool false], .int .i64 12]) (by simp [results, Try.results20, go_sem, k0, k1, k2, k3, k4, k5, k6]) rfl ⟨by rw [HV.out]; rfl, hbz⟩
 ·have HV : Hid (decR ⟨q, i, d, p, t, c, fl⟩ n s7 = none) := Lib.hid (if_pos (.inl (Decidable.not_not.1 fun h => e0 (hep.2 h))))
  have e0b : (endP s7 != 0) = true := by simpa using e0
  generalize endP s7 = ev at *
  clear e0
  clear hep
  go_wp2_with fail
  refine HE.out.mono ?_
  rintro e w10 ⟨rfl, rfl⟩
  clear HE
  go_wp2_with fail
  clear fz l0 l1 l2 l3 l4 l5 l6 m0 m1 m2 m3 m4 m5 m6
  have hz := G8.out.fillN7 (.int .i64 0) (.int .i64 0) (.int .i64 0) (.int .i64 0) (.int .i64 0) (.int .i64 0) (.bool false)
  have hbz := B8.out.trans ((Keeps.fillN7 w9 g (.int .i64 0) (.int .i64 0) (.int .i64 0) (.int .i64 0) (.int .i64 0) (.int .i64 0) (.bool false)).below (B := w.heap.size) (fun k hk => by have hk2 : k = g := hk; rw [hk2]; exact Nat.le_of_eq HGG.out) B8.out.size)
  generalize (((((((w9.setCell ⟨g, 0, none⟩ (.int .i64 0)).setCell ⟨g, 1, none⟩ (.int .i64 0)).setCell ⟨g, 2, none⟩ (.int .i64 0)).setCell ⟨g, 3, none⟩ (.int .i64 0)).setCell ⟨g, 4, none⟩ (.int .i64 0)).setCell ⟨g, 5, none⟩ (.int .i64 0)).setCell ⟨g, 6, none⟩ (.bool false)) = wz at *
  have k0 : wz.cell? ⟨g, 0, none⟩ = some (.int .i64 0) := hz.cell 0
  have k1 : wz.cell? ⟨g, 1, none⟩ = some (.int .i64 0) := hz.cell 1
  have k2 : wz.cell? ⟨g, 2, none⟩ = some (.int .i64 0) := hz.cell 2
  have k3 : wz.cell? ⟨g, 3, none⟩ = some (.int .i64 0) := hz.cell 3
  have k4 : wz.cell? ⟨g, 4, none⟩ = some (.int .i64 0) := hz.cell 4
  have k5 : wz.cell? ⟨g, 5, none⟩ = some (.int .i64 0) := hz.cell 5
  have k6 : wz.cell? ⟨g, 6, none⟩ = some (.bool false) := hz.cell 6
  refine bodyPost_ret (v := .tuple #[.agg #[.int .i64 0, .int .i64 0, .int .i64 0, .int .i64 0, .int .i64 0, .int .i64 0, .bool false], .int .i64 12]) (by simp [results, Try.results20, go_sem, k0, k1, k2, k3, k4, k5, k6]) rfl ⟨by rw [HV.out]; rfl, hbz⟩
end
end Go.Proofs.Ytmaijkoopjocdaa

/- The walk of cornhillref19.Decode. -/
namespace Go.Proofs.Ytmaijkoopjocdaa
open Go.RowKit Go.Lib

set_option maxRecDepth 20000 in
set_option maxHeartbeats 8000000 in
theorem rdec_any {w : World} {v : Value} {b : List Int} (h : BYL.Sl w v b) (hl : b.length ≤ 900000) (hok : ∀ z ∈ b, isByte z) :
  Calls Try.prog 27 #[v] w fun e w' => e = .returned (decV (decM b)) ∧ Below w.heap.size w w' := by
 obtain ⟨q, s1, h1⟩ : ∃ q s1, (⟨b, false⟩ : RS).long = (q, s1) := ⟨_, _, rfl⟩
 obtain ⟨i, s2, h2⟩ : ∃ q t, s1.num 1 = (q, t) := ⟨_, _, rfl⟩
 obtain ⟨d, s3, h3⟩ : ∃ q t, s2.num 1 = (q, t) := ⟨_, _, rfl⟩
 obtain ⟨p, s4, h4⟩ : ∃ q t, s3.long = (q, t) := ⟨_, _, rfl⟩
 obtain ⟨t, s5, h5⟩ : ∃ q t, s4.long = (q, t) := ⟨_, _, rfl⟩
 obtain ⟨c, s6, h6⟩ : ∃ q t, s5.long = (q, t) := ⟨_, _, rfl⟩
 obtain ⟨n, s7, h7⟩ : ∃ q t, s6.num 1 = (q, t) := ⟨_, _, rfl⟩
 rw [decM_eq (rawM_eq h1 h2 h3 h4 h5 h6 h7)]
 obtain ⟨fl, hfl⟩ : ∃ fl, (n == 1) = fl := ⟨_, rfl⟩
 rw [hfl]
 have H1 := Lib.hid h1
 have H2 := Lib.hid h2
 have H3 := Lib.hid h3
 have H4 := Lib.hid h4
 have H5 := Lib.hid h5
 have H6 := Lib.hid h6
 have H7 := Lib.hid h7
 clear h1 h2 h3 h4 h5 h6 h7
 have HBL := Lib.hid (Below.allocN w (.cells zeroMg.cells.toArray 34))
 have HG : Hid (Blk (w.alloc (.cells zeroMg.cells.toArray 34)) w.heap.size 34 zeroMg.cells.toArray) := Lib.hid (Blk.new _ _ _)
 have HSL := Lib.hid (h.below HBL.out)
 have HS0 := Lib.hid h
 have HL := Lib.hid hl
 have HO := Lib.hid hok
 obtain ⟨a, ca, rfl, hsk, _⟩ := h
 have HSK := Lib.hid hsk
 clear hl hok hsk
 unfold zeroMg Mg.cells at HBL HG HSL
 dsimp only at HBL HG HSL
 go_enter Try.func27, Try.ntmps27
 go_upto_region 2 with (fail)
 have hz : (w.alloc (.cells #[.int .i64 0, .int .i64 0, .int .i64 0, .int .i64 0, .int .i64 0, .int .i64 0, .bool false] 34)).heap.size = w.heap.size + 1 := by simp
 have hba := Below.allocN (w.alloc (.cells #[.int .i64 0, .int .i64 0, .int .i64 0, .int .i64 0, .int .i64 0, .int .i64 0, .bool false] 34)) (.cells #[.slice a b.length ca, .int .i64 0, .int .i64 0] 111)
 have hb1 := HBL.out.trans (hba.mono HBL.out.size)
 have hgg := HG.out.below hba
 have hr : RR4 w ((w.alloc (.cells #[.int .i64 0, .int .i64 0, .int .i64 0, .int .i64 0, .int .i64 0, .int .i64 0, .bool false] 34)).alloc (.cells #[.slice a b.length ca, .int .i64 0, .int .i64 0] 111)) (w.heap.size + 1) ⟨b, false⟩ := by
  obtain ⟨a', c', e, hk, hrd⟩ := HS0.out
  injection e with e1 _ e2
  subst e1; subst e2
  refine ⟨⟨a, ca, b, 0, ?_, hk, hk.2.2, hrd.below hb1, fun b' off e hx => ?_, Nat.zero_le _, rfl, HL.out⟩, by omega, hb1, HO.out⟩
  ·rw [← hz]; exact Blk.new _ _ _
  ·obtain ⟨x, t, hx2⟩ : ∃ x t, b = x :: t := by cases b with | nil => exact absurd rfl hx | cons x t => exact ⟨x, t, rfl⟩
   obtain ⟨b2, off2, e3, e4, _⟩ := hrd 0 x (by rw [hx2]; rfl)
   rw [e] at e3; injection e3 with e3; injection e3 with e3; omega
 obtain ⟨g, hg⟩ : ∃ g, w.heap.size = g := ⟨_, rfl⟩
 obtain ⟨pr, hpr⟩ : ∃ pr, w.heap.size + 1 = pr := ⟨_, rfl⟩
 rw [hpr] at hr ⊢
 rw [hg] at hgg ⊢
 have NE : Hid (g ≠ pr) := Lib.hid (by omega)
 have HGG := Lib.hid hg
 have HW : Hid (w.heap.size ≤ w.heap.size) := Lib.hid (Nat.le_refl _)
 have R0 := Lib.hid hr
 have G0 := Lib.hid hgg
 have B0 := Lib.hid hb1
 clear hz hba hb1 hgg hr hg hpr HBL HG HSL HS0 HSK
 generalize ((w.alloc (.cells #[.int .i64 0, .int .i64 0, .int .i64 0, .int .i64 0, .int .i64 0, .int .i64 0, .bool false] 34)).alloc (.cells #[.slice a b.length ca, .int .i64 0, .int .i64 0] 111)) = w1 at *
 go_wp2_with fail
 refine (long4_eq R0.out H1.out).mono ?_
 rintro e w2 ⟨rfl, hr, hk⟩
 have R1 := Lib.hid hr
 have K1 := Lib.hid hk
 clear hr hk
 go_wp2_with fail
 refine (byte4_eq R1.out H2.out).mono ?_
 rintro e w3 ⟨rfl, hr, hk⟩
 have R2 := Lib.hid hr
 have K2 := Lib.hid (K1.out.trans hk)
 clear hr hk R1 K1
 go_wp2_with fail
 refine (byte4_eq R2.out H3.out).mono ?_
 rintro e w4 ⟨rfl, hr, hk⟩
 have R3 := Lib.hid hr
 have K3 := Lib.hid (K2.out.trans hk)
 clear hr hk R2 K2
 go_wp2_with fail
 refine (long4_eq R3.out H4.out).mono ?_
 rintro e w5 ⟨rfl, hr, hk⟩
 have R4 := Lib.hid hr
 have K4 := Lib.hid (K3.out.trans hk)
 clear hr hk R3 K3
 go_wp2_with fail
 refine (long4_eq R4.out H5.out).mono ?_
 rintro e w6 ⟨rfl, hr, hk⟩
 have R5 := Lib.hid hr
 have K5 := Lib.hid (K4.out.trans hk)
 clear hr hk R4 K4
 go_wp2_with fail
 refine (long4_eq R5.out H6.out).mono ?_
 rintro e w7 ⟨rfl, hr, hk⟩
 have R6 := Lib.hid hr
 have K6 := Lib.hid (K5.out.trans hk)
 clear hr hk R5 K5
 go_upto_region 3 with (fail)
 have hgg := G0.out.keeps K6.out NE.out
 have hba := Below.allocN w7 (.cells #[.int .i64 q, .int .i64 i, .int .i64 d, .int .i64 p, .int .i64 t, .int .i64 c, .bool false] 34)
 have hmm : Blk (w7.alloc (.cells #[.int .i64 q, .int .i64 i, .int .i64 d, .int .i64 p, .int .i64 t, .int .i64 c, .bool false] 34)) w7.heap.size 34 #[.int .i64 q, .int .i64 i, .int .i64 d, .int .i64 p, .int .i64 t, .int .i64 c, .bool false] := Blk.new _ _ _
 have hb7 : Below w.heap.size w w7 := B0.out.trans ((K6.out.below (B := w.heap.size) (fun k hk => by have hk' : k = pr := hk; rw [hk']; exact Nat.le_trans HW.out R0.out.base) B0.out.size))
 obtain ⟨gm, hgm⟩ : ∃ gm, w7.heap.size = gm := ⟨_, rfl⟩
 have R7 := Lib.hid (R6.out.below hba)
 have G7 := Lib.hid (hgg.below hba)
 have B7 := Lib.hid (hb7.trans (hba.mono hb7.size))
 have N1 : Hid (gm ≠ pr) := Lib.hid (by obtain ⟨a, c, X, p, h, _⟩ := R6.out.box; have := h.lt; omega)
 have N2 : Hid (gm ≠ g) := Lib.hid (by have := hgg.lt; omega)
 have HWG : Hid (w.heap.size ≤ gm) := Lib.hid (by have := R6.out.bel.size; omega)
 have N3 : Hid (w.heap.size ≤ gm) := Lib.hid (by have := hb7.size; omega)
 rw [hgm] at hmm ⊢
 have M7 := Lib.hid hmm
 clear hgg hba hmm hb7 hgm R6 K6 G0 B0
 generalize w7.alloc _ = W7 at *
 go_wp2_with fail
 refine (byte4_eq R7.out H7.out).mono ?_
 rintro e w8 ⟨rfl, hr, hk⟩
 have hm8 := M7.out.keeps hk N1.out
 have hg8 := G7.out.keeps hk NE.out
 have hb8 := B7.out.trans (hk.below (B := w.heap.size) (fun k hk => by have hk' : k = pr := hk; rw [hk']; exact Nat.le_trans HW.out R0.out.base) B7.out.size)
 have R8 := Lib.hid hr
 have M8 := Lib.hid hm8
 have G8 := Lib.hid hg8
 have B8 := Lib.hid hb8
 clear hr hk hm8 hg8 hb8 R7 M7 G7 B7
 have HE := Lib.hid (end4_any R8.out)
 have hep := endP_bad (s := s7)
 have e6 : (gm = g) = False := eq_false N2.out
 have e7 : (g = gm) = False := eq_false (Ne.symm N2.out)
 by_cases e0 : endP s7 = 0
 ·have hnb := hep.1 e0
  rw [e0] at HE
  by_cases e1 : 1 < n
  ·have HV : Hid (decR ⟨q, i, d, p, t, c, fl⟩ n s7 = none) := Lib.hid (if_pos (.inr (.inl e1)))
   clear e0 hnb
   clear hep
   go_wp2_with fail
   refine HE.out.mono ?_
   rintro e w9 ⟨rfl, hb9⟩
   have G9 := Lib.hid (G8.out.below hb9)
   have M9 := Lib.hid (M8.out.below hb9)
   have B9 := Lib.hid (B8.out.trans (hb9.mono B8.out.size))
   clear hb9 HE G8 M8 B8 R8
   have m0 : w9.cell? ⟨gm, 0, none⟩ = some (.int .i64 q) := M9.out.cell 0
   have m1 : w9.cell? ⟨gm, 1, none⟩ = some (.int .i64 i) := M9.out.cell 1
   have m2 : w9.cell? ⟨gm, 2, none⟩ = some (.int .i64 d) := M9.out.cell 2
   have m3 : w9.cell? ⟨gm, 3, none⟩ = some (.int .i64 p) := M9.out.cell 3
   have m4 : w9.cell? ⟨gm, 4, none⟩ = some (.int .i64 t) := M9.out.cell 4
   have m5 : w9.cell? ⟨gm, 5, none⟩ = some (.int .i64 c) := M9.out.cell 5
   have m6 : w9.cell? ⟨gm, 6, none⟩ = some (.bool false) := M9.out.cell 6
   have l0 : w9.cell? ⟨g, 0, none⟩ = some (.int .i64 0) := G9.out.cell 0
   have l1 : w9.cell? ⟨g, 1, none⟩ = some (.int .i64 0) := G9.out.cell 1
   have l2 : w9.cell? ⟨g, 2, none⟩ = some (.int .i64 0) := G9.out.cell 2
   have l3 : w9.cell? ⟨g, 3, none⟩ = some (.int .i64 0) := G9.out.cell 3
   have l4 : w9.cell? ⟨g, 4, none⟩ = some (.int .i64 0) := G9.out.cell 4
   have l5 : w9.cell? ⟨g, 5, none⟩ = some (.int .i64 0) := G9.out.cell 5
   have l6 : w9.cell? ⟨g, 6, none⟩ = some (.bool false) := G9.out.cell 6
   have fz : ∀ o, w9.frozen? ⟨g, o, none⟩ = false := fun o => G9.out.frozen o
   have fz6 : ∀ o, w9.frozen? ⟨gm, o, none⟩ = false := fun o => M9.out.frozen o
   go_wp2_with fail
   clear fz fz6 l0 l1 l2 l3 l4 l5 l6 m0 m1 m2 m3 m4 m5 m6
   have hz := Blk.fillN7 G9.out (.int .i64 0) (.int .i64 0) (.int .i64 0) (.int .i64 0) (.int .i64 0) (.int .i64 0) (.bool false)
   have hbz := B9.out.trans ((Keeps.fillN7 w9 g (.int .i64 0) (.int .i64 0) (.int .i64 0) (.int .i64 0) (.int .i64 0) (.int .i64 0) (.bool false)).below (B := w.heap.size) (fun k hk => by have hk2 : k = g := hk; rw [hk2]; exact Nat.le_of_eq HGG.out) B9.out.size)
   generalize (((((((w9.setCell ⟨g, 0, none⟩ (.int .i64 0)).setCell ⟨g, 1, none⟩ (.int .i64 0)).setCell ⟨g, 2, none⟩ (.int .i64 0)).setCell ⟨g, 3, none⟩ (.int .i64 0)).setCell ⟨g, 4, none⟩ (.int .i64 0)).setCell ⟨g, 5, none⟩ (.int .i64 0)).setCell ⟨g, 6, none⟩ (.bool false)) = wz at *
   have k0 : wz.cell? ⟨g, 0, none⟩ = some (.int .i64 0) := hz.cell 0
   have k1 : wz.cell? ⟨g, 1, none⟩ = some (.int .i64 0) := hz.cell 1
   have k2 : wz.cell? ⟨g, 2, none⟩ = some (.int .i64 0) := hz.cell 2
   have k3 : wz.cell? ⟨g, 3, none⟩ = some (.int .i64 0) := hz.cell 3
   have k4 : wz.cell? ⟨g, 4, none⟩ = some (.int .i64 0) := hz.cell 4
   have k5 : wz.cell? ⟨g, 5, none⟩ = some (.int .i64 0) := hz.cell 5
   have k6 : wz.cell? ⟨g, 6, none⟩ = some (.bool false) := hz.cell 6
   refine bodyPost_ret (v := .tuple #[.agg #[.int .i64 0, .int .i64 0, .int .i64 0, .int .i64 0, .int .i64 0, .int .i64 0, .bool false], .int .i64 12]) (by simp [results, Try.results27, go_sem, k0, k1, k2, k3, k4, k5, k6]) rfl ⟨by rw [HV.out]; rfl, hbz⟩
  ·by_cases e2 : d = 1
   ·have HV : Hid (decR ⟨q, i, d, p, t, c, fl⟩ n s7 = some ⟨q, i, d, p, t, c, fl⟩) := Lib.hid (if_neg (by rintro (h | h | h); exact hnb h; exact e1 h; exact h (.inl e2)))
    have e2b : (d != 1) = false := by rw [e2]; rfl
    clear e0 hnb e2
    clear hep
    go_wp2_with fail
    refine HE.out.mono ?_
    rintro e w9 ⟨rfl, hb9⟩
    have G9 := Lib.hid (G8.out.below hb9)
    have M9 := Lib.hid (M8.out.below hb9)
    have B9 := Lib.hid (B8.out.trans (hb9.mono B8.out.size))
    clear hb9 HE G8 M8 B8 R8
    have m0 : w9.cell? ⟨gm, 0, none⟩ = some (.int .i64 q) := M9.out.cell 0
    have m1 : w9.cell? ⟨gm, 1, none⟩ = some (.int .i64 i) := M9.out.cell 1
    have m2 : w9.cell? ⟨gm, 2, none⟩ = some (.int .i64 d) := M9.out.cell 2
    have m3 : w9.cell? ⟨gm, 3, none⟩ = some (.int .i64 p) := M9.out.cell 3
    have m4 : w9.cell? ⟨gm, 4, none⟩ = some (.int .i64 t) := M9.out.cell 4
    have m5 : w9.cell? ⟨gm, 5, none⟩ = some (.int .i64 c) := M9.out.cell 5
    have m6 : w9.cell? ⟨gm, 6, none⟩ = some (.bool false) := M9.out.cell 6
    have l0 : w9.cell? ⟨g, 0, none⟩ = some (.int .i64 0) := G9.out.cell 0
    have l1 : w9.cell? ⟨g, 1, none⟩ = some (.int .i64 0) := G9.out.cell 1
    have l2 : w9.cell? ⟨g, 2, none⟩ = some (.int .i64 0) := G9.out.cell 2
    have l3 : w9.cell? ⟨g, 3, none⟩ = some (.int .i64 0) := G9.out.cell 3
    have l4 : w9.cell? ⟨g, 4, none⟩ = some (.int .i64 0) := G9.out.cell 4
    have l5 : w9.cell? ⟨g, 5, none⟩ = some (.int .i64 0) := G9.out.cell 5
    have l6 : w9.cell? ⟨g, 6, none⟩ = some (.bool false) := G9.out.cell 6
    have fz : ∀ o, w9.frozen? ⟨g, o, none⟩ = false := fun o => G9.out.frozen o
    have fz6 : ∀ o, w9.frozen? ⟨gm, o, none⟩ = false := fun o => M9.out.frozen o
    go_wp2_with fail
    clear fz fz6 l0 l1 l2 l3 l4 l5 l6 m0 m1 m2 m3 m4 m5 m6
    have hz := Blk.fillN7 (G9.out.far (p := ⟨gm, 6, none⟩) (Ne.symm N2.out) (.bool fl)) (.int .i64 q) (.int .i64 i) (.int .i64 d) (.int .i64 p) (.int .i64 t) (.int .i64 c) (.bool fl)
    have hbz := (B9.out.setCell (p := ⟨gm, 6, none⟩) N3.out (.bool fl)).trans ((Keeps.fillN7 (w9.setCell ⟨gm, 6, none⟩ (.bool fl)) g (.int .i64 q) (.int .i64 i) (.int .i64 d) (.int .i64 p) (.int .i64 t) (.int .i64 c) (.bool fl)).below (B := w.heap.size) (fun k hk => by have hk2 : k = g := hk; rw [hk2]; exact Nat.le_of_eq HGG.out) (B9.out.setCell (p := ⟨gm, 6, none⟩) N3.out (.bool fl)).size)
    generalize ((((((((w9.setCell ⟨gm, 6, none⟩ (.bool fl)).setCell ⟨g, 0, none⟩ (.int .i64 q)).setCell ⟨g, 1, none⟩ (.int .i64 i)).setCell ⟨g, 2, none⟩ (.int .i64 d)).setCell ⟨g, 3, none⟩ (.int .i64 p)).setCell ⟨g, 4, none⟩ (.int .i64 t)).setCell ⟨g, 5, none⟩ (.int .i64 c)).setCell ⟨g, 6, none⟩ (.bool fl)) = wz at *
    have k0 : wz.cell? ⟨g, 0, none⟩ = some (.int .i64 q) := hz.cell 0
    have k1 : wz.cell? ⟨g, 1, none⟩ = some (.int .i64 i) := hz.cell 1
    have k2 : wz.cell? ⟨g, 2, none⟩ = some (.int .i64 d) := hz.cell 2
    have k3 : wz.cell? ⟨g, 3, none⟩ = some (.int .i64 p) := hz.cell 3
    have k4 : wz.cell? ⟨g, 4, none⟩ = some (.int .i64 t) := hz.cell 4
    have k5 : wz.cell? ⟨g, 5, none⟩ = some (.int .i64 c) := hz.cell 5
    have k6 : wz.cell? ⟨g, 6, none⟩ = some (.bool fl) := hz.cell 6
    refine bodyPost_ret (v := .tuple #[.agg #[.int .i64 q, .int .i64 i, .int .i64 d, .int .i64 p, .int .i64 t, .int .i64 c, .bool fl], .int .i64 0]) (by simp [results, Try.results27, go_sem, k0, k1, k2, k3, k4, k5, k6]) rfl ⟨by rw [HV.out]; rfl, hbz⟩
   ·have e2b : (d != 1) = true := by simpa using e2
    by_cases e3 : d = 2
    ·have HV : Hid (decR ⟨q, i, d, p, t, c, fl⟩ n s7 = some ⟨q, i, d, p, t, c, fl⟩) := Lib.hid (if_neg (by rintro (h | h | h); exact hnb h; exact e1 h; exact h (.inr e3)))
     have e3b : (d != 2) = false := by rw [e3]; rfl
     clear e0 hnb e2 e3
     clear hep
     go_wp2_with fail
     refine HE.out.mono ?_
     rintro e w9 ⟨rfl, hb9⟩
     have G9 := Lib.hid (G8.out.below hb9)
     have M9 := Lib.hid (M8.out.below hb9)
     have B9 := Lib.hid (B8.out.trans (hb9.mono B8.out.size))
     clear hb9 HE G8 M8 B8 R8
     have m0 : w9.cell? ⟨gm, 0, none⟩ = some (.int .i64 q) := M9.out.cell 0
     have m1 : w9.cell? ⟨gm, 1, none⟩ = some (.int .i64 i) := M9.out.cell 1
     have m2 : w9.cell? ⟨gm, 2, none⟩ = some (.int .i64 d) := M9.out.cell 2
     have m3 : w9.cell? ⟨gm, 3, none⟩ = some (.int .i64 p) := M9.out.cell 3
     have m4 : w9.cell? ⟨gm, 4, none⟩ = some (.int .i64 t) := M9.out.cell 4
     have m5 : w9.cell? ⟨gm, 5, none⟩ = some (.int .i64 c) := M9.out.cell 5
     have m6 : w9.cell? ⟨gm, 6, none⟩ = some (.bool false) := M9.out.cell 6
     have l0 : w9.cell? ⟨g, 0, none⟩ = some (.int .i64 0) := G9.out.cell 0
     have l1 : w9.cell? ⟨g, 1, none⟩ = some (.int .i64 0) := G9.out.cell 1
     have l2 : w9.cell? ⟨g, 2, none⟩ = some (.int .i64 0) := G9.out.cell 2
     have l3 : w9.cell? ⟨g, 3, none⟩ = some (.int .i64 0) := G9.out.cell 3
     have l4 : w9.cell? ⟨g, 4, none⟩ = some (.int .i64 0) := G9.out.cell 4
     have l5 : w9.cell? ⟨g, 5, none⟩ = some (.int .i64 0) := G9.out.cell 5
     have l6 : w9.cell? ⟨g, 6, none⟩ = some (.bool false) := G9.out.cell 6
     have fz : ∀ o, w9.frozen? ⟨g, o, none⟩ = false := fun o => G9.out.frozen o
     have fz6 : ∀ o, w9.frozen? ⟨gm, o, none⟩ = false := fun o => M9.out.frozen o
     go_wp2_with fail
     clear fz fz6 l0 l1 l2 l3 l4 l5 l6 m0 m1 m2 m3 m4 m5 m6
     have hz := Blk.fillN7 (G9.out.far (p := ⟨gm, 6, none⟩) (Ne.symm N2.out) (.bool fl)) (.int .i64 q) (.int .i64 i) (.int .i64 d) (.int .i64 p) (.int .i64 t) (.int .i64 c) (.bool fl)
     have hbz := (B9.out.setCell (p := ⟨gm, 6, none⟩) N3.out (.bool fl)).trans ((Keeps.fillN7 (w9.setCell ⟨gm, 6, none⟩ (.bool fl)) g (.int .i64 q) (.int .i64 i) (.int .i64 d) (.int .i64 p) (.int .i64 t) (.int .i64 c) (.bool fl)).below (B := w.heap.size) (fun k hk => by have hk2 : k = g := hk; rw [hk2]; exact Nat.le_of_eq HGG.out) (B9.out.setCell (p := ⟨gm, 6, none⟩) N3.out (.bool fl)).size)
     generalize ((((((((w9.setCell ⟨gm, 6, none⟩ (.bool fl)).setCell ⟨g, 0, none⟩ (.int .i64 q)).setCell ⟨g, 1, none⟩ (.int .i64 i)).setCell ⟨g, 2, none⟩ (.int .i64 d)).setCell ⟨g, 3, none⟩ (.int .i64 p)).setCell ⟨g, 4, none⟩ (.int .i64 t)).setCell ⟨g, 5, none⟩ (.int .i64 c)).setCell ⟨g, 6, none⟩ (.bool fl)) = wz at *
     have k0 : wz.cell? ⟨g, 0, none⟩ = some (.int .i64 q) := hz.cell 0
     have k1 : wz.cell? ⟨g, 1, none⟩ = some (.int .i64 i) := hz.cell 1
     have k2 : wz.cell? ⟨g, 2, none⟩ = some (.int .i64 d) := hz.cell 2
     have k3 : wz.cell? ⟨g, 3, none⟩ = some (.int .i64 p) := hz.cell 3
     have k4 : wz.cell? ⟨g, 4, none⟩ = some (.int .i64 t) := hz.cell 4
     have k5 : wz.cell? ⟨g, 5, none⟩ = some (.int .i64 c) := hz.cell 5
     have k6 : wz.cell? ⟨g, 6, none⟩ = some (.bool fl) := hz.cell 6
     refine bodyPost_ret (v := .tuple #[.agg #[.int .i64 q, .int .i64 i, .int .i64 d, .int .i64 p, .int .i64 t, .int .i64 c, .bool fl], .int .i64 0]) (by simp [results, Try.results27, go_sem, k0, k1, k2, k3, k4, k5, k6]) rfl ⟨by rw [HV.out]; rfl, hbz⟩
    ·have e3b : (d != 2) = true := by simpa using e3
     have HV : Hid (decR ⟨q, i, d, p, t, c, fl⟩ n s7 = none) := Lib.hid (if_pos (.inr (.inr (by rintro (h | h); exact e2 h; exact e3 h))))
     clear e0 hnb e2 e3
     clear hep
     go_wp2_with fail
     refine HE.out.mono ?_
     rintro e w9 ⟨rfl, hb9⟩
     have G9 := Lib.hid (G8.out.below hb9)
     have M9 := Lib.hid (M8.out.below hb9)
     have B9 := Lib.hid (B8.out.trans (hb9.mono B8.out.size))
     clear hb9 HE G8 M8 B8 R8
     have m0 : w9.cell? ⟨gm, 0, none⟩ = some (.int .i64 q) := M9.out.cell 0
     have m1 : w9.cell? ⟨gm, 1, none⟩ = some (.int .i64 i) := M9.out.cell 1
     have m2 : w9.cell? ⟨gm, 2, none⟩ = some (.int .i64 d) := M9.out.cell 2
     have m3 : w9.cell? ⟨gm, 3, none⟩ = some (.int .i64 p) := M9.out.cell 3
     have m4 : w9.cell? ⟨gm, 4, none⟩ = some (.int .i64 t) := M9.out.cell 4
     have m5 : w9.cell? ⟨gm, 5, none⟩ = some (.int .i64 c) := M9.out.cell 5
     have m6 : w9.cell? ⟨gm, 6, none⟩ = some (.bool false) := M9.out.cell 6
     have l0 : w9.cell? ⟨g, 0, none⟩ = some (.int .i64 0) := G9.out.cell 0
     have l1 : w9.cell? ⟨g, 1, none⟩ = some (.int .i64 0) := G9.out.cell 1
     have l2 : w9.cell? ⟨g, 2, none⟩ = some (.int .i64 0) := G9.out.cell 2
     have l3 : w9.cell? ⟨g, 3, none⟩ = some (.int .i64 0) := G9.out.cell 3
     have l4 : w9.cell? ⟨g, 4, none⟩ = some (.int .i64 0) := G9.out.cell 4
     have l5 : w9.cell? ⟨g, 5, none⟩ = some (.int .i64 0) := G9.out.cell 5
     have l6 : w9.cell? ⟨g, 6, none⟩ = some (.bool false) := G9.out.cell 6
     have fz : ∀ o, w9.frozen? ⟨g, o, none⟩ = false := fun o => G9.out.frozen o
     have fz6 : ∀ o, w9.frozen? ⟨gm, o, none⟩ = false := fun o => M9.out.frozen o
     go_wp2_with fail
     clear fz fz6 l0 l1 l2 l3 l4 l5 l6 m0 m1 m2 m3 m4 m5 m6
     have hz := Blk.fillN7 G9.out (.int .i64 0) (.int .i64 0) (.int .i64 0) (.int .i64 0) (.int .i64 0) (.int .i64 0) (.bool false)
     have hbz := B9.out.trans ((Keeps.fillN7 w9 g (.int .i64 0) (.int .i64 0) (.int .i64 0) (.int .i64 0) (.int .i64 0) (.int .i64 0) (.bool false)).below (B := w.heap.size) (fun k hk => by have hk2 : k = g := hk; rw [hk2]; exact Nat.le_of_eq HGG.out) B9.out.size)
     generalize (((((((w9.setCell ⟨g, 0, none⟩ (.int .i64 0)).setCell ⟨g, 1, none⟩ (.int .i64 0)).setCell ⟨g, 2, none⟩ (.int .i64 0)).setCell ⟨g, 3, none⟩ (.int .i64 0)).setCell ⟨g, 4, none⟩ (.int .i64 0)).setCell ⟨g, 5, none⟩ (.int .i64 0)).setCell ⟨g, 6, none⟩ (.bool false)) = wz at *
     have k0 : wz.cell? ⟨g, 0, none⟩ = some (.int .i64 0) := hz.cell 0
     have k1 : wz.cell? ⟨g, 1, none⟩ = some (.int .i64 0) := hz.cell 1
     have k2 : wz.cell? ⟨g, 2, none⟩ = some (.int .i64 0) := hz.cell 2
     have k3 : wz.cell? ⟨g, 3, none⟩ = some (.int .i64 0) := hz.cell 3
     have k4 : wz.cell? ⟨g, 4, none⟩ = some (.int .i64 0) := hz.cell 4
     have k5 : wz.cell? ⟨g, 5, none⟩ = some (.int .i64 0) := hz.cell 5
     have k6 : wz.cell? ⟨g, 6, none⟩ = some (.bool false) := hz.cell 6
     refine bodyPost_ret (v := .tuple #[.agg #[.int .i64 0, .int .i64 0, .int .i64 0, .int .i64 0, .int .i64 0, .int .i64 0, .bool false], .int .i64 12]) (by simp [results, Try.results27, go_sem, k0, k1, k2, k3, k4, k5, k6]) rfl ⟨by rw [HV.out]; rfl, hbz⟩
 ·have HV : Hid (decR ⟨q, i, d, p, t, c, fl⟩ n s7 = none) := Lib.hid (if_pos (.inl (Decidable.not_not.1 fun h => e0 (hep.2 h))))
  have e0b : (endP s7 != 0) = true := by simpa using e0
  generalize endP s7 = ev at *
  clear e0
  clear hep
  go_wp2_with fail
  refine HE.out.mono ?_
  rintro e w9 ⟨rfl, hb9⟩
  have G9 := Lib.hid (G8.out.below hb9)
  have M9 := Lib.hid (M8.out.below hb9)
  have B9 := Lib.hid (B8.out.trans (hb9.mono B8.out.size))
  clear hb9 HE G8 M8 B8 R8
  have m0 : w9.cell? ⟨gm, 0, none⟩ = some (.int .i64 q) := M9.out.cell 0
  have m1 : w9.cell? ⟨gm, 1, none⟩ = some (.int .i64 i) := M9.out.cell 1
  have m2 : w9.cell? ⟨gm, 2, none⟩ = some (.int .i64 d) := M9.out.cell 2
  have m3 : w9.cell? ⟨gm, 3, none⟩ = some (.int .i64 p) := M9.out.cell 3
  have m4 : w9.cell? ⟨gm, 4, none⟩ = some (.int .i64 t) := M9.out.cell 4
  have m5 : w9.cell? ⟨gm, 5, none⟩ = some (.int .i64 c) := M9.out.cell 5
  have m6 : w9.cell? ⟨gm, 6, none⟩ = some (.bool false) := M9.out.cell 6
  have l0 : w9.cell? ⟨g, 0, none⟩ = some (.int .i64 0) := G9.out.cell 0
  have l1 : w9.cell? ⟨g, 1, none⟩ = some (.int .i64 0) := G9.out.cell 1
  have l2 : w9.cell? ⟨g, 2, none⟩ = some (.int .i64 0) := G9.out.cell 2
  have l3 : w9.cell? ⟨g, 3, none⟩ = some (.int .i64 0) := G9.out.cell 3
  have l4 : w9.cell? ⟨g, 4, none⟩ = some (.int .i64 0) := G9.out.cell 4
  have l5 : w9.cell? ⟨g, 5, none⟩ = some (.int .i64 0) := G9.out.cell 5
  have l6 : w9.cell? ⟨g, 6, none⟩ = some (.bool false) := G9.out.cell 6
  have fz : ∀ o, w9.frozen? ⟨g, o, none⟩ = false := fun o => G9.out.frozen o
  have fz6 : ∀ o, w9.frozen? ⟨gm, o, none⟩ = false := fun o => M9.out.frozen o
  go_wp2_with fail
  clear fz fz6 l0 l1 l2 l3 l4 l5 l6 m0 m1 m2 m3 m4 m5 m6
  have hz := Blk.fillN7 G9.out (.int .i64 0) (.int .i64 0) (.int .i64 0) (.int .i64 0) (.int .i64 0) (.int .i64 0) (.bool false)
  have hbz := B9.out.trans ((Keeps.fillN7 w9 g (.int .i64 0) (.int .i64 0) (.int .i64 0) (.int .i64 0) (.int .i64 0) (.int .i64 0) (.bool false)).below (B := w.heap.size) (fun k hk => by have hk2 : k = g := hk; rw [hk2]; exact Nat.le_of_eq HGG.out) B9.out.size)
  generalize (((((((w9.setCell ⟨g, 0, none⟩ (.int .i64 0)).setCell ⟨g, 1, none⟩ (.int .i64 0)).setCell ⟨g, 2, none⟩ (.int .i64 0)).setCell ⟨g, 3, none⟩ (.int .i64 0)).setCell ⟨g, 4, none⟩ (.int .i64 0)).setCell ⟨g, 5, none⟩ (.int .i64 0)).setCell ⟨g, 6, none⟩ (.bool false)) = wz at *
  have k0 : wz.cell? ⟨g, 0, none⟩ = some (.int .i64 0) := hz.cell 0
  have k1 : wz.cell? ⟨g, 1, none⟩ = some (.int .i64 0) := hz.cell 1
  have k2 : wz.cell? ⟨g, 2, none⟩ = some (.int .i64 0) := hz.cell 2
  have k3 : wz.cell? ⟨g, 3, none⟩ = some (.int .i64 0) := hz.cell 3
  have k4 : wz.cell? ⟨g, 4, none⟩ = some (.int .i64 0) := hz.cell 4
  have k5 : wz.cell? ⟨g, 5, none⟩ = some (.int .i64 0) := hz.cell 5
  have k6 : wz.cell? ⟨g, 6, none⟩ = some (.bool false) := hz.cell 6
  refine bodyPost_ret (v := .tuple #[.agg #[.int .i64 0, .int .i64 0, .int .i64 0, .int .i64 0, .int .i64 0, .int .i64 0, .bool false], .int .i64 12]) (by simp [results, Try.results27, go_sem, k0, k1, k2, k3, k4, k5, k6]) rfl ⟨by rw [HV.out]; rfl, hbz⟩
end Go.Proofs.Ytmaijkoopjocdaa

/- Messages and snapshots as bytes, and back again, on plain data: what is written is read as it was. No program in sight. -/
namespace Go.Proofs.Ytmaijkoopjocdaa
open Go Go.Lib

theorem leZ_leN : ∀ (k : Nat) (n : Int), 0 ≤ n → n < 256 ^ k → leZ (leN n k) = n
 | 0, n, h0, h1 => by rw [Int.pow_zero] at h1; rw [leN, leZ_nil]; omega
 | k + 1, n, h0, h1 => by
  rw [Int.pow_succ] at h1
  have := leZ_leN k (n / 256) (by omega) (by omega)
  rw [leN, leZ, this]; omega
def enc8 (z : Int) : List Int := leN (z % 18446744073709551616) 8
theorem enc8_len (z : Int) : (enc8 z).length = 8 := leN_len _ 8
theorem enc8_byte (z : Int) : ∀ x ∈ enc8 z, isByte x := leN_byte _ 8
theorem take_app (l t : List Int) : (⟨l ++ t, false⟩ : RS).take l.length = (l, ⟨t, false⟩) := by
 unfold RS.take
 rw [if_neg (by simp)]
 simp
theorem long_enc {z : Int} (h : i64r z) (t : List Int) : (⟨enc8 z ++ t, false⟩ : RS).long = (z, ⟨t, false⟩) := by
 have h1 := take_app (enc8 z) t
 rw [enc8_len] at h1
 unfold RS.long RS.num
 rw [h1]
 have h3 : (256 : Int) ^ 8 = 18446744073709551616 := by decide
 have h2 : leZ (enc8 z) = z % 18446744073709551616 := leZ_leN 8 _ (by omega) (by rw [h3]; omega)
 show (IntKind.i64.wrap (leZ (enc8 z)), (⟨t, false⟩ : RS)) = _
 rw [h2]
 congr 1
 rw [IntKind.wrap_i64]
 unfold i64r at h
 omega
theorem num_byte (x : Int) (t : List Int) : (⟨x :: t, false⟩ : RS).num 1 = (x, ⟨t, false⟩) := by
 have h1 := take_app [x] t
 rw [List.length_singleton] at h1
 unfold RS.num
 rw [show x :: t = [x] ++ t from rfl, h1]
 congr 1
 show x + 256 * 0 = x
 omega
/-! ### a message -/
def encM (m : Mg) : List Int := enc8 m.seq ++ (m.inst % 256 :: m.side % 256 :: (enc8 m.price ++ (enc8 m.qty ++ (enc8 m.count ++ [if m.imp = true then 1 else 0]))))
theorem encM_len (m : Mg) : (encM m).length = 35 := by
 unfold encM
 simp only [List.length_append, List.length_cons, enc8_len, List.length_nil]
theorem encM_byte (m : Mg) : ∀ x ∈ encM m, isByte x := by
 intro x hx
 unfold encM at hx
 simp only [List.mem_append, List.mem_cons, List.not_mem_nil, or_false] at hx
 rcases hx with h | h | h | h | h | h | h
 ·exact enc8_byte _ x h
 ·unfold isByte; omega
 ·unfold isByte; omega
 ·exact enc8_byte _ x h
 ·exact enc8_byte _ x h
 ·exact enc8_byte _ x h
 ·rw [h]; unfold isByte; split <;> omega
theorem decM_enc {m : Mg} (ho : m.Okd) (hs : m.side = 1 ∨ m.side = 2) : decM (encM m) = some m := by
 obtain ⟨q, i, d, p, t, c, im⟩ := m
 obtain ⟨h1, h2, h3, h4, h5⟩ := ho
 dsimp only at h1 h2 h3 h4 h5 hs
 have e2 : i % 256 = i := by omega
 have e3 : d % 256 = d := by omega
 have hr := rawM_eq (long_enc h1 (i % 256 :: d % 256 :: (enc8 p ++ (enc8 t ++ (enc8 c ++ [if im = true then 1 else 0]))))) (num_byte _ _) (num_byte _ _) (long_enc h3 _) (long_enc h4 _) (long_enc h5 _) (num_byte _ [])
 have := decM_eq (b := encM ⟨q, i, d, p, t, c, im⟩) hr
 rw [this]
 unfold decR
 rw [e2, e3]
 rw [if_neg]
 ·cases im <;> rfl
 ·rintro (h | h | h)
  ·simp at h
  ·cases im <;> simp at h
  ·exact h hs
/-! ### a snapshot -/
def encLv (l : Lv) : List Int := enc8 l.price ++ (enc8 l.qty ++ enc8 l.count)
def encSd (x : Sd) : List Int := ((x.lv.length : Int) % 256) :: (x.lv.flatMap encLv ++ (if x.has = true then 1 :: encLv x.im else [0]))
def encPr (p : Sd × Sd) : List Int := encSd p.1 ++ encSd p.2
def encB (V : Vw) (q : Int) : List Int := enc8 q ++ (((V.length : Int) % 256) :: V.flatMap encPr)
def encS (V : Vw) (q : Int) : List Int := encB V q ++ le4 (crcP (encB V q))
def LvOk (l : Lv) : Prop := i64r l.price ∧ i64r l.qty ∧ i64r l.count
def SdOk (x : Sd) : Prop := (∀ l ∈ x.lv, LvOk l) ∧ LvOk x.im
def VwOk (V : Vw) : Prop := ∀ p ∈ V, SdOk p.1 ∧ SdOk p.2
theorem encLv_len (l : Lv) : (encLv l).length = 24 := by
 unfold encLv; simp only [List.length_append, enc8_len]
theorem encLv_byte (l : Lv) : ∀ x ∈ encLv l, isByte x := by
 intro x hx
 unfold encLv at hx
 simp only [List.mem_append] at hx
 rcases hx with h | h | h <;> exact enc8_byte _ x h
theorem encSd_byte (s : Sd) : ∀ x ∈ encSd s, isByte x := by
 intro x hx
 unfold encSd at hx
 rcases List.mem_cons.1 hx with h | h
 ·rw [h]; unfold isByte; omega
 ·rcases List.mem_append.1 h with h | h
  ·obtain ⟨l, _, hl⟩ := List.mem_flatMap.1 h
   exact encLv_byte l x hl
  ·split at h
   ·rcases List.mem_cons.1 h with h | h
    ·rw [h]; unfold isByte; omega
    ·exact encLv_byte _ x h
   ·rw [List.mem_singleton] at h; rw [h]; unfold isByte; omega
theorem encPr_byte (p : Sd × Sd) : ∀ x ∈ encPr p, isByte x := by
 intro x hx
 rcases List.mem_append.1 hx with h | h
 ·exact encSd_byte _ x h
 ·exact encSd_byte _ x h
theorem encB_byte (V : Vw) (q : Int) : ∀ x ∈ encB V q, isByte x := by
 intro x hx
 rcases List.mem_append.1 hx with h | h
 ·exact enc8_byte _ x h
 ·rcases List.mem_cons.1 h with h | h
  ·rw [h]; unfold isByte; omega
  ·obtain ⟨p, _, hp⟩ := List.mem_flatMap.1 h
   exact encPr_byte p x hp
theorem le4_byte (c : Int) : ∀ x ∈ le4 c, isByte x := by
 intro x hx
 rw [le4_leN] at hx
 exact leN_byte _ _ x hx
theorem encS_byte (V : Vw) (q : Int) : ∀ x ∈ encS V q, isByte x := by
 intro x hx
 rcases List.mem_append.1 hx with h | h
 ·exact encB_byte V q x h
 ·exact le4_byte _ x h
theorem encS_len4 (V : Vw) (q : Int) : 4 ≤ (encS V q).length := by
 unfold encS
 rw [List.length_append]
 show 4 ≤ (encB V q).length + 4
 omega
theorem fl_len {α : Type} {f : α → List Int} {k : Nat} : ∀ {l : List α}, (∀ x ∈ l, (f x).length ≤ k) → (l.flatMap f).length ≤ l.length * k
 | [], _ => by simp
 | x :: t, h => by
  rw [List.flatMap_cons, List.length_append, List.length_cons, Nat.succ_mul]
  have h1 := h x (List.mem_cons_self ..)
  have h2 := fl_len (f := f) (k := k) (l := t) (fun y hy => h y (List.mem_cons_of_mem _ hy))
  omega
theorem encSd_len {s : Sd} {k : Nat} (h : s.lv.length ≤ k) : (encSd s).length ≤ 26 + k * 24 := by
 unfold encSd
 rw [List.length_cons, List.length_append]
 have h1 := fl_len (f := encLv) (k := 24) (l := s.lv) (fun x _ => Nat.le_of_eq (encLv_len x))
 have h2 : (if s.has = true then 1 :: encLv s.im else [0] : List Int).length ≤ 25 := by
  split
  ·rw [List.length_cons, encLv_len]; omega
  ·decide
 have h3 : s.lv.length * 24 ≤ k * 24 := Nat.mul_le_mul_right 24 h
 omega
theorem encB_len {V : Vw} {k : Nat} (q : Int) (h : LenV V k) : (encB V q).length ≤ 9 + V.length * (52 + k * 48) := by
 unfold encB
 rw [List.length_append, List.length_cons, enc8_len]
 have := fl_len (f := encPr) (k := 52 + k * 48) (l := V) (fun x hx => by
  have h1 := encSd_len (h x hx).1
  have h2 := encSd_len (h x hx).2
  unfold encPr
  rw [List.length_append]; omega)
 omega
theorem readLv_enc {l : Lv} (h : LvOk l) (t : List Int) : readLv ⟨encLv l ++ t, false⟩ = (l, ⟨t, false⟩) := by
 obtain ⟨h1, h2, h3⟩ := h
 unfold readLv encLv
 rw [List.append_assoc, List.append_assoc]
 simp only [long_enc h1, long_enc h2, long_enc h3]
theorem readLvs_enc : ∀ (L : List Lv) (t : List Int), (∀ l ∈ L, LvOk l) → readLvs L.length ⟨L.flatMap encLv ++ t, false⟩ = (L, ⟨t, false⟩)
 | [], t, _ => rfl
 | l :: r, t, h => by
  have h1 := readLv_enc (h l (List.mem_cons_self ..)) (r.flatMap encLv ++ t)
  have h2 := readLvs_enc r t (fun x hx => h x (List.mem_cons_of_mem _ hx))
  rw [List.flatMap_cons, List.append_assoc, List.length_cons]
  show ((readLv ⟨encLv l ++ (r.flatMap encLv ++ t), false⟩).1 :: (readLvs r.length (readLv ⟨encLv l ++ (r.flatMap encLv ++ t), false⟩).2).1, (readLvs r.length (readLv ⟨encLv l ++ (r.flatMap encLv ++ t), false⟩).2).2) = _
  rw [h1]
  dsimp only
  rw [h2]
theorem readSd_enc {s : Sd} (h : SdOk s) {side : Int} (hr : rightS side s = true) (t : List Int) : readSd ⟨encSd s ++ t, false⟩ = (s, true, ⟨t, false⟩) := by
 obtain ⟨L, im, has⟩ := s
 obtain ⟨h1, h2⟩ := h
 unfold rightS at hr
 rw [Bool.and_eq_true, Bool.and_eq_true] at hr
 dsimp only at h1 h2 hr
 have hl : L.length ≤ 255 := of_decide_eq_true hr.1.2
 have e1 : ((L.length : Int) % 256) = L.length := by omega
 unfold readSd encSd
 dsimp only
 rw [e1, List.cons_append, num_byte]
 dsimp only
 rw [Int.toNat_natCast, List.append_assoc, readLvs_enc L _ h1]
 dsimp only
 unfold readIm
 cases has with
 | true =>
  rw [if_pos rfl, List.cons_append, num_byte]
  dsimp only
  rw [if_pos rfl, readLv_enc h2]
 | false =>
  have hz : im = zeroLv := of_decide_eq_true hr.2
  subst hz
  rw [show (if false = true then (1 : Int) :: encLv zeroLv else [0]) = [0] from rfl, List.cons_append, num_byte, List.nil_append]
  dsimp only
  rw [if_neg (by decide)]
  rfl
theorem readVw_enc : ∀ (V : Vw) (t : List Int), VwOk V → (∀ p ∈ V, rightS 1 p.1 = true ∧ rightS 2 p.2 = true) → readVw V.length ⟨V.flatMap encPr ++ t, false⟩ = (V, true, ⟨t, false⟩)
 | [], t, _, _ => rfl
 | p :: r, t, h, hr => by
  have g1 := h p (List.mem_cons_self ..)
  have g2 := hr p (List.mem_cons_self ..)
  have h1 := readSd_enc g1.1 g2.1 (encSd p.2 ++ (r.flatMap encPr ++ t))
  have h2 := readSd_enc g1.2 g2.2 (r.flatMap encPr ++ t)
  have h3 := readVw_enc r t (fun x hx => h x (List.mem_cons_of_mem _ hx)) (fun x hx => hr x (List.mem_cons_of_mem _ hx))
  rw [List.flatMap_cons, List.append_assoc, List.length_cons]
  have e : encPr p ++ (r.flatMap encPr ++ t) = encSd p.1 ++ (encSd p.2 ++ (r.flatMap encPr ++ t)) := by unfold encPr; rw [List.append_assoc]
  rw [e]
  unfold readVw
  simp only [h1, h2, h3]
  rfl
theorem decS_enc {V : Vw} {q : Int} (hv : VwOk V) (hr : rightV V = true) (hq : i64r q) : decS (encS V q) = (0, V, q) := by
 have hr' := hr
 unfold rightV at hr'
 rw [Bool.and_eq_true] at hr'
 have hl : V.length ≤ 255 := of_decide_eq_true hr'.2
 have ha : ∀ p ∈ V, rightS 1 p.1 = true ∧ rightS 2 p.2 = true := by
  intro p hp
  have := List.all_eq_true.1 hr'.1 p hp
  rw [Bool.and_eq_true] at this
  exact this
 have e1 : (encS V q).length = (encB V q).length + 4 := by unfold encS; rw [List.length_append]; rfl
 have e2 : (encS V q).take ((encS V q).length - 4) = encB V q := by
  rw [e1, Nat.add_sub_cancel]; unfold encS; exact List.take_left' rfl
 have e3 : (encS V q).drop ((encS V q).length - 4) = le4 (crcP (encB V q)) := by
  rw [e1, Nat.add_sub_cancel]; unfold encS; exact List.drop_left' rfl
 have e4 : (⟨encB V q, false⟩ : RS).long = (q, ⟨((V.length : Int) % 256) :: V.flatMap encPr, false⟩) := long_enc hq _
 have e5 : ((V.length : Int) % 256) = V.length := by omega
 have e6 := readVw_enc V [] hv ha
 rw [List.append_nil] at e6
 unfold decS
 rw [if_neg (by have := encS_len4 V q; omega), e2, e3, if_neg (fun h => h rfl), e4]
 simp only [num_byte, e5, Int.toNat_natCast, e6]
 rw [if_pos ⟨trivial, trivial, trivial, hr⟩]
end Go.Proofs.Ytmaijkoopjocdaa
