/- The walk of cornhillref9.Ladder. -/
import Derived.Test.YtmhljdkhekjfmaaR92
import Derived.Deep.RegionHeld3
namespace Go.Proofs.Ytmhljdkhekjfmaa
open Go.RowKit

def pushLv (x : Od) : List Lv → List Lv
  | [] => [⟨x.price, x.qty, 1⟩]
  | [l] => if l.price = x.price then [⟨l.price, l.qty + x.qty, l.count + 1⟩] else [l, ⟨x.price, x.qty, 1⟩]
  | l :: m :: M => l :: pushLv x (m :: M)
theorem addLv_ne (o : Od) (M : List Lv) : addLv o M ≠ [] := by
  cases M with
  | nil => simp [addLv]
  | cons l M =>
    show (if l.price = o.price then (⟨o.price, o.qty + l.qty, 1 + l.count⟩ : Lv) :: M else ⟨o.price, o.qty, 1⟩ :: l :: M) ≠ []
    split <;> simp
theorem push_addLv (x o : Od) (M : List Lv) (hM : M ≠ []) : pushLv x (addLv o M) = addLv o (pushLv x M) := by
  cases M with
  | nil => exact absurd rfl hM
  | cons l M =>
    cases M with
    | nil =>
      show pushLv x (if l.price = o.price then [⟨o.price, o.qty + l.qty, 1 + l.count⟩] else [⟨o.price, o.qty, 1⟩, l]) = addLv o (if l.price = x.price then [⟨l.price, l.qty + x.qty, l.count + 1⟩] else [l, ⟨x.price, x.qty, 1⟩])
      by_cases h1 : l.price = o.price <;> by_cases h2 : l.price = x.price
      · rw [if_pos h1, if_pos h2]
        show (if o.price = x.price then _ else _) = (if l.price = o.price then _ else _)
        rw [if_pos (h1 ▸ h2), if_pos h1]
        simp [Int.add_assoc]
      · rw [if_pos h1, if_neg h2]
        show (if o.price = x.price then _ else _) = (if l.price = o.price then _ else _)
        rw [if_neg (h1 ▸ h2), if_pos h1]
      · rw [if_neg h1, if_pos h2]
        show _ :: (if l.price = x.price then _ else _) = (if l.price = o.price then _ else _)
        rw [if_pos h2, if_neg h1]
      · rw [if_neg h1, if_neg h2]
        show _ :: (if l.price = x.price then _ else _) = (if l.price = o.price then _ else _)
        rw [if_neg h2, if_neg h1]
    | cons m M =>
      show pushLv x (if l.price = o.price then ⟨o.price, o.qty + l.qty, 1 + l.count⟩ :: m :: M else ⟨o.price, o.qty, 1⟩ :: l :: m :: M) = (if l.price = o.price then ⟨o.price, o.qty + l.qty, 1 + l.count⟩ :: pushLv x (m :: M) else ⟨o.price, o.qty, 1⟩ :: l :: pushLv x (m :: M))
      split <;> rfl
theorem grp_ne {S : List Od} (h : S ≠ []) : grp S ≠ [] := by
  cases S with
  | nil => exact absurd rfl h
  | cons o S => exact addLv_ne o _
theorem grp_snoc (S : List Od) (x : Od) : grp (S ++ [x]) = pushLv x (grp S) := by
  induction S with
  | nil => rfl
  | cons o S ih =>
    show addLv o (grp (S ++ [x])) = pushLv x (addLv o (grp S))
    rw [ih]
    by_cases hS : S = []
    · subst hS
      show addLv o [⟨x.price, x.qty, 1⟩] = pushLv x [⟨o.price, o.qty, 1⟩]
      show (if x.price = o.price then _ else _) = (if o.price = x.price then _ else _)
      by_cases h : x.price = o.price
      · rw [if_pos h, if_pos h.symm]
      · rw [if_neg h, if_neg (Ne.symm h)]
    · rw [push_addLv x o _ (grp_ne hS)]
theorem push_new {x : Od} {M : List Lv} (h : ∀ l, M.getLast? = some l → l.price ≠ x.price) : pushLv x M = M ++ [⟨x.price, x.qty, 1⟩] := by
  induction M with
  | nil => rfl
  | cons l M ih =>
    cases M with
    | nil => exact if_neg (h l rfl)
    | cons m M =>
      show l :: pushLv x (m :: M) = l :: ((m :: M) ++ _)
      rw [ih fun z hz => h z (by rw [List.getLast?_cons_cons]; exact hz)]
theorem push_same {x : Od} {M : List Lv} {j : Nat} {l : Lv} (hj : M.length = j + 1) (hl : M[j]? = some l) (he : l.price = x.price) : pushLv x M = M.set j ⟨l.price, l.qty + x.qty, l.count + 1⟩ := by
  induction M generalizing j with
  | nil => simp at hj
  | cons a M ih =>
    cases M with
    | nil =>
      have : j = 0 := by simpa using hj.symm
      subst this
      have : a = l := by simpa using hl
      subst this
      exact if_pos he
    | cons m M =>
      obtain ⟨j', rfl⟩ : ∃ j', j = j' + 1 := ⟨j - 1, by simp at hj; omega⟩
      show a :: pushLv x (m :: M) = a :: (m :: M).set j' _
      rw [ih (j := j') (by simpa using hj) (by simpa using hl)]
theorem grp_bd {S : List Od} (h : ∀ o ∈ S, 1 ≤ o.qty ∧ o.qty ≤ 1000000) : ∀ l ∈ grp S, (0 ≤ l.qty ∧ l.qty ≤ 1000000 * S.length) ∧ 0 ≤ l.count ∧ l.count ≤ S.length := by
  induction S with
  | nil => intro l hl; simp [grp] at hl
  | cons o S ih =>
    have ih' := ih fun x hx => h x (List.mem_cons_of_mem _ hx)
    have ho := h o (List.mem_cons_self ..)
    intro l hl
    have hl' : l ∈ addLv o (grp S) := hl
    rw [List.length_cons]
    cases hg : grp S with
    | nil =>
      rw [hg] at hl'
      simp only [addLv, List.mem_singleton] at hl'
      subst hl'
      dsimp only
      omega
    | cons z zs =>
      rw [hg] at hl' ih'
      simp only [addLv] at hl'
      split at hl'
      · rcases List.mem_cons.1 hl' with rfl | h2
        · have := ih' z (List.mem_cons_self ..)
          dsimp only
          omega
        · have := ih' l (List.mem_cons_of_mem _ h2)
          omega
      · rcases List.mem_cons.1 hl' with rfl | h2
        · dsimp only
          omega
        · have := ih' l h2
          omega
theorem grp_len (S : List Od) : (grp S).length ≤ S.length := by
  induction S with
  | nil => exact Nat.le_refl _
  | cons o S ih =>
    show (addLv o (grp S)).length ≤ _
    rw [List.length_cons]
    cases hg : grp S with
    | nil => simp [addLv]
    | cons z zs =>
      rw [hg, List.length_cons] at ih
      show (if z.price = o.price then (⟨o.price, o.qty + z.qty, 1 + z.count⟩ : Lv) :: zs else ⟨o.price, o.qty, 1⟩ :: z :: zs).length ≤ _
      split
      · rw [List.length_cons]; omega
      · rw [List.length_cons, List.length_cons]; omega
section
variable {W w w' : World} {pw : Nat} {L : List Od}
theorem side_next {L : List Od} {k : Nat} {o : Od} (h : L[k]? = some o) (s : Int) : grp (sideO (L.take (k + 1)) s) = if o.side = s then pushLv o (grp (sideO (L.take k) s)) else grp (sideO (L.take k) s) := by
  unfold sideO
  rw [filter_next h]
  by_cases hs : o.side = s
  · rw [if_pos (by simpa using hs), if_pos hs, grp_snoc]
  · rw [if_neg (by simpa using hs), if_neg hs, List.append_nil]
set_option maxRecDepth 100000 in
set_option maxHeartbeats 16000000 in
theorem ladder_ref (h : RB W w pw L) (hl : L.length ≤ 250) (hq : ∀ o ∈ L, 1 ≤ o.qty ∧ o.qty ≤ 1000000) (side : Int) :
    Calls Try.prog 42 #[.pointer (some ⟨pw, 0, none⟩), .int .i64 side] w fun e w' => ∃ v, e = .returned v ∧ RLV.Row w' w.heap.size v (ladO L side) ∧ Below w.heap.size w w' := by
  have H := Lib.hid h
  have HQ := Lib.hid hq
  clear h hq
  have HA : Hid (ladO L side = grp (sideO L side)) := Lib.hid rfl
  go_enter Try.func42, Try.ntmps42
  go_wp2_with fail
  go_loopw [5, 6] (fun v j w' => ∃ k : Nat, j = .int .i64 k ∧ k ≤ L.length ∧ RLV.Row w' w.heap.size v (grp (sideO (L.take k) side)) ∧ Below w.heap.size w w') (fun _ j _ => L.length - (intOf j).toNat)
  case atStart => exact ⟨0, rfl, Nat.zero_le _, Lay.Row.nil _ _, Below.refl _ _⟩
  case round =>
    obtain ⟨k, rfl, hk, hrow, hb⟩ := hrel
    obtain ⟨wz, rfl⟩ : ∃ wo : World, wo = wr := ⟨_, rfl⟩
    have HROW := Lib.hid hrow
    have HBL := Lib.hid hb
    obtain ⟨a, c, hbx, hrw⟩ := (H.out.below hb).box
    obtain ⟨a', c', he, _, hrd⟩ := hrw.rd
    injection he with he1 _ he2
    subst he1 he2
    have BX : wz.cell? ⟨pw, 0, none⟩ = some (.slice a L.length c) := hbx.cell 0
    clear hrow hb hbx hrw
    by_cases hlt : k < L.length
    · have hlt' : (k : Int) < (L.length : Int) := by omega
      obtain ⟨o, ho⟩ : ∃ o, L[k]? = some o := ⟨_, List.getElem?_eq_getElem hlt⟩
      obtain ⟨g, off, rfl, _, hc⟩ := hrd k o ho
      have HSN := Lib.hid (side_next ho side)
      have HBD := Lib.hid (grp_bd (S := sideO (L.take k) side) fun o ho => HQ.out o (List.mem_of_mem_take (List.mem_filter.1 ho).1))
      have HLN : Hid ((grp (sideO (L.take k) side)).length ≤ 250) := Lib.hid (Nat.le_trans (grp_len _) (Nat.le_trans (List.length_filter_le _ _) (by rw [List.length_take]; omega)))
      have HSL : Hid ((sideO (L.take k) side).length ≤ 250) := Lib.hid (Nat.le_trans (List.length_filter_le _ _) (by rw [List.length_take]; omega))
      have hoq := HQ.out o (List.mem_of_getElem? ho)
      obtain ⟨f0, f1, f2, f3, f4⟩ := o
      have hq1 : 1 ≤ f3 := hoq.1
      have hq2 : f3 ≤ 1000000 := hoq.2
      have c0 : wz.cell? ⟨g, off + k * 5, none⟩ = some (.int .i64 f0) := hc 0 _ rfl
      have c1 : wz.cell? ⟨g, off + k * 5 + 1, none⟩ = some (.int .i64 f1) := hc 1 _ rfl
      have c2 : wz.cell? ⟨g, off + k * 5 + 2, none⟩ = some (.int .i64 f2) := hc 2 _ rfl
      have c3 : wz.cell? ⟨g, off + k * 5 + 3, none⟩ = some (.int .i64 f3) := hc 3 _ rfl
      have c4 : wz.cell? ⟨g, off + k * 5 + 4, none⟩ = some (.bool f4) := hc 4 _ rfl
      clear hc ho hrd hoq
      go_upto_region 6 with (fail)
      clear c0 c1 c2 c3 c4 BX
      have hnew : Blk (wz.alloc (.cells #[.int .i64 f0, .int .i64 f1, .int .i64 f2, .int .i64 f3, .bool f4] 89)) wz.heap.size 89 #[.int .i64 f0, .int .i64 f1, .int .i64 f2, .int .i64 f3, .bool f4] := Blk.new _ _ _
      have hba := Below.allocN wz (.cells #[.int .i64 f0, .int .i64 f1, .int .i64 f2, .int .i64 f3, .bool f4] 89)
      have hr4 := HROW.out.below hba
      have hb4 := HBL.out.trans (hba.mono HBL.out.size)
      obtain ⟨gx, hgx⟩ : ∃ gx, wz.heap.size = gx := ⟨_, rfl⟩
      rw [hgx] at hnew ⊢
      clear hgx hba HROW HBL
      generalize wz.alloc (.cells #[.int .i64 f0, .int .i64 f1, .int .i64 f2, .int .i64 f3, .bool f4] 89) = wq at *
      have HXQ := Lib.hid hnew
      have HROW := Lib.hid hr4
      have HBQ := Lib.hid hb4
      have x1 : wq.cell? ⟨gx, 1, none⟩ = some (.int .i64 f1) := hnew.cell 1
      clear hnew hr4 hb4
      by_cases hs : f1 = side
      · replace HSN : Hid (grp (sideO (L.take (k + 1)) side) = pushLv ⟨f0, f1, f2, f3, f4⟩ (grp (sideO (L.take k) side))) := Lib.hid (by rw [HSN.out, if_pos hs])
        generalize grp (sideO (L.take k) side) = PL at *
        subst hs
        obtain ⟨va, vc, hvf⟩ := HROW.out.form
        obtain ⟨m, hm⟩ : ∃ m, PL.length = m := ⟨_, rfl⟩
        rw [hm] at hvf
        have HM := Lib.hid hm
        clear hm
        subst hvf
        go_upto_region 8 with (fail)
        clear x1
        have x2 : wq.cell? ⟨gx, 2, none⟩ = some (.int .i64 f2) := HXQ.out.cell 2
        obtain ⟨tst, HTS⟩ : ∃ tst : Bool, Hid ((tst = true → ∀ l, PL.getLast? = some l → l.price ≠ f2) ∧ (tst = false → ∃ j l, m = j + 1 ∧ PL[j]? = some l ∧ l.price = f2) ∧ ((m = 0 ∧ tst = true) ∨ ∃ j l, m = j + 1 ∧ PL[j]? = some l ∧ tst = !decide (l.price = f2))) := by
          have hm := HM.out
          rcases Nat.eq_zero_or_pos m with h0 | h0
          · refine ⟨true, Lib.hid ⟨fun _ l hl => ?_, fun h => (by cases h), .inl ⟨h0, rfl⟩⟩⟩
            rw [List.length_eq_zero_iff.1 (hm.trans h0)] at hl
            cases hl
          · obtain ⟨l, hl⟩ : ∃ l, PL[m - 1]? = some l := ⟨_, List.getElem?_eq_getElem (by omega)⟩
            refine ⟨!decide (l.price = f2), Lib.hid ⟨fun ht l' hl' => ?_, fun ht => ⟨m - 1, l, by omega, hl, by simpa using ht⟩, .inr ⟨m - 1, l, by omega, hl, rfl⟩⟩⟩
            rw [List.getLast?_eq_getElem?, hm, hl] at hl'
            injection hl' with hl'
            subst hl'
            simpa using ht
        go_cut [43] (fun v wx => v = .bool tst ∧ Below wq.heap.size wq wx)
        case first =>
          rcases HTS.out.2.2 with ⟨rfl, ht⟩ | ⟨j, l, rfl, hl, ht⟩
          · subst ht
            go_quiet (fail)
            go_wp2_with fail
            go_meet
            exact ⟨rfl, Below.drewN_of _ _⟩
          · obtain ⟨g9, cap9, hv9, _, hc9⟩ := Lay.Row.at_ HROW.out j l hl
            injection hv9 with hv9 hv8 hv7
            subst hv9
            clear hv8 hv7
            have hm250 : (j : Int) ≤ 250 := by
              have h1 := HM.out
              have h2 := HLN.out
              omega
            have hz1 : (((j + 1 : Nat) : Int) == 0) = false := by rw [beq_eq_false_iff_ne]; omega
            have hz2 : ((j : Int) + 1 == 0) = false := by rw [beq_eq_false_iff_ne]; omega
            obtain ⟨lp, hlp⟩ : ∃ y, l.price = y := ⟨_, rfl⟩
            have p0 : wq.cell? ⟨g9, j * 3, none⟩ = some (.int .i64 lp) := hlp ▸ hc9 0 _ rfl
            rw [hlp] at ht
            clear hc9 hl hlp
            by_cases hpp : lp = f2
            · subst hpp
              obtain rfl : tst = false := by rw [ht]; simp
              clear ht
              go_quiet (fail)
              go_wp2_with fail
              go_meet
              exact ⟨rfl, Below.drewN_of _ _⟩
            · have hpb : (lp != f2) = true := by rw [bne_iff_ne]; exact hpp
              obtain rfl : tst = true := by rw [ht]; simp [hpp]
              clear ht
              go_quiet (fail)
              go_wp2_with fail
              go_meet
              exact ⟨rfl, Below.drewN_of _ _⟩
        case rest =>
        obtain ⟨rfl, hb⟩ := hcut
        obtain ⟨wy, rfl⟩ : ∃ wo : World, wo = wc := ⟨_, rfl⟩
        have HXY := Lib.hid (HXQ.out.below hb)
        have HRY := Lib.hid (HROW.out.below hb)
        have HBY := Lib.hid (HBQ.out.trans (hb.mono HBQ.out.size))
        clear hb HXQ HROW HBQ x2
        cases tst with
        | true =>
          as_aux_lemma =>
          have HPN : Hid (pushLv ⟨f0, f1, f2, f3, f4⟩ PL = PL ++ [⟨f2, f3, 1⟩]) := Lib.hid (push_new (HTS.out.1 rfl))
          have x2 : wy.cell? ⟨gx, 2, none⟩ = some (.int .i64 f2) := HXY.out.cell 2
          have hnew : Blk (wy.alloc (.cells #[.int .i64 f2, .int .i64 0, .int .i64 0] 93)) wy.heap.size 93 (⟨f2, 0, 0⟩ : Lv).cells.toArray := Blk.new _ _ _
          have HNEW := Lib.hid hnew
          have hba := Below.allocN wy (.cells #[.int .i64 f2, .int .i64 0, .int .i64 0] 93)
          have HR4 := Lib.hid (HRY.out.below hba)
          have HB4 := Lib.hid (HBY.out.trans (hba.mono HBY.out.size))
          have HX4 := Lib.hid (HXY.out.below hba)
          have hm250 : (m : Int) ≤ 250 := by
            have h1 := HM.out
            have h2 := HLN.out
            omega
          clear hnew hba
          go_wp2_with (first
            | (at_builtin; go_loud (refine RLV.push rfl (.tmp 44) (.tmp 48) rfl w.heap.size (.slice va m vc) PL rfl HR4.out wy.heap.size ⟨f2, 0, 0⟩ rfl HNEW.out.lt HNEW.out.cellsAt (by rw [HM.out]; omega) HB4.out.size ?_)))
          intro v' w6 hr6 hg6 ho6
          have hb6 := grown_below hg6 HB4.out (own_base HR4.out)
          have hkp := grown_keeps hg6
          have hx6 := HX4.out.keeps hkp (fun hg => (HX4.out.tyd).ne (own_tyd HR4.out _ hg) (by decide) rfl)
          obtain ⟨g, cap, cur, hv', hgb, hgt⟩ := hr6.blk (by simp)
          rw [List.length_append, HM.out] at hv'
          subst hv'
          have HRO := Lib.hid hr6
          have HBQ := Lib.hid hb6
          have HXQ := Lib.hid hx6
          have HGB := Lib.hid hgb
          have HGT := Lib.hid hgt
          have HL : Hid ((PL ++ [(⟨f2, 0, 0⟩ : Lv)])[m]? = some (⟨f2, 0, 0⟩ : Lv)) := Lib.hid (by rw [← HM.out, List.getElem?_append_right (Nat.le_refl _), Nat.sub_self]; rfl)
          have HPU : Hid (pushLv ⟨f0, f1, f2, f3, f4⟩ PL = (PL ++ [(⟨f2, 0, 0⟩ : Lv)]).set m ⟨f2, f3, 1⟩) := Lib.hid (by rw [HPN.out, ← HM.out, List.set_append_right _ _ (Nat.le_refl _), Nat.sub_self]; rfl)
          clear hr6 hb6 hkp hx6 hgb hgt hg6 ho6 HNEW HR4 HB4 HX4 HRY HXY HBY x2 HPN HTS
          generalize w6 = wq at *
          have cl := (Lay.Row.at_ HRO.out m _ HL.out)
          obtain ⟨g9, cap9, hv9, _, hc9⟩ := cl
          injection hv9 with hv9 hv8 hv7
          injection hv9 with hv9
          injection hv9 with hv9
          subst hv9
          clear hv8 hv7
          have q1 : wq.cell? ⟨g, m * 3 + 1, none⟩ = some (.int .i64 0) := hc9 1 _ rfl
          have x3 : wq.cell? ⟨gx, 3, none⟩ = some (.int .i64 f3) := HXQ.out.cell 3
          have fz : ∀ o, wq.frozen? ⟨g, o, none⟩ = false := fun o => HGT.out.frozen o
          clear hc9
          have hwJ : IntKind.i64.wrap (m : Int) = (m : Int) := IntWalk.i64_in _ (by omega)
          have hlJ : (m : Int) < (m : Int) + 1 := by omega
          have hgJ : (0 : Int) ≤ (m : Int) := by omega
          go_upto_region 11 with (fail)
          refine wp_region_E (S := fun w' => w'.cell? ⟨g, m * 3 + 1, none⟩ = some (.int .i64 0) ∧ w'.cell? ⟨gx, 3, none⟩ = some (.int .i64 f3)) (by kernel_rfl) ⟨q1, x3⟩ (fun hHeld => ?_)
          refine wpE_take (i := 0) (oi := ?oi1) (v := ?v1) ?hi1 (by kernel_rfl) (by kernel_rfl) (by kernel_rfl) (by kernel_rfl) ?hQ1 ?hy1 (by assumption) ?rest1
          case hi1 => (simp only [List.getElem?_toArray]; rfl)
          case hQ1 => exact fun _ _ _ h => h
          case hy1 => exact Or.inl ⟨by rfl, by (intro w hSw; (try dsimp only at hSw); go_simp; try with_reducible rfl)⟩
          try simp only [Act.put, List.setIfInBounds_toArray, List.set_cons_zero, List.set_cons_succ]
          refine wpE_take (i := 1) (oi := ?oi2) (v := ?v2) ?hi2 (by kernel_rfl) (by kernel_rfl) (by kernel_rfl) (by kernel_rfl) ?hQ2 ?hy2 (by assumption) ?rest2
          case hi2 => (simp only [List.getElem?_toArray]; rfl)
          case hQ2 => exact fun _ _ _ h => h
          case hy2 => exact Or.inl ⟨by rfl, by (intro w hSw; (try dsimp only at hSw); go_simp; try with_reducible rfl)⟩
          try simp only [Act.put, List.setIfInBounds_toArray, List.set_cons_zero, List.set_cons_succ]
          refine wpE_take (i := 2) (oi := ?oi3) (v := ?v3) ?hi3 (by kernel_rfl) (by kernel_rfl) (by kernel_rfl) (by kernel_rfl) ?hQ3 ?hy3 (by assumption) ?rest3
          case hi3 => (simp only [List.getElem?_toArray]; rfl)
          case hQ3 => exact fun _ _ _ h => h
          case hy3 => exact Or.inl ⟨by rfl, by (intro w hSw; (try dsimp only at hSw); go_simp; try with_reducible rfl)⟩
          try simp only [Act.put, List.setIfInBounds_toArray, List.set_cons_zero, List.set_cons_succ]
          refine wpE_take (i := 3) (oi := ?oi4) (v := ?v4) ?hi4 (by kernel_rfl) (by kernel_rfl) (by kernel_rfl) (by kernel_rfl) ?hQ4 ?hy4 (by assumption) ?rest4
          case hi4 => (simp only [List.getElem?_toArray]; rfl)
          case hQ4 => exact fun _ _ _ h => h
          case hy4 => exact Or.inl ⟨by rfl, by (intro w hSw; (try dsimp only at hSw); go_simp; try with_reducible rfl)⟩
          try simp only [Act.put, List.setIfInBounds_toArray, List.set_cons_zero, List.set_cons_succ]
          refine wpE_take (i := 4) (oi := ?oi5) (v := ?v5) ?hi5 (by kernel_rfl) (by kernel_rfl) (by kernel_rfl) (by kernel_rfl) ?hQ5 ?hy5 (by assumption) ?rest5
          case hi5 => (simp only [List.getElem?_toArray]; rfl)
          case hQ5 => exact fun _ _ _ h => h
          case hy5 => exact Or.inl ⟨by rfl, by (intro w hSw; (try dsimp only at hSw); go_simp; try with_reducible rfl)⟩
          try simp only [Act.put, List.setIfInBounds_toArray, List.set_cons_zero, List.set_cons_succ]
          refine wpE_take (i := 5) (oi := ?oi6) (v := ?v6) ?hi6 (by kernel_rfl) (by kernel_rfl) (by kernel_rfl) (by kernel_rfl) ?hQ6 ?hy6 (by assumption) ?rest6
          case hi6 => (simp only [List.getElem?_toArray]; rfl)
          case hQ6 => exact fun _ _ _ h => h
          case hy6 => exact Or.inl ⟨by rfl, by (intro w hSw; (try dsimp only at hSw); go_simp; try with_reducible rfl)⟩
          try simp only [Act.put, List.setIfInBounds_toArray, List.set_cons_zero, List.set_cons_succ]
          refine wpE_take (i := 6) (oi := ?oi7) (v := ?v7) ?hi7 (by kernel_rfl) (by kernel_rfl) (by kernel_rfl) (by kernel_rfl) ?hQ7 ?hy7 (by assumption) ?rest7
          case hi7 => (simp only [List.getElem?_toArray]; rfl)
          case hQ7 => exact fun _ _ _ h => h
          case hy7 => exact Or.inl ⟨by rfl, by (intro w hSw; (try dsimp only at hSw); go_simp; try with_reducible rfl)⟩
          try simp only [Act.put, List.setIfInBounds_toArray, List.set_cons_zero, List.set_cons_succ]
          refine wpE_take (i := 7) (oi := ?oi8) (v := ?v8) ?hi8 (by kernel_rfl) (by kernel_rfl) (by kernel_rfl) (by kernel_rfl) ?hQ8 ?hy8 (by assumption) ?rest8
          case hi8 => (simp only [List.getElem?_toArray]; rfl)
          case hQ8 => exact fun _ _ _ h => h
          case hy8 => exact Or.inl ⟨by rfl, by (intro w hSw; (try dsimp only at hSw); go_simp; try with_reducible rfl)⟩
          try simp only [Act.put, List.setIfInBounds_toArray, List.set_cons_zero, List.set_cons_succ]
          refine wpE_take (i := 8) (oi := ?oi9) (v := ?v9) ?hi9 (by kernel_rfl) (by kernel_rfl) (by kernel_rfl) (by kernel_rfl) ?hQ9 ?hy9 (by assumption) ?rest9
          case hi9 => (simp only [List.getElem?_toArray]; rfl)
          case hQ9 => exact fun _ _ _ h => h
          case hy9 => exact Or.inl ⟨by rfl, by (intro w hSw; (try dsimp only at hSw); go_simp; try with_reducible rfl)⟩
          try simp only [Act.put, List.setIfInBounds_toArray, List.set_cons_zero, List.set_cons_succ]
          refine wpE_take (i := 9) (oi := ?oi10) (v := ?v10) ?hi10 (by kernel_rfl) (by kernel_rfl) (by kernel_rfl) (by kernel_rfl) ?hQ10 ?hy10 (by assumption) ?rest10
          case hi10 => (simp only [List.getElem?_toArray]; rfl)
          case hQ10 => exact fun _ _ _ h => h
          case hy10 => exact Or.inl ⟨by rfl, by (intro w hSw; (try dsimp only at hSw); go_simp; try with_reducible rfl)⟩
          try simp only [Act.put, List.setIfInBounds_toArray, List.set_cons_zero, List.set_cons_succ]
          refine wpE_take (i := 10) (oi := ?oi11) (v := ?v11) ?hi11 (by kernel_rfl) (by kernel_rfl) (by kernel_rfl) (by kernel_rfl) ?hQ11 ?hy11 (by assumption) ?rest11
          case hi11 => (simp only [List.getElem?_toArray]; rfl)
          case hQ11 => exact fun _ _ _ h => h
          case hy11 => exact Or.inl ⟨by rfl, by (intro w hSw; (try dsimp only at hSw); go_simp; try with_reducible rfl)⟩
          try simp only [Act.put, List.setIfInBounds_toArray, List.set_cons_zero, List.set_cons_succ]
          refine wpE_take (i := 11) (oi := ?oi12) (v := ?v12) ?hi12 (by kernel_rfl) (by kernel_rfl) (by kernel_rfl) (by kernel_rfl) ?hQ12 ?hy12 (by assumption) ?rest12
          case hi12 => (simp only [List.getElem?_toArray]; rfl)
          case hQ12 => exact fun _ _ _ h => h
          case hy12 => exact Or.inl ⟨by rfl, by (intro w hSw; (try dsimp only at hSw); go_simp; try with_reducible rfl)⟩
          try simp only [Act.put, List.setIfInBounds_toArray, List.set_cons_zero, List.set_cons_succ]
          refine wpE_take (i := 12) (oi := ?oi13) (v := ?v13) ?hi13 (by kernel_rfl) (by kernel_rfl) (by kernel_rfl) (by kernel_rfl) ?hQ13 ?hy13 (by assumption) ?rest13
          case hi13 => (simp only [List.getElem?_toArray]; rfl)
          case hQ13 => exact fun _ _ _ h => h
          case hy13 => exact Or.inl ⟨by rfl, by (intro w hSw; (try dsimp only at hSw); go_simp; try with_reducible rfl)⟩
          try simp only [Act.put, List.setIfInBounds_toArray, List.set_cons_zero, List.set_cons_succ]
          refine wpE_take (i := 13) (oi := ?oi14) (v := ?v14) ?hi14 (by kernel_rfl) (by kernel_rfl) (by kernel_rfl) (by kernel_rfl) ?hQ14 ?hy14 (by assumption) ?rest14
          case hi14 => (simp only [List.getElem?_toArray]; rfl)
          case hQ14 => exact fun _ _ _ h => h
          case hy14 => exact Or.inl ⟨by rfl, by (intro w hSw; (try dsimp only at hSw); go_simp; try with_reducible rfl)⟩
          try simp only [Act.put, List.setIfInBounds_toArray, List.set_cons_zero, List.set_cons_succ]
          refine wpE_last (i := 14) (o := ?o29) ?ho29 (by kernel_rfl) (by kernel_rfl) (by kernel_rfl) (fun K hK => ?_)
          case ho29 => (simp only [List.getElem?_toArray]; rfl)
          go_simp
          try rw [show IntKind.i64.wrap (f3) = f3 from IntWalk.i64_in _ (by omega)]
          refine hK.out _ _ ?_
          clear hK K hHeld q1 x3 fz
          have hr1 : RLV.Row ((wq.setCell ⟨g, m * 3 + 1, none⟩ (.int .i64 (f3))).drew) w.heap.size _ ((PL ++ [(⟨f2, 0, 0⟩ : Lv)]).set m ⟨f2, f3, 0⟩) := (Lay.Row.set_ HRO.out (e' := (⟨f2, f3, 0⟩ : Lv)) (k := 1) (u := .int .i64 (f3)) HL.out (by decide) rfl).below (Below.drewN_of _ 1)
          have hb0 := HBQ.out.setCell (p := ⟨g, m * 3 + 1, none⟩) HGB.out (.int .i64 (f3))
          have hb1 : Below w.heap.size w ((wq.setCell ⟨g, m * 3 + 1, none⟩ (.int .i64 (f3))).drew) := hb0.trans ((Below.drewN_of _ 1).mono hb0.size)
          have hg1 : Blk ((wq.setCell ⟨g, m * 3 + 1, none⟩ (.int .i64 (f3))).drew) g RLV.t _ := (HGT.out.set_ (m * 3 + 1) (.int .i64 (f3))).below (Below.drewN_of _ 1)
          have HL1 : Hid (((PL ++ [(⟨f2, 0, 0⟩ : Lv)]).set m ⟨f2, f3, 0⟩)[m]? = some (⟨f2, f3, 0⟩ : Lv)) := Lib.hid (by rw [List.getElem?_set_self (lt_of_get HL.out)])
          replace HRO := Lib.hid hr1
          replace HBQ := Lib.hid hb1
          replace HGT := Lib.hid hg1
          clear hr1 hb0 hb1 hg1 HXQ
          generalize (wq.setCell ⟨g, m * 3 + 1, none⟩ (.int .i64 (f3))).drew = wp at *
          obtain ⟨g9, cap9, hv9, _, hc9⟩ := Lay.Row.at_ HRO.out m _ HL1.out
          injection hv9 with hv9 hv8 hv7
          injection hv9 with hv9
          injection hv9 with hv9
          subst hv9
          clear hv8 hv7
          have q2 : wp.cell? ⟨g, m * 3 + 2, none⟩ = some (.int .i64 0) := hc9 2 _ rfl
          have fz : ∀ o, wp.frozen? ⟨g, o, none⟩ = false := fun o => HGT.out.frozen o
          clear hc9
          go_wp2_with fail
          clear q2 fz
          have hr2 : RLV.Row (wp.setCell ⟨g, m * 3 + 2, none⟩ (.int .i64 (1))) w.heap.size _ (((PL ++ [(⟨f2, 0, 0⟩ : Lv)]).set m ⟨f2, f3, 0⟩).set m ⟨f2, f3, 1⟩) := Lay.Row.set_ HRO.out (e' := (⟨f2, f3, 1⟩ : Lv)) (k := 2) (u := .int .i64 (1)) HL1.out (by decide) rfl
          rw [List.set_set, ← HPU.out] at hr2
          have HR2 := Lib.hid hr2
          have HB2 := Lib.hid (HBQ.out.setCell (p := ⟨g, m * 3 + 2, none⟩) HGB.out (.int .i64 (1)))
          clear hr2
          go_roundw
          case rel => exact ⟨k + 1, by go_num, by omega, by rw [HSN.out]; exact HR2.out, HB2.out⟩
          case measure => simp [intOf]; omega
        | false =>
          as_aux_lemma =>
          obtain ⟨j, l, rfl, hl, hlp⟩ := HTS.out.2.1 rfl
          have HPS := Lib.hid (push_same (x := ⟨f0, f1, f2, f3, f4⟩) HM.out hl hlp)
          have hbd := HBD.out l (List.mem_of_getElem? hl)
          have hsl := HSL.out
          obtain ⟨g, cap, cur, hv', hgb, hgt⟩ := HRY.out.blk (by rintro rfl; cases hl)
          obtain ⟨lp, lq, lc⟩ := l
          have hlq1 : 0 ≤ lq := hbd.1.1
          have hlq2 : lq ≤ 250000000 := by have := hbd.1.2; dsimp only at this; omega
          have hlc1 : 0 ≤ lc := hbd.2.1
          have hlc2 : lc ≤ 250 := by have := hbd.2.2; dsimp only at this; omega
          injection hv' with hv' hv8 hv7
          subst hv'
          clear hv8 hv7
          have hm250 : (j : Int) ≤ 250 := by
            have h1 := HM.out
            have h2 := HLN.out
            omega
          replace HRY : Hid (RLV.Row wy w.heap.size (.slice (some ⟨g, 0, none⟩) (j + 1) vc) PL) := HRY
          have HRO := Lib.hid HRY.out
          have HBQ := Lib.hid HBY.out
          have HXQ := Lib.hid HXY.out
          have HGB := Lib.hid hgb
          have HGT := Lib.hid hgt
          have HL := Lib.hid hl
          have HPU : Hid (pushLv ⟨f0, f1, f2, f3, f4⟩ PL = PL.set j ⟨lp, lq + f3, lc + 1⟩) := Lib.hid HPS.out
          clear hl hlp hbd hsl hgb hgt HRY HXY HBY HTS HPS
          generalize wy = wq at *
          have cl := (Lay.Row.at_ HRO.out j _ HL.out)
          obtain ⟨g9, cap9, hv9, _, hc9⟩ := cl
          injection hv9 with hv9 hv8 hv7
          injection hv9 with hv9
          injection hv9 with hv9
          subst hv9
          clear hv8 hv7
          have q1 : wq.cell? ⟨g, j * 3 + 1, none⟩ = some (.int .i64 lq) := hc9 1 _ rfl
          have x3 : wq.cell? ⟨gx, 3, none⟩ = some (.int .i64 f3) := HXQ.out.cell 3
          have fz : ∀ o, wq.frozen? ⟨g, o, none⟩ = false := fun o => HGT.out.frozen o
          clear hc9
          have hwJ : IntKind.i64.wrap (j : Int) = (j : Int) := IntWalk.i64_in _ (by omega)
          have hlJ : (j : Int) < (j : Int) + 1 := by omega
          have hgJ : (0 : Int) ≤ (j : Int) := by omega
          go_upto_region 11 with (fail)
          refine wp_region_E (S := fun w' => w'.cell? ⟨g, j * 3 + 1, none⟩ = some (.int .i64 lq) ∧ w'.cell? ⟨gx, 3, none⟩ = some (.int .i64 f3)) (by kernel_rfl) ⟨q1, x3⟩ (fun hHeld => ?_)
          refine wpE_take (i := 0) (oi := ?oi15) (v := ?v15) ?hi15 (by kernel_rfl) (by kernel_rfl) (by kernel_rfl) (by kernel_rfl) ?hQ15 ?hy15 (by assumption) ?rest15
          case hi15 => (simp only [List.getElem?_toArray]; rfl)
          case hQ15 => exact fun _ _ _ h => h
          case hy15 => exact Or.inl ⟨by rfl, by (intro w hSw; (try dsimp only at hSw); go_simp; try with_reducible rfl)⟩
          try simp only [Act.put, List.setIfInBounds_toArray, List.set_cons_zero, List.set_cons_succ]
          refine wpE_take (i := 1) (oi := ?oi16) (v := ?v16) ?hi16 (by kernel_rfl) (by kernel_rfl) (by kernel_rfl) (by kernel_rfl) ?hQ16 ?hy16 (by assumption) ?rest16
          case hi16 => (simp only [List.getElem?_toArray]; rfl)
          case hQ16 => exact fun _ _ _ h => h
          case hy16 => exact Or.inl ⟨by rfl, by (intro w hSw; (try dsimp only at hSw); go_simp; try with_reducible rfl)⟩
          try simp only [Act.put, List.setIfInBounds_toArray, List.set_cons_zero, List.set_cons_succ]
          refine wpE_take (i := 2) (oi := ?oi17) (v := ?v17) ?hi17 (by kernel_rfl) (by kernel_rfl) (by kernel_rfl) (by kernel_rfl) ?hQ17 ?hy17 (by assumption) ?rest17
          case hi17 => (simp only [List.getElem?_toArray]; rfl)
          case hQ17 => exact fun _ _ _ h => h
          case hy17 => exact Or.inl ⟨by rfl, by (intro w hSw; (try dsimp only at hSw); go_simp; try with_reducible rfl)⟩
          try simp only [Act.put, List.setIfInBounds_toArray, List.set_cons_zero, List.set_cons_succ]
          refine wpE_take (i := 3) (oi := ?oi18) (v := ?v18) ?hi18 (by kernel_rfl) (by kernel_rfl) (by kernel_rfl) (by kernel_rfl) ?hQ18 ?hy18 (by assumption) ?rest18
          case hi18 => (simp only [List.getElem?_toArray]; rfl)
          case hQ18 => exact fun _ _ _ h => h
          case hy18 => exact Or.inl ⟨by rfl, by (intro w hSw; (try dsimp only at hSw); go_simp; try with_reducible rfl)⟩
          try simp only [Act.put, List.setIfInBounds_toArray, List.set_cons_zero, List.set_cons_succ]
          refine wpE_take (i := 4) (oi := ?oi19) (v := ?v19) ?hi19 (by kernel_rfl) (by kernel_rfl) (by kernel_rfl) (by kernel_rfl) ?hQ19 ?hy19 (by assumption) ?rest19
          case hi19 => (simp only [List.getElem?_toArray]; rfl)
          case hQ19 => exact fun _ _ _ h => h
          case hy19 => exact Or.inl ⟨by rfl, by (intro w hSw; (try dsimp only at hSw); go_simp; try with_reducible rfl)⟩
          try simp only [Act.put, List.setIfInBounds_toArray, List.set_cons_zero, List.set_cons_succ]
          refine wpE_take (i := 5) (oi := ?oi20) (v := ?v20) ?hi20 (by kernel_rfl) (by kernel_rfl) (by kernel_rfl) (by kernel_rfl) ?hQ20 ?hy20 (by assumption) ?rest20
          case hi20 => (simp only [List.getElem?_toArray]; rfl)
          case hQ20 => exact fun _ _ _ h => h
          case hy20 => exact Or.inl ⟨by rfl, by (intro w hSw; (try dsimp only at hSw); go_simp; try with_reducible rfl)⟩
          try simp only [Act.put, List.setIfInBounds_toArray, List.set_cons_zero, List.set_cons_succ]
          refine wpE_take (i := 6) (oi := ?oi21) (v := ?v21) ?hi21 (by kernel_rfl) (by kernel_rfl) (by kernel_rfl) (by kernel_rfl) ?hQ21 ?hy21 (by assumption) ?rest21
          case hi21 => (simp only [List.getElem?_toArray]; rfl)
          case hQ21 => exact fun _ _ _ h => h
          case hy21 => exact Or.inl ⟨by rfl, by (intro w hSw; (try dsimp only at hSw); go_simp; try with_reducible rfl)⟩
          try simp only [Act.put, List.setIfInBounds_toArray, List.set_cons_zero, List.set_cons_succ]
          refine wpE_take (i := 7) (oi := ?oi22) (v := ?v22) ?hi22 (by kernel_rfl) (by kernel_rfl) (by kernel_rfl) (by kernel_rfl) ?hQ22 ?hy22 (by assumption) ?rest22
          case hi22 => (simp only [List.getElem?_toArray]; rfl)
          case hQ22 => exact fun _ _ _ h => h
          case hy22 => exact Or.inl ⟨by rfl, by (intro w hSw; (try dsimp only at hSw); go_simp; try with_reducible rfl)⟩
          try simp only [Act.put, List.setIfInBounds_toArray, List.set_cons_zero, List.set_cons_succ]
          refine wpE_take (i := 8) (oi := ?oi23) (v := ?v23) ?hi23 (by kernel_rfl) (by kernel_rfl) (by kernel_rfl) (by kernel_rfl) ?hQ23 ?hy23 (by assumption) ?rest23
          case hi23 => (simp only [List.getElem?_toArray]; rfl)
          case hQ23 => exact fun _ _ _ h => h
          case hy23 => exact Or.inl ⟨by rfl, by (intro w hSw; (try dsimp only at hSw); go_simp; try with_reducible rfl)⟩
          try simp only [Act.put, List.setIfInBounds_toArray, List.set_cons_zero, List.set_cons_succ]
          refine wpE_take (i := 9) (oi := ?oi24) (v := ?v24) ?hi24 (by kernel_rfl) (by kernel_rfl) (by kernel_rfl) (by kernel_rfl) ?hQ24 ?hy24 (by assumption) ?rest24
          case hi24 => (simp only [List.getElem?_toArray]; rfl)
          case hQ24 => exact fun _ _ _ h => h
          case hy24 => exact Or.inl ⟨by rfl, by (intro w hSw; (try dsimp only at hSw); go_simp; try with_reducible rfl)⟩
          try simp only [Act.put, List.setIfInBounds_toArray, List.set_cons_zero, List.set_cons_succ]
          refine wpE_take (i := 10) (oi := ?oi25) (v := ?v25) ?hi25 (by kernel_rfl) (by kernel_rfl) (by kernel_rfl) (by kernel_rfl) ?hQ25 ?hy25 (by assumption) ?rest25
          case hi25 => (simp only [List.getElem?_toArray]; rfl)
          case hQ25 => exact fun _ _ _ h => h
          case hy25 => exact Or.inl ⟨by rfl, by (intro w hSw; (try dsimp only at hSw); go_simp; try with_reducible rfl)⟩
          try simp only [Act.put, List.setIfInBounds_toArray, List.set_cons_zero, List.set_cons_succ]
          refine wpE_take (i := 11) (oi := ?oi26) (v := ?v26) ?hi26 (by kernel_rfl) (by kernel_rfl) (by kernel_rfl) (by kernel_rfl) ?hQ26 ?hy26 (by assumption) ?rest26
          case hi26 => (simp only [List.getElem?_toArray]; rfl)
          case hQ26 => exact fun _ _ _ h => h
          case hy26 => exact Or.inl ⟨by rfl, by (intro w hSw; (try dsimp only at hSw); go_simp; try with_reducible rfl)⟩
          try simp only [Act.put, List.setIfInBounds_toArray, List.set_cons_zero, List.set_cons_succ]
          refine wpE_take (i := 12) (oi := ?oi27) (v := ?v27) ?hi27 (by kernel_rfl) (by kernel_rfl) (by kernel_rfl) (by kernel_rfl) ?hQ27 ?hy27 (by assumption) ?rest27
          case hi27 => (simp only [List.getElem?_toArray]; rfl)
          case hQ27 => exact fun _ _ _ h => h
          case hy27 => exact Or.inl ⟨by rfl, by (intro w hSw; (try dsimp only at hSw); go_simp; try with_reducible rfl)⟩
          try simp only [Act.put, List.setIfInBounds_toArray, List.set_cons_zero, List.set_cons_succ]
          refine wpE_take (i := 13) (oi := ?oi28) (v := ?v28) ?hi28 (by kernel_rfl) (by kernel_rfl) (by kernel_rfl) (by kernel_rfl) ?hQ28 ?hy28 (by assumption) ?rest28
          case hi28 => (simp only [List.getElem?_toArray]; rfl)
          case hQ28 => exact fun _ _ _ h => h
          case hy28 => exact Or.inl ⟨by rfl, by (intro w hSw; (try dsimp only at hSw); go_simp; try with_reducible rfl)⟩
          try simp only [Act.put, List.setIfInBounds_toArray, List.set_cons_zero, List.set_cons_succ]
          refine wpE_last (i := 14) (o := ?o30) ?ho30 (by kernel_rfl) (by kernel_rfl) (by kernel_rfl) (fun K hK => ?_)
          case ho30 => (simp only [List.getElem?_toArray]; rfl)
          go_simp
          try rw [show IntKind.i64.wrap (lq + f3) = lq + f3 from IntWalk.i64_in _ (by omega)]
          refine hK.out _ _ ?_
          clear hK K hHeld q1 x3 fz
          have hr1 : RLV.Row ((wq.setCell ⟨g, j * 3 + 1, none⟩ (.int .i64 (lq + f3))).drew) w.heap.size _ (PL.set j ⟨lp, lq + f3, lc⟩) := (Lay.Row.set_ HRO.out (e' := (⟨lp, lq + f3, lc⟩ : Lv)) (k := 1) (u := .int .i64 (lq + f3)) HL.out (by decide) rfl).below (Below.drewN_of _ 1)
          have hb0 := HBQ.out.setCell (p := ⟨g, j * 3 + 1, none⟩) HGB.out (.int .i64 (lq + f3))
          have hb1 : Below w.heap.size w ((wq.setCell ⟨g, j * 3 + 1, none⟩ (.int .i64 (lq + f3))).drew) := hb0.trans ((Below.drewN_of _ 1).mono hb0.size)
          have hg1 : Blk ((wq.setCell ⟨g, j * 3 + 1, none⟩ (.int .i64 (lq + f3))).drew) g RLV.t _ := (HGT.out.set_ (j * 3 + 1) (.int .i64 (lq + f3))).below (Below.drewN_of _ 1)
          have HL1 : Hid ((PL.set j ⟨lp, lq + f3, lc⟩)[j]? = some (⟨lp, lq + f3, lc⟩ : Lv)) := Lib.hid (by rw [List.getElem?_set_self (lt_of_get HL.out)])
          replace HRO := Lib.hid hr1
          replace HBQ := Lib.hid hb1
          replace HGT := Lib.hid hg1
          clear hr1 hb0 hb1 hg1 HXQ
          generalize (wq.setCell ⟨g, j * 3 + 1, none⟩ (.int .i64 (lq + f3))).drew = wp at *
          obtain ⟨g9, cap9, hv9, _, hc9⟩ := Lay.Row.at_ HRO.out j _ HL1.out
          injection hv9 with hv9 hv8 hv7
          injection hv9 with hv9
          injection hv9 with hv9
          subst hv9
          clear hv8 hv7
          have q2 : wp.cell? ⟨g, j * 3 + 2, none⟩ = some (.int .i64 lc) := hc9 2 _ rfl
          have fz : ∀ o, wp.frozen? ⟨g, o, none⟩ = false := fun o => HGT.out.frozen o
          clear hc9
          go_wp2_with fail
          clear q2 fz
          have hr2 : RLV.Row (wp.setCell ⟨g, j * 3 + 2, none⟩ (.int .i64 (lc + 1))) w.heap.size _ ((PL.set j ⟨lp, lq + f3, lc⟩).set j ⟨lp, lq + f3, lc + 1⟩) := Lay.Row.set_ HRO.out (e' := (⟨lp, lq + f3, lc + 1⟩ : Lv)) (k := 2) (u := .int .i64 (lc + 1)) HL1.out (by decide) rfl
          rw [List.set_set, ← HPU.out] at hr2
          have HR2 := Lib.hid hr2
          have HB2 := Lib.hid (HBQ.out.setCell (p := ⟨g, j * 3 + 2, none⟩) HGB.out (.int .i64 (lc + 1)))
          clear hr2
          go_roundw
          case rel => exact ⟨k + 1, by go_num, by omega, by rw [HSN.out]; exact HR2.out, HB2.out⟩
          case measure => simp [intOf]; omega
      · have hsb : (f1 != side) = true := by rw [bne_iff_ne]; exact hs
        have HS2 : Hid (grp (sideO (L.take (k + 1)) side) = grp (sideO (L.take k) side)) := Lib.hid (by rw [HSN.out, if_neg hs])
        go_wp2_with fail
        go_roundw
        case rel => exact ⟨k + 1, by go_num, by omega, by rw [HS2.out]; exact HROW.out, HBQ.out⟩
        case measure => simp [intOf]; omega
    · obtain rfl : k = L.length := by omega
      have hrow := HROW.out
      rw [List.take_length] at hrow
      have HRW := Lib.hid hrow
      clear hrow
      go_wp2_with fail
      go_ret
      exact ⟨_, rfl, by rw [HA.out]; exact HRW.out, HBL.out⟩
end
end Go.Proofs.Ytmhljdkhekjfmaa
