/- The walk of cornhilllaw15.LegsMirror. -/
import Derived.Test.YtjjddlfbadahhaaMirr
import Derived.Test.YtjjddlfbadahhaaLast
namespace Go.Proofs.Ytjjddlfbadahhaa
open Go.RowKit

/-- append of one number, as a step of a region that draws its order -/
theorem step_push_int64 {w : World} {ops : Array Oper} {o : Oper} {a : Act} {K : Act → World → Prop} {Q : Exit → Act → World → Prop} {E : Prop} (hgd : o.guard = none) (s x : Operand)
    (ho : o.op = .call { callee := .builtin .append, args := #[s, x], argTypes := #[23, 23] })
    (B : Nat) (a0 : Option Addr) (c0 n : Nat) (L : List Int) (hn : L.length = n) (hs : a.eval s = .slice a0 n c0) (hown : RowI w B 2 (.slice a0 n c0) L)
    (g : Nat) (y : Int) (hx : a.eval x = .slice (some ⟨g, 0, none⟩) 1 1) (hc : w.cell? ⟨g, 0, none⟩ = some (.int .i64 y)) (hle : n ≤ 1000000) (hB : B ≤ w.heap.size)
    (h : ∀ g' cap w', RowI w' B 2 (.slice (some ⟨g', 0, none⟩) (n + 1) cap) (L ++ [y]) → w.grownBy w' (Value.slice a0 n c0).ownBlock → K (a.put o.dst (.slice (some ⟨g', 0, none⟩) (n + 1) cap)) w') :
    if Region.wanted o (yielded ops a.tmps) = true then Oper.wp Try.prog o a w K Q else E := by
  subst hn
  have hw : Region.wanted o (yielded ops a.tmps) = true := by simp [Region.wanted, hgd]
  rw [if_pos hw]
  obtain ⟨i0, hi, hz0, hz1, hz2⟩ := info_parts info_int64
  obtain ⟨v', w', hrun, h2, h3, h4, h5⟩ := run_append_own_at (P := Try.prog) w B 23 o.type 2 i0 _ 1 8 Try.underlying23 hi hz0 hz1 hz2 rfl (by omega) _ L.length _ hown ⟨g, 0, none⟩ 1 1 [.int .i64 y] rfl (by
    intro j u hj
    have hj0 : j = 0 := by have := lt_of_get hj; simp at this; exact this
    subst hj0
    simp at hj
    subst hj
    rw [add_at]; exact hc) (by
    intro u hu
    simp at hu
    subst hu
    rfl) (by unfold maxLen; omega) (by omega) hB
  obtain ⟨g', cap, rfl⟩ : ∃ g' cap, v' = .slice (some ⟨g', 0, none⟩) (L.length + 1) cap := by
    rcases h2.2 with ⟨_, h0⟩ | ⟨g', cap, _, hv, _⟩
    · omega
    · exact ⟨g', cap, hv⟩
  unfold Oper.wp execOp
  simp only [ho, resolve, invoke, builtin, Sem.run_bind, Sem.run_pure, Result.andThen_ok, List.map_toArray, List.map_cons, List.map_nil, hs, hx, hrun]
  refine h g' cap w' ?_ h3
  unfold RowI
  rw [List.length_append, List.map_append]
  exact h2
theorem PC.of {w : World} {g : Nat} {p : Prod} (hb : Blk w g 25 p.cells) : PC w g p := by
  have h : ∀ i, w.cell? ⟨g, i, none⟩ = p.cells[i]? := fun i => hb.cell i
  exact ⟨h 0, h 1, h 2, h 3, h 4, h 5, h 6, h 7, h 8, h 9, h 10⟩
def qcs (p : Prod) (sa : Option Addr) (sc k : Nat) : Array Value := #[.string p.code, .slice p.ma p.months.length p.mc, .int .i64 p.tick, .int .i64 (-p.high), .int .i64 (-p.low), .int .i64 p.wide, .int .i64 p.rule, .int .i64 p.top, .int .i64 p.least, .int .i64 p.part, .slice sa k sc]
set_option maxRecDepth 100000 in
set_option maxHeartbeats 16000000 in
theorem lmirror_any (px : Prod) (inst steps : Int) (w : World) (hX : PIn w px) (hi1 : -9223372036854775808 ≤ inst) (hi2 : inst ≤ 9223372036854775807) (hs1 : -9223372036854775808 ≤ steps) (hs2 : steps ≤ 9223372036854775807) :
    Calls Try.prog 7 #[px.agg, .int .i64 inst, .int .i64 steps] w fun e w' => e = .returned (.bool true) ∧ Below w.heap.size w w' := by
  have s1 : ∀ (w : World) (o : Obj), (w.alloc o).heap.size = w.heap.size + 1 := fun w o => by simp
  have hkp := keep_any px (w.alloc (.cells #[.string px.code, .slice px.ma px.months.length px.mc, .int .i64 px.tick, .int .i64 px.low, .int .i64 px.high, .int .i64 px.wide, .int .i64 px.rule, .int .i64 px.top, .int .i64 px.least, .int .i64 px.part, .slice px.sa px.settle.length px.sc] 25)) hX.px
  unfold Prod.agg Prod.cells at hkp ⊢
  have HB0 : Hid (Below w.heap.size w (w.alloc (.cells #[.string px.code, .slice px.ma px.months.length px.mc, .int .i64 px.tick, .int .i64 px.low, .int .i64 px.high, .int .i64 px.wide, .int .i64 px.rule, .int .i64 px.top, .int .i64 px.least, .int .i64 px.part, .slice px.sa px.settle.length px.sc] 25))) := Lib.hid (Below.allocN _ _)
  go_enter Try.func7, Try.ntmps7
  go_wp2_with fail
  refine hkp.mono ?_
  rintro e w1 ⟨k, ma, mc, sa, sc, hok, rfl, hpv, hb1⟩
  have hck := keep_check k hok ma mc sa sc
  have HB1 := Lib.hid (HB0.out.trans (hb1.mono HB0.out.size))
  clear hkp hb1 HB0 hX hok
  generalize k.prod ma mc sa sc = p at *
  clear k ma mc sa sc
  have HCK := Lib.hid hck
  have HPV := Lib.hid hpv
  have hbd := check_band hck
  have hsl := check_slen hck
  have hln := check_len hck
  have HSL := Lib.hid hsl
  have hs6 : p.settle.length ≤ 6 := by omega
  clear hck hpv hsl
  go_upto_region 3 with (fail)
  have hp0 : Blk ((w1.alloc (.cells #[.string p.code, .slice p.ma p.months.length p.mc, .int .i64 p.tick, .int .i64 p.low, .int .i64 p.high, .int .i64 p.wide, .int .i64 p.rule, .int .i64 p.top, .int .i64 p.least, .int .i64 p.part, .slice p.sa p.settle.length p.sc] 25)).alloc (.cells p.cells 25)) w1.heap.size 25 p.cells := (Blk.new w1 25 p.cells).alloc _
  have hq0 : Blk ((w1.alloc (.cells #[.string p.code, .slice p.ma p.months.length p.mc, .int .i64 p.tick, .int .i64 p.low, .int .i64 p.high, .int .i64 p.wide, .int .i64 p.rule, .int .i64 p.top, .int .i64 p.least, .int .i64 p.part, .slice p.sa p.settle.length p.sc] 25)).alloc (.cells p.cells 25)) (w1.heap.size + 1) 25 p.cells := by
    have := Blk.new (w1.alloc (.cells #[.string p.code, .slice p.ma p.months.length p.mc, .int .i64 p.tick, .int .i64 p.low, .int .i64 p.high, .int .i64 p.wide, .int .i64 p.rule, .int .i64 p.top, .int .i64 p.least, .int .i64 p.part, .slice p.sa p.settle.length p.sc] 25)) 25 p.cells
    rw [s1] at this
    exact this
  have hb0 : Below w1.heap.size w1 ((w1.alloc (.cells #[.string p.code, .slice p.ma p.months.length p.mc, .int .i64 p.tick, .int .i64 p.low, .int .i64 p.high, .int .i64 p.wide, .int .i64 p.rule, .int .i64 p.top, .int .i64 p.least, .int .i64 p.part, .slice p.sa p.settle.length p.sc] 25)).alloc (.cells p.cells 25)) := (Below.allocN _ _).alloc (by rw [s1]; omega) _
  unfold Prod.cells at hp0 hq0 hb0
  generalize ((w1.alloc (.cells #[.string p.code, .slice p.ma p.months.length p.mc, .int .i64 p.tick, .int .i64 p.low, .int .i64 p.high, .int .i64 p.wide, .int .i64 p.rule, .int .i64 p.top, .int .i64 p.least, .int .i64 p.part, .slice p.sa p.settle.length p.sc] 25)).alloc (.cells #[.string p.code, .slice p.ma p.months.length p.mc, .int .i64 p.tick, .int .i64 p.low, .int .i64 p.high, .int .i64 p.wide, .int .i64 p.rule, .int .i64 p.top, .int .i64 p.least, .int .i64 p.part, .slice p.sa p.settle.length p.sc] 25)) = wa at *
  have b3 : wa.cell? ⟨w1.heap.size, 3, none⟩ = some (.int .i64 p.low) := by rw [hp0.cell]; rfl
  have b4 : wa.cell? ⟨w1.heap.size, 4, none⟩ = some (.int .i64 p.high) := by rw [hp0.cell]; rfl
  have q3 : wa.cell? ⟨w1.heap.size + 1, 3, none⟩ = some (.int .i64 p.low) := by rw [hq0.cell]; rfl
  have q4 : wa.cell? ⟨w1.heap.size + 1, 4, none⟩ = some (.int .i64 p.high) := by rw [hq0.cell]; rfl
  have f3 : wa.frozen? ⟨w1.heap.size + 1, 3, none⟩ = false := hq0.frozen 3
  have f4 : wa.frozen? ⟨w1.heap.size + 1, 4, none⟩ = false := hq0.frozen 4
  have y1 : IntKind.i64.wrap (-p.high) = -p.high := IntWalk.i64_in _ (by omega)
  have y2 : IntKind.i64.wrap (-p.low) = -p.low := IntWalk.i64_in _ (by omega)
  have HP0 := Lib.hid hp0
  have HQ0 := Lib.hid hq0
  have HBA := Lib.hid hb0
  clear hp0 hq0 hb0
  have bb3 : (wa.setCell ⟨w1.heap.size + 1, 3, none⟩ (.int .i64 (-p.high))).cell? ⟨w1.heap.size, 3, none⟩ = some (.int .i64 p.low) := by rw [(HP0.out.far (p := ⟨w1.heap.size + 1, 3, none⟩) (by show w1.heap.size ≠ w1.heap.size + 1; omega) _).cell]; rfl
  have bb4 : (wa.setCell ⟨w1.heap.size + 1, 3, none⟩ (.int .i64 (-p.high))).cell? ⟨w1.heap.size, 4, none⟩ = some (.int .i64 p.high) := by rw [(HP0.out.far (p := ⟨w1.heap.size + 1, 3, none⟩) (by show w1.heap.size ≠ w1.heap.size + 1; omega) _).cell]; rfl
  have hq1 := HQ0.out.set_ 3 (.int .i64 (-p.high))
  have qq4 : (wa.setCell ⟨w1.heap.size + 1, 3, none⟩ (.int .i64 (-p.high))).cell? ⟨w1.heap.size + 1, 4, none⟩ = some (.int .i64 p.high) := by rw [hq1.cell]; rfl
  have ff4 : (wa.setCell ⟨w1.heap.size + 1, 3, none⟩ (.int .i64 (-p.high))).frozen? ⟨w1.heap.size + 1, 4, none⟩ = false := hq1.frozen 4
  clear hq1
  refine wp_region_E (S := fun w' => w'.cell? ⟨w1.heap.size, 3, none⟩ = some (.int .i64 p.low) ∧ w'.cell? ⟨w1.heap.size, 4, none⟩ = some (.int .i64 p.high)) (by kernel_rfl) ⟨b3, b4⟩ (fun hHeld => ?_)
  refine wpE_take (i := 0) (oi := ?oi1) (v := ?v1) ?hi1 (by kernel_rfl) (by kernel_rfl) (by kernel_rfl) (by kernel_rfl) ?hQ1 ?hy1 (by assumption) ?rest1
  case hi1 => (simp only [List.getElem?_toArray, List.getElem?_cons_zero]; rfl)
  case hQ1 => exact fun _ _ _ h => h
  case hy1 => exact Or.inl ⟨by rfl, by (intro w hSw; (try dsimp only at hSw); go_simp; try with_reducible rfl)⟩
  try simp only [Act.put, List.setIfInBounds_toArray, List.set_cons_zero, List.set_cons_succ]
  refine wpE_take (i := 1) (oi := ?oi2) (v := ?v2) ?hi2 (by kernel_rfl) (by kernel_rfl) (by kernel_rfl) (by kernel_rfl) ?hQ2 ?hy2 (by assumption) ?rest2
  case hi2 => (simp only [List.getElem?_toArray, List.getElem?_cons_succ, List.getElem?_cons_zero]; rfl)
  case hQ2 => exact fun _ _ _ h => h
  case hy2 => exact Or.inl ⟨by rfl, by (intro w hSw; (try dsimp only at hSw); go_simp; try with_reducible rfl)⟩
  try simp only [Act.put, List.setIfInBounds_toArray, List.set_cons_zero, List.set_cons_succ]
  refine wpE_take (i := 2) (oi := ?oi3) (v := ?v3) ?hi3 (by kernel_rfl) (by kernel_rfl) (by kernel_rfl) (by kernel_rfl) ?hQ3 ?hy3 (by assumption) ?rest3
  case hi3 => (simp only [List.getElem?_toArray, List.getElem?_cons_succ, List.getElem?_cons_zero]; rfl)
  case hQ3 => exact fun _ _ _ h => h
  case hy3 => exact Or.inl ⟨by rfl, by (intro w hSw; (try dsimp only at hSw); go_simp; try with_reducible rfl)⟩
  try simp only [Act.put, List.setIfInBounds_toArray, List.set_cons_zero, List.set_cons_succ]
  refine wpE_take (i := 3) (oi := ?oi4) (v := ?v4) ?hi4 (by kernel_rfl) (by kernel_rfl) (by kernel_rfl) (by kernel_rfl) ?hQ4 ?hy4 (by assumption) ?rest4
  case hi4 => (simp only [List.getElem?_toArray, List.getElem?_cons_succ, List.getElem?_cons_zero]; rfl)
  case hQ4 => exact fun _ _ _ h => h
  case hy4 => exact Or.inl ⟨by rfl, by (intro w hSw; (try dsimp only at hSw); go_simp; try with_reducible rfl)⟩
  try simp only [Act.put, List.setIfInBounds_toArray, List.set_cons_zero, List.set_cons_succ]
  refine wpE_take (i := 4) (oi := ?oi5) (v := ?v5) ?hi5 (by kernel_rfl) (by kernel_rfl) (by kernel_rfl) (by kernel_rfl) ?hQ5 ?hy5 (by assumption) ?rest5
  case hi5 => (simp only [List.getElem?_toArray, List.getElem?_cons_succ, List.getElem?_cons_zero]; rfl)
  case hQ5 => exact fun _ _ _ h => h
  case hy5 => exact Or.inl ⟨by rfl, by (intro w hSw; (try dsimp only at hSw); go_simp; try with_reducible rfl)⟩
  try simp only [Act.put, List.setIfInBounds_toArray, List.set_cons_zero, List.set_cons_succ]
  refine wpE_take (i := 5) (oi := ?oi6) (v := ?v6) ?hi6 (by kernel_rfl) (by kernel_rfl) (by kernel_rfl) (by kernel_rfl) ?hQ6 ?hy6 (by assumption) ?rest6
  case hi6 => (simp only [List.getElem?_toArray, List.getElem?_cons_succ, List.getElem?_cons_zero]; rfl)
  case hQ6 => exact fun _ _ _ h => h
  case hy6 => exact Or.inl ⟨by rfl, by (intro w hSw; (try dsimp only at hSw); go_simp; try with_reducible rfl)⟩
  try simp only [Act.put, List.setIfInBounds_toArray, List.set_cons_zero, List.set_cons_succ]
  refine wpE_take (i := 6) (oi := ?oi7) (v := ?v7) ?hi7 (by kernel_rfl) (by kernel_rfl) (by kernel_rfl) (by kernel_rfl) ?hQ7 ?hy7 (by assumption) ?rest7
  case hi7 => (simp only [List.getElem?_toArray, List.getElem?_cons_succ, List.getElem?_cons_zero]; rfl)
  case hQ7 => exact fun _ _ _ h => h
  case hy7 => exact Or.inl ⟨by rfl, by (intro w hSw; (try dsimp only at hSw); go_simp; try with_reducible rfl)⟩
  try simp only [Act.put, List.setIfInBounds_toArray, List.set_cons_zero, List.set_cons_succ]
  refine wpE_one (i := 7) (o := ?o18) ?ho18 (by kernel_rfl) (fun K hK => ?_)
  case ho18 => (simp only [List.getElem?_toArray, List.getElem?_cons_succ, List.getElem?_cons_zero]; rfl)
  go_simp
  refine hK.out _ _ ⟨bb3, bb4⟩ (fun hHeld => ?_)
  clear hK K
  refine wpE_take (i := 8) (oi := ?oi8) (v := ?v8) ?hi8 (by kernel_rfl) (by kernel_rfl) (by kernel_rfl) (by kernel_rfl) ?hQ8 ?hy8 (by assumption) ?rest8
  case hi8 => (simp only [List.getElem?_toArray, List.getElem?_cons_succ, List.getElem?_cons_zero]; rfl)
  case hQ8 => exact fun _ _ _ h => h
  case hy8 => exact Or.inl ⟨by rfl, by (intro w hSw; (try dsimp only at hSw); go_simp; try with_reducible rfl)⟩
  try simp only [Act.put, List.setIfInBounds_toArray, List.set_cons_zero, List.set_cons_succ]
  refine wpE_last (i := 9) (o := ?o21) ?ho21 (by kernel_rfl) (by kernel_rfl) (by kernel_rfl) (fun K hK => ?_)
  case ho21 => (simp only [List.getElem?_toArray, List.getElem?_cons_succ, List.getElem?_cons_zero]; rfl)
  go_simp
  refine hK.out _ _ ?_
  clear hK K
  clear b3 b4 q3 q4 f3 f4 y1 y2 bb3 bb4 qq4 ff4 hHeld
  have hk0 : Keeps (fun g => g = w1.heap.size + 1) wa ((wa.setCell ⟨w1.heap.size + 1, 3, none⟩ (.int .i64 (-p.high))).setCell ⟨w1.heap.size + 1, 4, none⟩ (.int .i64 (-p.low))).drew :=
    (((Keeps.refl (fun g => g = w1.heap.size + 1) wa).setCell (p := ⟨w1.heap.size + 1, 3, none⟩) (fun _ => rfl) _).setCell (p := ⟨w1.heap.size + 1, 4, none⟩) (fun _ => rfl) _).drew
  have hq2 : Blk ((wa.setCell ⟨w1.heap.size + 1, 3, none⟩ (.int .i64 (-p.high))).setCell ⟨w1.heap.size + 1, 4, none⟩ (.int .i64 (-p.low))).drew (w1.heap.size + 1) 25 (qcs p p.sa p.sc p.settle.length) := (HQ0.out.set_ 3 (.int .i64 (-p.high))).set_ 4 (.int .i64 (-p.low))
  have hp2 := HP0.out.keeps hk0 (by show ¬ w1.heap.size = w1.heap.size + 1; omega)
  have hb2 : Below w1.heap.size w1 ((wa.setCell ⟨w1.heap.size + 1, 3, none⟩ (.int .i64 (-p.high))).setCell ⟨w1.heap.size + 1, 4, none⟩ (.int .i64 (-p.low))).drew := HBA.out.trans (hk0.below (fun g hg => by have hg' : g = w1.heap.size + 1 := hg; omega) HBA.out.size)
  clear hk0 HP0 HQ0 HBA
  generalize ((wa.setCell ⟨w1.heap.size + 1, 3, none⟩ (.int .i64 (-p.high))).setCell ⟨w1.heap.size + 1, 4, none⟩ (.int .i64 (-p.low))).drew = wb at *
  have q10 : wb.cell? ⟨w1.heap.size + 1, 10, none⟩ = some (.slice p.sa p.settle.length p.sc) := by rw [hq2.cell]; rfl
  have f10 : wb.frozen? ⟨w1.heap.size + 1, 10, none⟩ = false := hq2.frozen 10
  have hk3 : Keeps (fun g => g = w1.heap.size + 1) wb (wb.setCell ⟨w1.heap.size + 1, 10, none⟩ (.slice none 0 0)) := (Keeps.refl (fun g => g = w1.heap.size + 1) wb).setCell (p := ⟨w1.heap.size + 1, 10, none⟩) (fun _ => rfl) _
  have HQ3 : Hid (Blk (wb.setCell ⟨w1.heap.size + 1, 10, none⟩ (.slice none 0 0)) (w1.heap.size + 1) 25 (qcs p none 0 0)) := Lib.hid (hq2.set_ 10 (.slice none 0 0))
  have HP3 := Lib.hid (hp2.keeps hk3 (by show ¬ w1.heap.size = w1.heap.size + 1; omega))
  have HB3 := Lib.hid (hb2.trans (hk3.below (fun g hg => by have hg' : g = w1.heap.size + 1 := hg; omega) hb2.size))
  clear hq2 hp2 hb2 hk3
  go_wp2_with fail
  clear q10 f10
  generalize wb.setCell ⟨w1.heap.size + 1, 10, none⟩ (.slice none 0 0) = wc0 at *
  go_loopw [9] (fun i w' => ∃ k : Nat, i = .int .i64 k ∧ k ≤ p.settle.length ∧ ∃ sa sc, Blk w' w1.heap.size 25 #[.string p.code, .slice p.ma p.months.length p.mc, .int .i64 p.tick, .int .i64 p.low, .int .i64 p.high, .int .i64 p.wide, .int .i64 p.rule, .int .i64 p.top, .int .i64 p.least, .int .i64 p.part, .slice p.sa p.settle.length p.sc] ∧ Blk w' (w1.heap.size + 1) 25 (qcs p sa sc k) ∧ RowI w' w1.heap.size 2 (.slice sa k sc) ((p.settle.take k).map (fun x => -x)) ∧ Below w1.heap.size w1 w') (fun i _ => p.settle.length - (intOf i).toNat)
  case atStart => exact ⟨0, rfl, Nat.zero_le _, none, 0, HP3.out, HQ3.out, World.ownsRow_nil _ _ _ _, HB3.out⟩
  case round =>
    clear HP3 HQ3 HB3
    obtain ⟨k, rfl, hk, sa, sc, hP, hQ, hS, hB⟩ := hrel
    obtain ⟨wo, rfl⟩ : ∃ wo : World, wo = wr := ⟨_, rfl⟩
    have HP := Lib.hid hP
    have HQ := Lib.hid hQ
    have HS := Lib.hid hS
    have HB := Lib.hid hB
    clear hP hQ hS hB
    by_cases hkn : k < p.settle.length
    · have hkn' : (k : Int) < (p.settle.length : Int) := by omega
      obtain ⟨x, hx⟩ : ∃ x, p.settle[k]? = some x := ⟨_, List.getElem?_eq_getElem hkn⟩
      have hxb := check_settle HCK.out hx
      have hpv := HPV.out.set_
      obtain ⟨_, b, off, hsa, hbl, c0⟩ := hpv k x hx
      have c0o : wo.cell? ⟨b, off + k, none⟩ = some (.int .i64 x) := (HB.out.cell (p := ⟨b, off + k, none⟩) hbl).trans c0
      have b10 : wo.cell? ⟨w1.heap.size, 10, none⟩ = some (.slice (some ⟨b, off, none⟩) p.settle.length p.sc) := by rw [HP.out.cell, ← hsa]; rfl
      have q10 : wo.cell? ⟨w1.heap.size + 1, 10, none⟩ = some (.slice sa k sc) := by rw [HQ.out.cell]; rfl
      have HTK : Hid ((p.settle.take (k + 1)).map (fun x => -x) = (p.settle.take k).map (fun x => -x) ++ [-x]) := Lib.hid (by
        rw [List.take_succ_eq_append_getElem hkn, List.map_append]
        obtain ⟨_, h⟩ := get_of hx
        rw [h]; rfl)
      have HLK : Hid (((p.settle.take k).map (fun x => -x)).length = k) := Lib.hid (by rw [List.length_map, List.length_take]; omega)
      have HSA := Lib.hid hsa
      have y1 : IntKind.i64.wrap (-x) = -x := IntWalk.i64_in _ (by omega)
      have hlt7 := HP.out.lt
      have hlt8 := HQ.out.lt
      clear hx hpv hsa c0
      have b10p : (wo.alloc (.cells #[.int .i64 (-x)] 2)).drew.cell? ⟨w1.heap.size, 10, none⟩ = some (.slice (some ⟨b, off, none⟩) p.settle.length p.sc) := ((Below.allocN wo (.cells #[.int .i64 (-x)] 2)).cell (p := ⟨w1.heap.size, 10, none⟩) hlt7).trans b10
      have q10p : (wo.alloc (.cells #[.int .i64 (-x)] 2)).drew.cell? ⟨w1.heap.size + 1, 10, none⟩ = some (.slice sa k sc) := ((Below.allocN wo (.cells #[.int .i64 (-x)] 2)).cell (p := ⟨w1.heap.size + 1, 10, none⟩) hlt8).trans q10
      have c0p : (wo.alloc (.cells #[.int .i64 (-x)] 2)).drew.cell? ⟨b, off + k, none⟩ = some (.int .i64 x) := ((Below.allocN wo (.cells #[.int .i64 (-x)] 2)).cell (p := ⟨b, off + k, none⟩) (by have := HB.out.size; show b < _; omega)).trans c0o
      go_wp2_with fail
      refine wp_region_E (S := fun w' => w'.cell? ⟨w1.heap.size, 10, none⟩ = some (.slice (some ⟨b, off, none⟩) p.settle.length p.sc) ∧ w'.cell? ⟨w1.heap.size + 1, 10, none⟩ = some (.slice sa k sc) ∧ w'.cell? ⟨b, off + k, none⟩ = some (.int .i64 x)) (by kernel_rfl) ⟨b10, q10, c0o⟩ (fun hHeld => ?_)
      refine wpE_take (i := 0) (oi := ?oi9) (v := ?v9) ?hi9 (by kernel_rfl) (by kernel_rfl) (by kernel_rfl) (by kernel_rfl) ?hQ9 ?hy9 (by assumption) ?rest9
      case hi9 => (simp only [List.getElem?_toArray, List.getElem?_cons_zero]; rfl)
      case hQ9 => exact fun _ _ _ h => h
      case hy9 => exact Or.inl ⟨by rfl, by (intro w hSw; (try dsimp only at hSw); go_simp; try with_reducible rfl)⟩
      try simp only [Act.put, List.setIfInBounds_toArray, List.set_cons_zero, List.set_cons_succ]
      refine wpE_take (i := 1) (oi := ?oi10) (v := ?v10) ?hi10 (by kernel_rfl) (by kernel_rfl) (by kernel_rfl) (by kernel_rfl) ?hQ10 ?hy10 (by assumption) ?rest10
      case hi10 => (simp only [List.getElem?_toArray, List.getElem?_cons_succ, List.getElem?_cons_zero]; rfl)
      case hQ10 => exact fun _ _ _ h => h
      case hy10 => exact Or.inl ⟨by rfl, by (intro w hSw; (try dsimp only at hSw); go_simp; try with_reducible rfl)⟩
      try simp only [Act.put, List.setIfInBounds_toArray, List.set_cons_zero, List.set_cons_succ]
      refine wpE_take (i := 2) (oi := ?oi11) (v := ?v11) ?hi11 (by kernel_rfl) (by kernel_rfl) (by kernel_rfl) (by kernel_rfl) ?hQ11 ?hy11 (by assumption) ?rest11
      case hi11 => (simp only [List.getElem?_toArray, List.getElem?_cons_succ, List.getElem?_cons_zero]; rfl)
      case hQ11 => exact fun _ _ _ h => h
      case hy11 => exact Or.inl ⟨by rfl, by (intro w hSw; (try dsimp only at hSw); go_simp; try with_reducible rfl)⟩
      try simp only [Act.put, List.setIfInBounds_toArray, List.set_cons_zero, List.set_cons_succ]
      refine wpE_take (i := 3) (oi := ?oi12) (v := ?v12) ?hi12 (by kernel_rfl) (by kernel_rfl) (by kernel_rfl) (by kernel_rfl) ?hQ12 ?hy12 (by assumption) ?rest12
      case hi12 => (simp only [List.getElem?_toArray, List.getElem?_cons_succ, List.getElem?_cons_zero]; rfl)
      case hQ12 => exact fun _ _ _ h => h
      case hy12 => exact Or.inl ⟨by rfl, by (intro w hSw; (try dsimp only at hSw); go_simp; try with_reducible rfl)⟩
      try simp only [Act.put, List.setIfInBounds_toArray, List.set_cons_zero, List.set_cons_succ]
      refine wpE_take (i := 4) (oi := ?oi13) (v := ?v13) ?hi13 (by kernel_rfl) (by kernel_rfl) (by kernel_rfl) (by kernel_rfl) ?hQ13 ?hy13 (by assumption) ?rest13
      case hi13 => (simp only [List.getElem?_toArray, List.getElem?_cons_succ, List.getElem?_cons_zero]; rfl)
      case hQ13 => exact fun _ _ _ h => h
      case hy13 => exact Or.inl ⟨by rfl, by (intro w hSw; (try dsimp only at hSw); go_simp; try with_reducible rfl)⟩
      try simp only [Act.put, List.setIfInBounds_toArray, List.set_cons_zero, List.set_cons_succ]
      refine wpE_take (i := 5) (oi := ?oi14) (v := ?v14) ?hi14 (by kernel_rfl) (by kernel_rfl) (by kernel_rfl) (by kernel_rfl) ?hQ14 ?hy14 (by assumption) ?rest14
      case hi14 => (simp only [List.getElem?_toArray, List.getElem?_cons_succ, List.getElem?_cons_zero]; rfl)
      case hQ14 => exact fun _ _ _ h => h
      case hy14 => exact Or.inl ⟨by rfl, by (intro w hSw; (try dsimp only at hSw); go_simp; try with_reducible rfl)⟩
      try simp only [Act.put, List.setIfInBounds_toArray, List.set_cons_zero, List.set_cons_succ]
      refine wpE_take (i := 6) (oi := ?oi15) (v := ?v15) ?hi15 (by kernel_rfl) (by kernel_rfl) (by kernel_rfl) (by kernel_rfl) ?hQ15 ?hy15 (by assumption) ?rest15
      case hi15 => (simp only [List.getElem?_toArray, List.getElem?_cons_succ, List.getElem?_cons_zero]; rfl)
      case hQ15 => exact fun _ _ _ h => h
      case hy15 => exact Or.inl ⟨by rfl, by (intro w hSw; (try dsimp only at hSw); go_simp; try with_reducible rfl)⟩
      try simp only [Act.put, List.setIfInBounds_toArray, List.set_cons_zero, List.set_cons_succ]
      refine wpE_take (i := 7) (oi := ?oi16) (v := ?v16) ?hi16 (by kernel_rfl) (by kernel_rfl) (by kernel_rfl) (by kernel_rfl) ?hQ16 ?hy16 (by assumption) ?rest16
      case hi16 => (simp only [List.getElem?_toArray, List.getElem?_cons_succ, List.getElem?_cons_zero]; rfl)
      case hQ16 => exact fun _ _ _ h => h
      case hy16 => exact Or.inl ⟨by rfl, by (intro w hSw; (try dsimp only at hSw); go_simp; try with_reducible rfl)⟩
      try simp only [Act.put, List.setIfInBounds_toArray, List.set_cons_zero, List.set_cons_succ]
      refine wpE_one (i := 8) (o := ?o19) ?ho19 (by kernel_rfl) (fun K hK => ?_)
      case ho19 => (simp only [List.getElem?_toArray, List.getElem?_cons_succ, List.getElem?_cons_zero]; rfl)
      go_simp
      refine hK.out _ _ ⟨b10p, q10p, c0p⟩ (fun hHeld => ?_)
      clear hK K
      refine wpE_one (i := 9) (o := ?o20) ?ho20 (by kernel_rfl) (fun K hK => ?_)
      case ho20 => (simp only [List.getElem?_toArray, List.getElem?_cons_succ, List.getElem?_cons_zero]; rfl)
      refine step_push_int64 (by rfl) (.tmp 42) (.tmp 49) (by rfl) w1.heap.size sa sc k ((p.settle.take k).map (fun x => -x)) HLK.out (by rfl) (own_below (own_below HS.out (Below.allocN wo (.cells #[.int .i64 (-x)] 2))) (Below.drewN_of _ 1)) wo.heap.size (-x) (by rfl) (by rw [((Blk.new wo 2 #[.int .i64 (-x)]).drew).cell]; rfl) (by omega) (by have := HB.out.size; rw [show (wo.alloc (.cells #[.int .i64 (-x)] 2)).drew.heap.size = wo.heap.size + 1 from s1 _ _]; omega) ?_
      intro g1 cap1 w5 hr5 hg5
      have hg5' : (wo.alloc (.cells #[.int .i64 (-x)] 2)).grownBy w5 (Value.slice sa k sc).ownBlock := ⟨hg5.os, hg5.tape, hg5.output, hg5.size, hg5.block⟩
      have hp5 := grow_blk HS.out hg5' HP.out (by decide)
      have hq5 := grow_blk HS.out hg5' HQ.out (by decide)
      have hb5 := grow_below HS.out hg5' HB.out
      have b105 : w5.cell? ⟨w1.heap.size, 10, none⟩ = some (.slice (some ⟨b, off, none⟩) p.settle.length p.sc) := by rw [hp5.cell, ← HSA.out]; rfl
      have q105 : w5.cell? ⟨w1.heap.size + 1, 10, none⟩ = some (.slice sa k sc) := by rw [hq5.cell]; rfl
      have f105 : w5.frozen? ⟨w1.heap.size + 1, 10, none⟩ = false := hq5.frozen 10
      have c05 : w5.cell? ⟨b, off + k, none⟩ = some (.int .i64 x) := by
        obtain ⟨_, b', off', hsa', hbl', c0'⟩ := HPV.out.set_.below (Below.refl _ _) k x (by
          have h := HTK.out
          rw [List.getElem?_eq_getElem hkn]
          congr 1
          have h1 := congrArg (fun l : List Int => l[k]?) h
          simp only [List.getElem?_map] at h1
          rw [List.getElem?_append_right (by rw [HLK.out]; exact Nat.le_refl _), HLK.out, Nat.sub_self, List.getElem?_take_of_lt (by omega), List.getElem?_eq_getElem hkn] at h1
          simp at h1
          omega)
        obtain ⟨rfl, rfl⟩ : b = b' ∧ off = off' := by rw [HSA.out] at hsa'; injection hsa' with h; injection h with h1 h2; exact ⟨h1, h2⟩
        exact (hb5.cell (p := ⟨b, off + k, none⟩) hbl').trans c0'
      rw [← HTK.out] at hr5
      have HR5 := Lib.hid hr5
      have HP5 := Lib.hid hp5
      have HQ5 := Lib.hid hq5
      have HB5 := Lib.hid hb5
      clear hr5 hg5 hg5' hp5 hq5 hb5
      refine hK.out _ _ ⟨b105, q105, c05⟩ (fun hHeld => ?_)
      clear hK K
      refine wpE_take (i := 10) (oi := ?oi17) (v := ?v17) ?hi17 (by kernel_rfl) (by kernel_rfl) (by kernel_rfl) (by kernel_rfl) ?hQ17 ?hy17 (by assumption) ?rest17
      case hi17 => (simp only [List.getElem?_toArray, List.getElem?_cons_succ, List.getElem?_cons_zero]; rfl)
      case hQ17 => exact fun _ _ _ h => h
      case hy17 => exact Or.inl ⟨by rfl, by (intro w hSw; (try dsimp only at hSw); go_simp; try with_reducible rfl)⟩
      try simp only [Act.put, List.setIfInBounds_toArray, List.set_cons_zero, List.set_cons_succ]
      refine wpE_last (i := 11) (o := ?o22) ?ho22 (by kernel_rfl) (by kernel_rfl) (by kernel_rfl) (fun K hK => ?_)
      case ho22 => (simp only [List.getElem?_toArray, List.getElem?_cons_succ, List.getElem?_cons_zero]; rfl)
      go_simp
      refine hK.out _ _ ?_
      clear hK K hHeld b10 q10 c0o b10p q10p c0p b105 q105 f105 c05
      have hk6 : Keeps (fun g => g = w1.heap.size + 1) w5 (w5.setCell ⟨w1.heap.size + 1, 10, none⟩ (.slice (some ⟨g1, 0, none⟩) (k + 1) cap1)) := (Keeps.refl (fun g => g = w1.heap.size + 1) w5).setCell (p := ⟨w1.heap.size + 1, 10, none⟩) (fun _ => rfl) _
      have HQ6 : Hid (Blk (w5.setCell ⟨w1.heap.size + 1, 10, none⟩ (.slice (some ⟨g1, 0, none⟩) (k + 1) cap1)) (w1.heap.size + 1) 25 (qcs p (some ⟨g1, 0, none⟩) cap1 (k + 1))) := Lib.hid (HQ5.out.set_ 10 (.slice (some ⟨g1, 0, none⟩) (k + 1) cap1))
      have HP6 := Lib.hid (HP5.out.keeps hk6 (by show ¬ w1.heap.size = w1.heap.size + 1; omega))
      have HB6 := Lib.hid (HB5.out.trans (hk6.below (fun g hg => by have hg' : g = w1.heap.size + 1 := hg; omega) HB5.out.size))
      have HR6 : Hid (RowI (w5.setCell ⟨w1.heap.size + 1, 10, none⟩ (.slice (some ⟨g1, 0, none⟩) (k + 1) cap1)) w1.heap.size 2 (.slice (some ⟨g1, 0, none⟩) (k + 1) cap1) ((p.settle.take (k + 1)).map (fun x => -x))) := Lib.hid (store_own HR5.out HQ5.out (by decide) 10 _)
      clear hk6 HQ5 HP5 HB5 HR5
      go_wp2_with fail
      go_roundw
      case rel => exact ⟨k + 1, by go_num, by omega, _, _, HP6.out, HQ6.out, HR6.out, HB6.out⟩
      case measure => simp [intOf]; omega
    · obtain rfl : k = p.settle.length := by omega
      have hnn : ¬ (p.settle.length : Int) < (p.settle.length : Int) := by omega
      obtain ⟨wl, rfl⟩ : ∃ wl : World, wl = wo := ⟨_, rfl⟩
      have HLZ0 : Hid (w1.heap.size + 1 < wl.heap.size) := Lib.hid HQ.out.lt
      have HPC0 : Hid (PC wl w1.heap.size p) := Lib.hid (PC.of HP.out)
      have hqb : Blk wl (w1.heap.size + 1) 25 (p.turn sa sc).cells := by
        have h := HQ.out
        unfold Prod.turn Prod.cells
        simp only [List.length_map]
        exact h
      have HQC0 : Hid (PC wl (w1.heap.size + 1) (p.turn sa sc)) := Lib.hid (PC.of hqb)
      have HPV0 : Hid (PV wl p) := Lib.hid (HPV.out.below HB.out)
      have HQV0 : Hid (PV wl (p.turn sa sc)) := Lib.hid ⟨HPV0.out.code, HPV0.out.mon, (by
          have h := HS.out
          rw [List.take_length] at h
          exact h.ints fun x hx => by
            rw [List.mem_map] at hx
            obtain ⟨y, hy, rfl⟩ := hx
            obtain ⟨j, hj, rfl⟩ := List.getElem_of_mem hy
            have := check_settle HCK.out (List.getElem?_eq_getElem hj)
            unfold i64ok
            omega), HPV0.out.mlen, (by show (p.settle.map (fun x => -x)).length ≤ _; rw [List.length_map]; omega), HPV0.out.tick, (by show i64ok (-p.high); unfold i64ok; omega), (by show i64ok (-p.low); unfold i64ok; omega), HPV0.out.wide⟩
      have HB0' : Hid (Below w.heap.size w wl) := Lib.hid (HB1.out.trans (HB.out.mono HB1.out.size))
      have HB0 := HB0'
      clear HB0' hqb HP HQ HS HB HB1 HPV
      obtain ⟨b0, b1, b2, b3, b4, b5, b6, b7, b8, b9, b10⟩ := HPC0.out
      go_upto_region 10 with (fail)
      have hlen := check_len HCK.out
      have hwb := withI_bd inst 0 ((countN p.months.length : Int) - p.months.length - 1) (by have := countN_room p.months.length hlen.2 hlen.1; omega)
      obtain ⟨s, hs⟩ : ∃ s : Int, (p.months.length : Int) + withI inst 0 ((countN p.months.length : Int) - p.months.length - 1) = s := ⟨_, rfl⟩
      have HS := Lib.hid hs
      have hsb : (p.months.length : Int) ≤ s ∧ s < countN p.months.length := by omega
      clear hs hwb
      go_cut [10, 11] (fun u v wx => u = .int .i64 p.months.length ∧ v = .int .i64 s ∧ wl = wx)
      case first =>
        have hn : p.months.length = 2 ∨ p.months.length = 3 ∨ p.months.length = 4 ∨ p.months.length = 5 ∨ p.months.length = 6 := by omega
        clear hsb hlen
        rcases hn with hn | hn | hn | hn | hn
        · have hss : 2 + withI inst 0 0 = s := by have := HS.out; rw [hn] at this; exact this
          have hx : IntKind.i64.wrap (2 + withI inst 0 0) = s := by rw [hss]; exact IntWalk.i64_in _ (by have := withI_bd inst 0 0 (by omega); omega)
          have HSS := Lib.hid hss
          clear hss
          go_wp2_with (go_at_call 13; refine (within_any inst 0 0 _ hi1 hi2 (by omega) (by omega) (by omega)).mono ?_; rintro e w5 ⟨rfl, rfl⟩)
          go_meet
          exact ⟨by first | rfl | (rw [hn]; rfl), rfl, rfl⟩
        · have hss : 3 + withI inst 0 2 = s := by have := HS.out; rw [hn] at this; exact this
          have hx : IntKind.i64.wrap (3 + withI inst 0 2) = s := by rw [hss]; exact IntWalk.i64_in _ (by have := withI_bd inst 0 2 (by omega); omega)
          have HSS := Lib.hid hss
          clear hss
          go_wp2_with (go_at_call 13; refine (within_any inst 0 2 _ hi1 hi2 (by omega) (by omega) (by omega)).mono ?_; rintro e w5 ⟨rfl, rfl⟩)
          go_meet
          exact ⟨by first | rfl | (rw [hn]; rfl), rfl, rfl⟩
        · have hss : 4 + withI inst 0 5 = s := by have := HS.out; rw [hn] at this; exact this
          have hx : IntKind.i64.wrap (4 + withI inst 0 5) = s := by rw [hss]; exact IntWalk.i64_in _ (by have := withI_bd inst 0 5 (by omega); omega)
          have HSS := Lib.hid hss
          clear hss
          go_wp2_with (go_at_call 13; refine (within_any inst 0 5 _ hi1 hi2 (by omega) (by omega) (by omega)).mono ?_; rintro e w5 ⟨rfl, rfl⟩)
          go_meet
          exact ⟨by first | rfl | (rw [hn]; rfl), rfl, rfl⟩
        · have hss : 5 + withI inst 0 9 = s := by have := HS.out; rw [hn] at this; exact this
          have hx : IntKind.i64.wrap (5 + withI inst 0 9) = s := by rw [hss]; exact IntWalk.i64_in _ (by have := withI_bd inst 0 9 (by omega); omega)
          have HSS := Lib.hid hss
          clear hss
          go_wp2_with (go_at_call 13; refine (within_any inst 0 9 _ hi1 hi2 (by omega) (by omega) (by omega)).mono ?_; rintro e w5 ⟨rfl, rfl⟩)
          go_meet
          exact ⟨by first | rfl | (rw [hn]; rfl), rfl, rfl⟩
        · have hss : 6 + withI inst 0 14 = s := by have := HS.out; rw [hn] at this; exact this
          have hx : IntKind.i64.wrap (6 + withI inst 0 14) = s := by rw [hss]; exact IntWalk.i64_in _ (by have := withI_bd inst 0 14 (by omega); omega)
          have HSS := Lib.hid hss
          clear hss
          go_wp2_with (go_at_call 13; refine (within_any inst 0 14 _ hi1 hi2 (by omega) (by omega) (by omega)).mono ?_; rintro e w5 ⟨rfl, rfl⟩)
          go_meet
          exact ⟨by first | rfl | (rw [hn]; rfl), rfl, rfl⟩
      case rest =>
      obtain ⟨rfl, rfl, rfl⟩ := hcut
      have hcs : (p.months.length : Int) ≤ s ∧ s < countP p := by rw [countP_some HCK.out]; exact hsb
      obtain ⟨d, hwd, hdiv, hdb⟩ := wide_div HCK.out
      have htk := check_tick HCK.out
      have hgb := withI_bd steps 0 (2 * (d : Int)) (by omega)
      obtain ⟨g, hg⟩ : ∃ g : Int, withI steps 0 (2 * (d : Int)) = g := ⟨_, rfl⟩
      rw [hg] at hgb
      obtain ⟨kk, hkk⟩ : ∃ kk : Int, p.tick * (g - (d : Int)) = kk := ⟨_, rfl⟩
      have hkm := mul_bd htk.1 (i := g - (d : Int)) (a := -(d : Int)) (b := d) (by omega) (by omega)
      have hkb : -p.wide ≤ kk ∧ kk ≤ p.wide := by rw [Int.mul_neg] at hkm; omega
      have hkd : p.tick ∣ kk := ⟨_, hkk.symm⟩
      obtain ⟨a, b, hpa, hpb, ha1, ha2, hb1, hb2⟩ := mirror HCK.out sa sc hcs.1 hcs.2 hkd hkb
      have HWI := Lib.hid fun w => within_any steps 0 (2 * (d : Int)) w hs1 hs2 (by omega) (by omega) (by omega)
      rw [hg] at HWI
      have HDIV := Lib.hid hdiv
      have HPA := Lib.hid fun wz (h : PV wz p) => prices_any p s kk wz h
      rw [hpa] at HPA
      have HPB := Lib.hid fun wz (h : PV wz (p.turn sa sc)) => prices_any (p.turn sa sc) s (-kk) wz h
      rw [hpb] at HPB
      have HUP : Hid (kk + p.tick ≤ p.wide → ∃ g k, pricesP p s (kk + p.tick) = (g, k, 0) ∧ (g = a + p.tick ∧ k = b ∨ g = a ∧ k = b - p.tick) ∧ -1000000 ≤ g ∧ g ≤ 1000000 ∧ -1000000 ≤ k ∧ k ≤ 1000000) := Lib.hid fun h => step_up HCK.out hcs.1 hcs.2 hkd ⟨hkb.1, h⟩ hpa
      have HPP := Lib.hid fun wz (h : PV wz p) => prices_any p s (kk + p.tick) wz h
      have HKK := Lib.hid hkk
      unfold Prod.agg Prod.cells at HPA HPB HPP
      clear hpa hpb hkk hkd hkm hwd hdiv hg hcs hsb hlen
      have hz1 : (p.tick == 0) = false := by rw [beq_eq_false_iff_ne]; omega
      have hz2 : (p.tick == -1) = false := by rw [beq_eq_false_iff_ne]; omega
      have hdv : p.wide.tdiv p.tick = (d : Int) := HDIV.out
      have y1 : IntKind.i64.wrap (2 * (d : Int)) = 2 * (d : Int) := IntWalk.i64_in _ (by omega)
      have y2 : IntKind.i64.wrap (g - (d : Int)) = g - (d : Int) := IntWalk.i64_in _ (by omega)
      have y3 : IntKind.i64.wrap (p.tick * (g - (d : Int))) = kk := by rw [HKK.out]; exact IntWalk.i64_in _ (by omega)
      have y4 : IntKind.i64.wrap (d : Int) = (d : Int) := IntWalk.i64_in _ (by omega)
      go_upto_region 11 with (fail)
      have HWQ : Hid (∀ n, Calls Try.prog 13 #[.int .i64 steps, .int .i64 0, .int .i64 (2 * (d : Int))] (wl.drewN n) fun e w' => e = .returned (.int .i64 g) ∧ w' = wl.drewN n) := Lib.hid fun n => (HWI.out _).mono fun e w' h => ⟨h.1, h.2.symm⟩
      go_quiet ((go_at_call 13; exact Calls.quiet_of_same (HWQ.out _)))
      have hd3 := Below.drewN_of wl nq
      have HB2 := Lib.hid (HB0.out.trans (hd3.mono HB0.out.size))
      have HPC2 := Lib.hid (HPC0.out.below hd3 (by have := HLZ0.out; omega))
      have HQC2 := Lib.hid (HQC0.out.below hd3 HLZ0.out)
      have HPV2 := Lib.hid (HPV0.out.below hd3)
      have HQV2 := Lib.hid (HQV0.out.below hd3)
      have HLZ2 : Hid (w1.heap.size + 1 < (wl.drewN nq).heap.size) := Lib.hid HLZ0.out
      clear b0 b1 b2 b3 b4 b5 b6 b7 b8 b9 b10 hd3 hdv y1 y2 y3 y4 HPC0 HPV0 HLZ0 HB0 HQC0 HQV0 HWQ hz1 hz2
      generalize wl.drewN nq = w2 at *
      obtain ⟨b0, b1, b2, b3, b4, b5, b6, b7, b8, b9, b10⟩ := HPC2.out
      go_wp2_with fail
      refine (HPA.out _ HPV2.out).mono ?_
      rintro e w3 ⟨rfl, hb3⟩
      have HB3 := Lib.hid (HB2.out.trans (hb3.mono HB2.out.size))
      have HPC3 := Lib.hid (HPC2.out.below hb3 (by have := HLZ2.out; omega))
      have HQC3 := Lib.hid (HQC2.out.below hb3 HLZ2.out)
      have HPV3 := Lib.hid (HPV2.out.below hb3)
      have HQV3 := Lib.hid (HQV2.out.below hb3)
      have HLZ3 : Hid (w1.heap.size + 1 < w3.heap.size) := Lib.hid (Nat.lt_of_lt_of_le HLZ2.out hb3.size)
      clear b0 b1 b2 b3 b4 b5 b6 b7 b8 b9 b10 hb3 HPC2 HPV2 HLZ2 HB2 HQC2 HQV2
      obtain ⟨b0, b1, b2, b3, b4, b5, b6, b7, b8, b9, b10⟩ := HPC3.out
      have y5 : IntKind.i64.wrap (-kk) = -kk := IntWalk.i64_in _ (by omega)
      obtain ⟨q0, q1, q2, q3, q4, q5, q6, q7, q8, q9, q10⟩ := HQC3.out
      have hpq := HPB.out _ HQV3.out
      simp only [Prod.turn, List.length_map] at q0 q1 q2 q3 q4 q5 q6 q7 q8 q9 q10 hpq
      clear b0 b1 b2 b3 b4 b5 b6 b7 b8 b9 b10
      go_wp2_with fail
      refine hpq.mono ?_
      rintro e w4 ⟨rfl, hb4⟩
      have HB4 := Lib.hid (HB3.out.trans (hb4.mono HB3.out.size))
      have HPC4 := Lib.hid (HPC3.out.below hb4 (by have := HLZ3.out; omega))
      have HPV4 := Lib.hid (HPV3.out.below hb4)
      clear q0 q1 q2 q3 q4 q5 q6 q7 q8 q9 q10 hb4 hpq HPC3 HPV3 HLZ3 HB3 HQC3 HQV3 y5
      obtain ⟨b0, b1, b2, b3, b4, b5, b6, b7, b8, b9, b10⟩ := HPC4.out
      have y6 : IntKind.i64.wrap (- -a) = a := by rw [Int.neg_neg]; exact IntWalk.i64_in _ (by omega)
      have y7 : IntKind.i64.wrap (- -b) = b := by rw [Int.neg_neg]; exact IntWalk.i64_in _ (by omega)
      have y6' : IntKind.i64.wrap a = a := IntWalk.i64_in _ (by omega)
      have y7' : IntKind.i64.wrap b = b := IntWalk.i64_in _ (by omega)
      have y8 : IntKind.i64.wrap (kk + p.tick) = kk + p.tick := IntWalk.i64_in _ (by omega)
      by_cases hup : p.wide < kk + p.tick
      · go_wp2_with fail
        refine (known15_any _).mono ?_
        rintro e w9 ⟨rfl, hb10⟩
        go_wp2_with fail
        go_ret
        exact ⟨by trivial, HB4.out.trans (hb10.mono HB4.out.size)⟩
      · obtain ⟨gg, hh, hpp, hor, hg1, hg2, hh1, hh2⟩ := HUP.out (by omega)
        have hp3 := HPP.out _ HPV4.out
        rw [hpp] at hp3
        clear hpp
        go_wp2_with fail
        refine hp3.mono ?_
        rintro e w5 ⟨rfl, hb5⟩
        have HB5 := Lib.hid (HB4.out.trans (hb5.mono HB4.out.size))
        have HPC5 := Lib.hid (HPC4.out.below hb5 (by have := HPV4; have h := HPC4.out.1; exact World.block_lt_of_cell? _ _ h))
        clear b0 b1 b2 b3 b4 b5 b6 b7 b8 b9 b10 hb5 hp3 HPC4 HPV4 y6 y7 y6' y7' y8
        obtain ⟨b0, b1, b2, b3, b4, b5, b6, b7, b8, b9, b10⟩ := HPC5.out
        have y9 : IntKind.i64.wrap (a + p.tick) = a + p.tick := IntWalk.i64_in _ (by omega)
        have y10 : IntKind.i64.wrap (b - p.tick) = b - p.tick := IntWalk.i64_in _ (by omega)
        rcases hor with ⟨rfl, rfl⟩ | ⟨rfl, rfl⟩
        · go_wp2_with fail
          refine (known15_any _).mono ?_
          rintro e w9 ⟨rfl, hb10⟩
          go_wp2_with fail
          go_ret
          exact ⟨by trivial, HB5.out.trans (hb10.mono HB5.out.size)⟩
        · have e1 : (gg == gg + p.tick) = false := by rw [beq_eq_false_iff_ne]; omega
          go_wp2_with fail
          refine (known15_any _).mono ?_
          rintro e w9 ⟨rfl, hb10⟩
          go_wp2_with fail
          go_ret
          exact ⟨by trivial, HB5.out.trans (hb10.mono HB5.out.size)⟩
end Go.Proofs.Ytjjddlfbadahhaa
