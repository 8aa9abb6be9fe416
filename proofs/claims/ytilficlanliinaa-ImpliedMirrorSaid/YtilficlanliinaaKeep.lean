/- The walk of cornhillkeep.Product. -/
import Derived.Test.YtilficlanliinaaMake
import Derived.Deep.CutRange
namespace Go.Proofs.Ytilficlanliinaa
open Go.RowKit

/-- a product that comes in as raw numbers -/
structure PX (p : Prod) : Prop where
  mlen : p.months.length ≤ 9223372036854775807
  tick : i64ok p.tick
  wide : i64ok p.wide
  rule : i64ok p.rule
  top : i64ok p.top
  least : i64ok p.least
  part : i64ok p.part

theorem Blk.fill {w : World} {g : Nat} {t : TypeId} {x0 x1 x2 x3 x4 x5 x6 x7 x8 x9 x10 : Value} (h : Blk w g t #[x0, x1, x2, x3, x4, x5, x6, x7, x8, x9, x10]) (v0 v1 v2 v3 v4 v5 v6 v7 v8 v9 v10 : Value) : Blk (((((((((((w.setCell ⟨g, 0, none⟩ v0).setCell ⟨g, 1, none⟩ v1).setCell ⟨g, 2, none⟩ v2).setCell ⟨g, 3, none⟩ v3).setCell ⟨g, 4, none⟩ v4).setCell ⟨g, 5, none⟩ v5).setCell ⟨g, 6, none⟩ v6).setCell ⟨g, 7, none⟩ v7).setCell ⟨g, 8, none⟩ v8).setCell ⟨g, 9, none⟩ v9).setCell ⟨g, 10, none⟩ v10) g t #[v0, v1, v2, v3, v4, v5, v6, v7, v8, v9, v10] := by
  have h1 := (((((((((((h.set_ 0 v0).set_ 1 v1).set_ 2 v2).set_ 3 v3).set_ 4 v4).set_ 5 v5).set_ 6 v6).set_ 7 v7).set_ 8 v8).set_ 9 v9).set_ 10 v10)
  simp only [List.setIfInBounds_toArray, List.set_cons_zero, List.set_cons_succ] at h1
  exact h1
theorem Keeps.fill (w : World) (g : Nat) (v0 v1 v2 v3 v4 v5 v6 v7 v8 v9 v10 : Value) : Keeps (fun k => k = g) w (((((((((((w.setCell ⟨g, 0, none⟩ v0).setCell ⟨g, 1, none⟩ v1).setCell ⟨g, 2, none⟩ v2).setCell ⟨g, 3, none⟩ v3).setCell ⟨g, 4, none⟩ v4).setCell ⟨g, 5, none⟩ v5).setCell ⟨g, 6, none⟩ v6).setCell ⟨g, 7, none⟩ v7).setCell ⟨g, 8, none⟩ v8).setCell ⟨g, 9, none⟩ v9).setCell ⟨g, 10, none⟩ v10) :=
  ((((((((((((Keeps.refl (fun k => k = g) w).setCell (p := ⟨g, 0, none⟩) (fun _ => rfl) v0).setCell (p := ⟨g, 1, none⟩) (fun _ => rfl) v1).setCell (p := ⟨g, 2, none⟩) (fun _ => rfl) v2).setCell (p := ⟨g, 3, none⟩) (fun _ => rfl) v3).setCell (p := ⟨g, 4, none⟩) (fun _ => rfl) v4).setCell (p := ⟨g, 5, none⟩) (fun _ => rfl) v5).setCell (p := ⟨g, 6, none⟩) (fun _ => rfl) v6).setCell (p := ⟨g, 7, none⟩) (fun _ => rfl) v7).setCell (p := ⟨g, 8, none⟩) (fun _ => rfl) v8).setCell (p := ⟨g, 9, none⟩) (fun _ => rfl) v9).setCell (p := ⟨g, 10, none⟩) (fun _ => rfl) v10)
def kc (tick rule top least part wide : Int) (ma : Option Addr) (mc : Nat) (sa : Option Addr) (sc k : Nat) : Array Value := #[.string ⟨#[206, 169]⟩, .slice ma k mc, .int .i64 tick, .int .i64 (-20 * tick), .int .i64 (100 * tick), .int .i64 wide, .int .i64 rule, .int .i64 top, .int .i64 least, .int .i64 part, .slice sa k sc]
set_option maxRecDepth 100000 in
set_option maxHeartbeats 8000000 in
theorem keep_any (p : Prod) (w : World) (hx : PX p) :
    Calls Try.prog 10 #[p.agg] w fun e w' => ∃ (k : Keep) (ma : Option Addr) (mc : Nat) (sa : Option Addr) (sc : Nat), k.ok ∧ e = .returned (k.prod ma mc sa sc).agg ∧ PV w' (k.prod ma mc sa sc) ∧ Below w.heap.size w w' := by
  obtain ⟨hx0, hx1, hx2, hx3, hx4, hx5, hx6⟩ := hx
  unfold Prod.agg Prod.cells
  have s1 : ∀ (w : World) (o : Obj), (w.alloc o).heap.size = w.heap.size + 1 := fun w o => by simp
  have HPC0 : Hid (PC (w.alloc (.cells #[.string p.code, .slice p.ma p.months.length p.mc, .int .i64 p.tick, .int .i64 p.low, .int .i64 p.high, .int .i64 p.wide, .int .i64 p.rule, .int .i64 p.top, .int .i64 p.least, .int .i64 p.part, .slice p.sa p.settle.length p.sc] 25)) w.heap.size p) := Lib.hid (PC.new w p)
  have HB0 : Hid (Below w.heap.size w (w.alloc (.cells #[.string p.code, .slice p.ma p.months.length p.mc, .int .i64 p.tick, .int .i64 p.low, .int .i64 p.high, .int .i64 p.wide, .int .i64 p.rule, .int .i64 p.top, .int .i64 p.least, .int .i64 p.part, .slice p.sa p.settle.length p.sc] 25))) := Lib.hid (Below.allocN _ _)
  have HZ0 : Hid ((w.alloc (.cells #[.string p.code, .slice p.ma p.months.length p.mc, .int .i64 p.tick, .int .i64 p.low, .int .i64 p.high, .int .i64 p.wide, .int .i64 p.rule, .int .i64 p.top, .int .i64 p.least, .int .i64 p.part, .slice p.sa p.settle.length p.sc] 25)).heap.size = w.heap.size + 1) := Lib.hid (s1 _ _)
  have hw1 := withI_bd (p.months.length : Int) 0 3 (by omega)
  obtain ⟨n, hn⟩ : ∃ n : Nat, 2 + withI (p.months.length : Int) 0 3 = (n : Int) := ⟨(2 + withI (p.months.length : Int) 0 3).toNat, by omega⟩
  have hw2 := withI_bd p.tick 0 9 (by omega)
  obtain ⟨tick, htick⟩ : ∃ t : Int, 1 + withI p.tick 0 9 = t := ⟨_, rfl⟩
  have hw3 := withI_bd p.rule 0 2 (by omega)
  have hw4 := withI_bd p.top 0 9 (by omega)
  have hw5 := withI_bd p.least 0 4 (by omega)
  have hw6 := withI_bd p.part 0 100 (by omega)
  have hw7 := withI_bd p.wide 0 60 (by omega)
  have H1 := Lib.hid fun w => within_any (p.months.length : Int) 0 3 w (by omega) (by omega) (by omega) (by omega) (by omega)
  have H2 := Lib.hid fun w => within_any p.tick 0 9 w hx1.1 hx1.2 (by omega) (by omega) (by omega)
  have H7 := Lib.hid fun w => within_any p.wide 0 60 w hx2.1 hx2.2 (by omega) (by omega) (by omega)
  have HN := Lib.hid hn
  have HTK := Lib.hid htick
  have hnb : 2 ≤ n ∧ n ≤ 5 := by omega
  have htb : 1 ≤ tick ∧ tick ≤ 10 := by omega
  have hq3 : -9223372036854775808 ≤ p.rule ∧ p.rule ≤ 9223372036854775807 := hx3
  have hq4 : -9223372036854775808 ≤ p.top ∧ p.top ≤ 9223372036854775807 := hx4
  have hq5 : -9223372036854775808 ≤ p.least ∧ p.least ≤ 9223372036854775807 := hx5
  have hq6 : -9223372036854775808 ≤ p.part ∧ p.part ≤ 9223372036854775807 := hx6
  clear hx0 hx1 hx2 hx3 hx4 hx5 hx6 hn htick hw1 hw2
  generalize withI (p.months.length : Int) 0 3 = v1 at *
  generalize withI p.tick 0 9 = v2 at *
  generalize withI p.wide 0 60 = v7 at *
  have x1 : IntKind.i64.wrap (2 + v1) = (n : Int) := by rw [← HN.out]; exact IntWalk.i64_in _ (by have := HN.out; omega)
  have x2 : IntKind.i64.wrap (1 + v2) = tick := by rw [← HTK.out]; exact IntWalk.i64_in _ (by have := HTK.out; omega)
  go_enter Try.func10, Try.ntmps10
  go_wp2_with fail
  refine (H1.out _).mono ?_
  rintro e w1 ⟨rfl, rfl⟩
  go_wp2_with fail
  refine (H2.out _).mono ?_
  rintro e w1 ⟨rfl, rfl⟩
  go_upto_region 3 with (fail)
  have hz1 : ((w.alloc (.cells #[.string p.code, .slice p.ma p.months.length p.mc, .int .i64 p.tick, .int .i64 p.low, .int .i64 p.high, .int .i64 p.wide, .int .i64 p.rule, .int .i64 p.top, .int .i64 p.least, .int .i64 p.part, .slice p.sa p.settle.length p.sc] 25)).alloc (.cells #[.string ⟨#[]⟩, .slice none 0 0, .int .i64 0, .int .i64 0, .int .i64 0, .int .i64 0, .int .i64 0, .int .i64 0, .int .i64 0, .int .i64 0, .slice none 0 0] 25)).heap.size = w.heap.size + 2 := by rw [s1, s1]
  have hzb : Below w.heap.size w ((w.alloc (.cells #[.string p.code, .slice p.ma p.months.length p.mc, .int .i64 p.tick, .int .i64 p.low, .int .i64 p.high, .int .i64 p.wide, .int .i64 p.rule, .int .i64 p.top, .int .i64 p.least, .int .i64 p.part, .slice p.sa p.settle.length p.sc] 25)).alloc (.cells #[.string ⟨#[]⟩, .slice none 0 0, .int .i64 0, .int .i64 0, .int .i64 0, .int .i64 0, .int .i64 0, .int .i64 0, .int .i64 0, .int .i64 0, .slice none 0 0] 25)) := HB0.out.alloc HB0.out.size _
  have hpc : PC ((w.alloc (.cells #[.string p.code, .slice p.ma p.months.length p.mc, .int .i64 p.tick, .int .i64 p.low, .int .i64 p.high, .int .i64 p.wide, .int .i64 p.rule, .int .i64 p.top, .int .i64 p.least, .int .i64 p.part, .slice p.sa p.settle.length p.sc] 25)).alloc (.cells #[.string ⟨#[]⟩, .slice none 0 0, .int .i64 0, .int .i64 0, .int .i64 0, .int .i64 0, .int .i64 0, .int .i64 0, .int .i64 0, .int .i64 0, .slice none 0 0] 25)) w.heap.size p := HPC0.out.below (Below.allocN _ _) (by rw [HZ0.out]; omega)
  have hg2 : Blk ((w.alloc (.cells #[.string p.code, .slice p.ma p.months.length p.mc, .int .i64 p.tick, .int .i64 p.low, .int .i64 p.high, .int .i64 p.wide, .int .i64 p.rule, .int .i64 p.top, .int .i64 p.least, .int .i64 p.part, .slice p.sa p.settle.length p.sc] 25)).alloc (.cells #[.string ⟨#[]⟩, .slice none 0 0, .int .i64 0, .int .i64 0, .int .i64 0, .int .i64 0, .int .i64 0, .int .i64 0, .int .i64 0, .int .i64 0, .slice none 0 0] 25)) (w.heap.size + 1) 25 #[.string ⟨#[]⟩, .slice none 0 0, .int .i64 0, .int .i64 0, .int .i64 0, .int .i64 0, .int .i64 0, .int .i64 0, .int .i64 0, .int .i64 0, .slice none 0 0] := by
    have := Blk.new (w.alloc (.cells #[.string p.code, .slice p.ma p.months.length p.mc, .int .i64 p.tick, .int .i64 p.low, .int .i64 p.high, .int .i64 p.wide, .int .i64 p.rule, .int .i64 p.top, .int .i64 p.least, .int .i64 p.part, .slice p.sa p.settle.length p.sc] 25)) 25 #[.string ⟨#[]⟩, .slice none 0 0, .int .i64 0, .int .i64 0, .int .i64 0, .int .i64 0, .int .i64 0, .int .i64 0, .int .i64 0, .int .i64 0, .slice none 0 0]
    rw [HZ0.out] at this
    exact this
  clear HPC0 HB0 HZ0
  generalize ((w.alloc (.cells #[.string p.code, .slice p.ma p.months.length p.mc, .int .i64 p.tick, .int .i64 p.low, .int .i64 p.high, .int .i64 p.wide, .int .i64 p.rule, .int .i64 p.top, .int .i64 p.least, .int .i64 p.part, .slice p.sa p.settle.length p.sc] 25)).alloc (.cells #[.string ⟨#[]⟩, .slice none 0 0, .int .i64 0, .int .i64 0, .int .i64 0, .int .i64 0, .int .i64 0, .int .i64 0, .int .i64 0, .int .i64 0, .slice none 0 0] 25)) = wb at *
  have HZ1 := Lib.hid hz1
  have HZB := Lib.hid hzb
  have HPC := Lib.hid hpc
  have HG2 := Lib.hid hg2
  obtain ⟨b0, b1, b2, b3, b4, b5, b6, b7, b8, b9, b10⟩ := hpc
  clear b0 b1 b2 b3 b4 b10 hz1 hzb hg2
  have y1 : IntKind.i64.wrap (-20 * tick) = -20 * tick := IntWalk.i64_in _ (by omega)
  have y2 : IntKind.i64.wrap (100 * tick) = 100 * tick := IntWalk.i64_in _ (by omega)
  have y3 : IntKind.i64.wrap (1 + withI p.rule 0 2) = 1 + withI p.rule 0 2 := IntWalk.i64_in _ (by omega)
  have y5 : IntKind.i64.wrap (1 + withI p.least 0 4) = 1 + withI p.least 0 4 := IntWalk.i64_in _ (by omega)
  go_cut [5] (fun v wx => v = .pointer (some ⟨wb.heap.size, 0, none⟩) ∧ wx = (wb.alloc (.cells (kc tick (1 + withI p.rule 0 2) (withI p.top 0 9) (1 + withI p.least 0 4) (withI p.part 0 100) 0 none 0 none 0 0) 25)).drew)
  case first =>
    have HAL : Hid (∀ o : Obj, (wb.alloc o).cell? ⟨w.heap.size, 6, none⟩ = some (.int .i64 p.rule) ∧ (wb.alloc o).cell? ⟨w.heap.size, 7, none⟩ = some (.int .i64 p.top) ∧ (wb.alloc o).cell? ⟨w.heap.size, 8, none⟩ = some (.int .i64 p.least) ∧ (wb.alloc o).cell? ⟨w.heap.size, 9, none⟩ = some (.int .i64 p.part)) := Lib.hid fun o => by
      obtain ⟨_, _, _, _, _, _, c6, c7, c8, c9, _⟩ := HPC.out.below (Below.allocN wb o) (by rw [HZ1.out]; omega)
      exact ⟨c6, c7, c8, c9⟩
    go_region_held3 (fun w' => w'.cell? ⟨w.heap.size, 6, none⟩ = some (.int .i64 p.rule) ∧ w'.cell? ⟨w.heap.size, 7, none⟩ = some (.int .i64 p.top) ∧ w'.cell? ⟨w.heap.size, 8, none⟩ = some (.int .i64 p.least) ∧ w'.cell? ⟨w.heap.size, 9, none⟩ = some (.int .i64 p.part))
      (first
        | exact ⟨b6, b7, b8, b9⟩
        | exact HAL.out _)
      (first
        | (go_at_call 12; refine (within_any _ _ _ _ (by omega) (by omega) (by omega) (by omega) (by omega)).mono ?_; rintro e w5 ⟨rfl, rfl⟩))
    all_goals (go_wp2_with fail; go_meet)
    all_goals exact ⟨rfl, rfl⟩
  case rest =>
  obtain ⟨rfl, rfl⟩ := hcut
  clear b6 b7 b8 b9 b5 y1 y2 y3 y5 hq3 hq4 hq5 hq6
  generalize withI p.rule 0 2 = v3 at *
  generalize withI p.top 0 9 = v4 at *
  generalize withI p.least 0 4 = v5 at *
  generalize withI p.part 0 100 = v6 at *
  have hD : Below wb.heap.size wb (wb.alloc (.cells (kc tick (1 + v3) v4 (1 + v5) v6 0 none 0 none 0 0) 25)).drew := (Below.allocN _ _).drew
  have hP : Blk (wb.alloc (.cells (kc tick (1 + v3) v4 (1 + v5) v6 0 none 0 none 0 0) 25)).drew wb.heap.size 25 (kc tick (1 + v3) v4 (1 + v5) v6 0 none 0 none 0 0) := Blk.new wb _ _
  generalize (wb.alloc (.cells (kc tick (1 + v3) v4 (1 + v5) v6 0 none 0 none 0 0) 25)).drew = wc at *
  have hpc2 := HPC.out.below hD (by rw [HZ1.out]; omega)
  have b5 := hpc2.2.2.2.2.2.1
  have HBC := Lib.hid (HZB.out.trans (hD.mono HZB.out.size))
  have HG3 := Lib.hid (HG2.out.keeps (Below.keeps (F := fun _ => False) hD) (fun x => x))
  obtain ⟨wd, hwd⟩ : ∃ x : Int, 5 + v7 = x := ⟨_, rfl⟩
  have x5 : IntKind.i64.wrap (5 + v7) = wd := by rw [← hwd]; exact IntWalk.i64_in _ (by omega)
  have hwdb : 5 ≤ wd ∧ wd ≤ 65 := by omega
  have hwm := mul_bd htb.1 hwdb.1 hwdb.2
  have x6 : IntKind.i64.wrap (tick * wd) = tick * wd := IntWalk.i64_in _ (by omega)
  have hgc : wb.heap.size = w.heap.size + 2 := HZ1.out
  rw [hgc] at hP ⊢
  have c5 : wc.cell? ⟨w.heap.size + 2, 5, none⟩ = some (.int .i64 0) := by rw [hP.cell]; rfl
  have f5 : wc.frozen? ⟨w.heap.size + 2, 5, none⟩ = false := hP.frozen 5
  have HP3 := Lib.hid hP
  have hwz : w.heap.size + 3 ≤ wc.heap.size := by have := hP.lt; omega
  clear hP hD hpc2 hwd HPC HG2 HZ1 HZB hgc
  go_wp2_with fail
  refine (H7.out _).mono ?_
  rintro e w6 ⟨rfl, rfl⟩
  go_wp2_with fail
  have hP4 : Blk (wc.setCell ⟨w.heap.size + 2, 5, none⟩ (.int .i64 (tick * wd))) (w.heap.size + 2) 25 (kc tick (1 + v3) v4 (1 + v5) v6 (tick * wd) none 0 none 0 0) := HP3.out.set_ 5 (.int .i64 (tick * wd))
  have hB4 : Below w.heap.size w (wc.setCell ⟨w.heap.size + 2, 5, none⟩ (.int .i64 (tick * wd))) := HBC.out.setCell (p := ⟨w.heap.size + 2, 5, none⟩) (by show w.heap.size ≤ w.heap.size + 2; omega) _
  have hG4 : Blk (wc.setCell ⟨w.heap.size + 2, 5, none⟩ (.int .i64 (tick * wd))) (w.heap.size + 1) 25 #[.string ⟨#[]⟩, .slice none 0 0, .int .i64 0, .int .i64 0, .int .i64 0, .int .i64 0, .int .i64 0, .int .i64 0, .int .i64 0, .int .i64 0, .slice none 0 0] := HG3.out.far (p := ⟨w.heap.size + 2, 5, none⟩) (by show w.heap.size + 1 ≠ w.heap.size + 2; omega) _
  have hz4 : w.heap.size + 3 ≤ (wc.setCell ⟨w.heap.size + 2, 5, none⟩ (.int .i64 (tick * wd))).heap.size := by have := hP4.lt; omega
  clear HP3 HBC HG3 b5 c5 f5 hwz
  generalize wc.setCell ⟨w.heap.size + 2, 5, none⟩ (.int .i64 (tick * wd)) = wd0 at *
  go_loopw [6] (fun i w' => ∃ k : Nat, i = .int .i64 k ∧ k ≤ n ∧ ∃ ma mc sa sc, Blk w' (w.heap.size + 2) 25 (kc tick (1 + v3) v4 (1 + v5) v6 (tick * wd) ma mc sa sc k) ∧ RowI w' w.heap.size 3 (.slice ma k mc) (monthsK k) ∧ RowI w' w.heap.size 2 (.slice sa k sc) (settleK tick k) ∧ Below w.heap.size w w' ∧ Blk w' (w.heap.size + 1) 25 #[.string ⟨#[]⟩, .slice none 0 0, .int .i64 0, .int .i64 0, .int .i64 0, .int .i64 0, .int .i64 0, .int .i64 0, .int .i64 0, .int .i64 0, .slice none 0 0]) (fun i _ => n - (intOf i).toNat)
  case atStart => exact ⟨0, rfl, Nat.zero_le _, none, 0, none, 0, hP4, World.ownsRow_nil _ _ _ _, World.ownsRow_nil _ _ _ _, hB4, hG4⟩
  case round =>
    clear hP4 hB4 hG4 hz4
    obtain ⟨k, rfl, hk, ma, mc, sa, sc, hP, hM, hS, hB, hG⟩ := hrel
    obtain ⟨wo, rfl⟩ : ∃ wo : World, wo = wr := ⟨_, rfl⟩
    have HP := Lib.hid hP
    have HM := Lib.hid hM
    have HS := Lib.hid hS
    have HB := Lib.hid hB
    have HG := Lib.hid hG
    clear hP hM hS hB hG
    by_cases hkn : k < n
    · have hkn' : (k : Int) < (n : Int) := by omega
      have c1 : wo.cell? ⟨w.heap.size + 2, 1, none⟩ = some (.slice ma k mc) := by rw [HP.out.cell]; rfl
      have hwo := HP.out.lt
      go_wp2_with (first
        | (at_builtin; refine push_int rfl (.tmp 49) (.tmp 53) rfl w.heap.size ma mc k (monthsK k) (monthsK_len k) rfl (own_below HM.out (Below.allocN _ _)) wo.heap.size (10 * (k : Int) + 3) rfl (by rw [(Blk.new wo 3 #[.int .i64 (10 * (k : Int) + 3)]).cell]; rfl) (by omega) (by rw [s1]; omega) ?_))
      intro g1 cap1 w5 hr5 hg5 hat5
      have hp5 := grow_blk HM.out hg5 HP.out (by decide)
      have hG5 := grow_blk HM.out hg5 HG.out (by decide)
      have hS5 : RowI w5 w.heap.size 2 (.slice sa k sc) (settleK tick k) := grow_own HM.out hg5 HS.out (by decide)
      have hB5 := grow_below HM.out hg5 HB.out
      rw [← monthsK_succ] at hr5
      have c5 : w5.cell? ⟨w.heap.size + 2, 1, none⟩ = some (.slice ma k mc) := by rw [hp5.cell]; rfl
      have f5 : w5.frozen? ⟨w.heap.size + 2, 1, none⟩ = false := hp5.frozen 1
      have hp6 := hp5.set_ 1 (.slice (some ⟨g1, 0, none⟩) (k + 1) cap1)
      have hM6 : RowI (w5.setCell ⟨w.heap.size + 2, 1, none⟩ (.slice (some ⟨g1, 0, none⟩) (k + 1) cap1)) w.heap.size 3 (.slice (some ⟨g1, 0, none⟩) (k + 1) cap1) (monthsK (k + 1)) := store_own hr5 hp5 (by decide) 1 _
      have hS6 : RowI (w5.setCell ⟨w.heap.size + 2, 1, none⟩ (.slice (some ⟨g1, 0, none⟩) (k + 1) cap1)) w.heap.size 2 (.slice sa k sc) (settleK tick k) := store_own hS5 hp5 (by decide) 1 _
      have hG6 := hG5.far (p := ⟨w.heap.size + 2, 1, none⟩) (by show w.heap.size + 1 ≠ w.heap.size + 2; omega) (.slice (some ⟨g1, 0, none⟩) (k + 1) cap1)
      have hB6 := hB5.setCell (p := ⟨w.heap.size + 2, 1, none⟩) (by show w.heap.size ≤ w.heap.size + 2; omega) (.slice (some ⟨g1, 0, none⟩) (k + 1) cap1)
      have HP6 := Lib.hid hp6
      have HM6 := Lib.hid hM6
      have HS6 := Lib.hid hS6
      have HG6 := Lib.hid hG6
      have HB6 := Lib.hid hB6
      have hz6 : w.heap.size ≤ w5.heap.size := hB5.size
      clear hp6 hM6 hS6 hG6 hB6 hp5 hG5 hS5 hB5 hr5 hg5 hat5 c1
      obtain ⟨sv, hsv⟩ : ∃ sv : Int, tick * (10 + (k : Int)) = sv := ⟨_, rfl⟩
      have hsb := mul_bd htb.1 (i := 10 + (k : Int)) (a := 10) (b := 15) (by omega) (by omega)
      have x7 : IntKind.i64.wrap (tick * (10 + (k : Int))) = sv := by rw [← hsv]; exact IntWalk.i64_in _ (by omega)
      have HSV := Lib.hid hsv
      clear hsv
      go_upto_region 9 with (fail)
      clear c5 f5
      generalize w5.setCell ⟨w.heap.size + 2, 1, none⟩ (.slice (some ⟨g1, 0, none⟩) (k + 1) cap1) = w6 at *
      have c10 : w6.cell? ⟨w.heap.size + 2, 10, none⟩ = some (.slice sa k sc) := by rw [HP6.out.cell]; rfl
      go_wp2_with (first
        | (at_builtin; refine push_int64 rfl (.tmp 57) (.tmp 62) rfl w.heap.size sa sc k (settleK tick k) (settleK_len tick k) rfl (own_below HS6.out (Below.allocN _ _)) w6.heap.size sv rfl (by rw [(Blk.new w6 2 #[.int .i64 sv]).cell]; rfl) (by omega) (by rw [s1]; have := HB6.out.size; omega) ?_))
      intro g2 cap2 w7 hr7 hg7 hat7
      have hp7 := grow_blk HS6.out hg7 HP6.out (by decide)
      have hG7 := grow_blk HS6.out hg7 HG6.out (by decide)
      have hM7 : RowI w7 w.heap.size 3 (.slice (some ⟨g1, 0, none⟩) (k + 1) cap1) (monthsK (k + 1)) := grow_own HS6.out hg7 HM6.out (by decide)
      have hB7 := grow_below HS6.out hg7 HB6.out
      rw [← HSV.out, ← settleK_succ] at hr7
      have c7 : w7.cell? ⟨w.heap.size + 2, 10, none⟩ = some (.slice sa k sc) := by rw [hp7.cell]; rfl
      have f7 : w7.frozen? ⟨w.heap.size + 2, 10, none⟩ = false := hp7.frozen 10
      have hp8 := hp7.set_ 10 (.slice (some ⟨g2, 0, none⟩) (k + 1) cap2)
      have hM8 : RowI (w7.setCell ⟨w.heap.size + 2, 10, none⟩ (.slice (some ⟨g2, 0, none⟩) (k + 1) cap2)) w.heap.size 3 (.slice (some ⟨g1, 0, none⟩) (k + 1) cap1) (monthsK (k + 1)) := store_own hM7 hp7 (by decide) 10 _
      have hS8 : RowI (w7.setCell ⟨w.heap.size + 2, 10, none⟩ (.slice (some ⟨g2, 0, none⟩) (k + 1) cap2)) w.heap.size 2 (.slice (some ⟨g2, 0, none⟩) (k + 1) cap2) (settleK tick (k + 1)) := store_own hr7 hp7 (by decide) 10 _
      have hG8 := hG7.far (p := ⟨w.heap.size + 2, 10, none⟩) (by show w.heap.size + 1 ≠ w.heap.size + 2; omega) (.slice (some ⟨g2, 0, none⟩) (k + 1) cap2)
      have hB8 := hB7.setCell (p := ⟨w.heap.size + 2, 10, none⟩) (by show w.heap.size ≤ w.heap.size + 2; omega) (.slice (some ⟨g2, 0, none⟩) (k + 1) cap2)
      have HP8 := Lib.hid hp8
      have HM8 := Lib.hid hM8
      have HS8 := Lib.hid hS8
      have HG8 := Lib.hid hG8
      have HB8 := Lib.hid hB8
      clear hp8 hM8 hS8 hG8 hB8 hp7 hG7 hM7 hB7 hr7 hg7 hat7 c10
      go_wp2_with fail
      go_roundw
      case rel => exact ⟨k + 1, by go_num, by omega, _, _, _, _, HP8.out, HM8.out, HS8.out, HB8.out, HG8.out⟩
      case measure => simp [intOf]; omega
    · obtain rfl : k = n := by omega
      have hnn : ¬ (k : Int) < (k : Int) := by omega
      obtain ⟨b0, b1, b2, b3, b4, b5, b6, b7, b8, b9, b10⟩ : PC wo (w.heap.size + 2) ((⟨k, tick, 1 + v3, v4, 1 + v5, v6, wd⟩ : Keep).prod ma mc sa sc) := by
        have h : ∀ i, wo.cell? ⟨w.heap.size + 2, i, none⟩ = (kc tick (1 + v3) v4 (1 + v5) v6 (tick * wd) ma mc sa sc k)[i]? := fun i => HP.out.cell i
        unfold PC Keep.prod
        simp only [monthsK_len, settleK_len]
        exact ⟨h 0, h 1, h 2, h 3, h 4, h 5, h 6, h 7, h 8, h 9, h 10⟩
      simp only [Keep.prod, monthsK_len, settleK_len] at b0 b1 b2 b3 b4 b5 b6 b7 b8 b9 b10
      have hg : ∀ i, wo.cell? ⟨w.heap.size + 1, i, none⟩ = (#[.string ⟨#[]⟩, .slice none 0 0, .int .i64 0, .int .i64 0, .int .i64 0, .int .i64 0, .int .i64 0, .int .i64 0, .int .i64 0, .int .i64 0, .slice none 0 0] : Array Value)[i]? := fun i => HG.out.cell i
      have d0 := hg 0
      have d1 := hg 1
      have d2 := hg 2
      have d3 := hg 3
      have d4 := hg 4
      have d5 := hg 5
      have d6 := hg 6
      have d7 := hg 7
      have d8 := hg 8
      have d9 := hg 9
      have d10 := hg 10
      have fz : ∀ i, wo.frozen? ⟨w.heap.size + 1, i, none⟩ = false := fun i => HG.out.frozen i
      clear hg
      go_wp2_with fail
      clear d0 d1 d2 d3 d4 d5 d6 d7 d8 d9 d10 fz b0 b1 b2 b3 b4 b5 b6 b7 b8 b9 b10
      have hk : Keeps (fun g => g = w.heap.size + 1) wo (((((((((((wo.setCell ⟨w.heap.size + 1, 0, none⟩ (.string ⟨#[206, 169]⟩)).setCell ⟨w.heap.size + 1, 1, none⟩ (.slice ma k mc)).setCell ⟨w.heap.size + 1, 2, none⟩ (.int .i64 tick)).setCell ⟨w.heap.size + 1, 3, none⟩ (.int .i64 (-20 * tick))).setCell ⟨w.heap.size + 1, 4, none⟩ (.int .i64 (100 * tick))).setCell ⟨w.heap.size + 1, 5, none⟩ (.int .i64 (tick * wd))).setCell ⟨w.heap.size + 1, 6, none⟩ (.int .i64 (1 + v3))).setCell ⟨w.heap.size + 1, 7, none⟩ (.int .i64 v4)).setCell ⟨w.heap.size + 1, 8, none⟩ (.int .i64 (1 + v5))).setCell ⟨w.heap.size + 1, 9, none⟩ (.int .i64 v6)).setCell ⟨w.heap.size + 1, 10, none⟩ (.slice sa k sc)) := Keeps.fill _ _ _ _ _ _ _ _ _ _ _ _ _
      have hB : Blk (((((((((((wo.setCell ⟨w.heap.size + 1, 0, none⟩ (.string ⟨#[206, 169]⟩)).setCell ⟨w.heap.size + 1, 1, none⟩ (.slice ma k mc)).setCell ⟨w.heap.size + 1, 2, none⟩ (.int .i64 tick)).setCell ⟨w.heap.size + 1, 3, none⟩ (.int .i64 (-20 * tick))).setCell ⟨w.heap.size + 1, 4, none⟩ (.int .i64 (100 * tick))).setCell ⟨w.heap.size + 1, 5, none⟩ (.int .i64 (tick * wd))).setCell ⟨w.heap.size + 1, 6, none⟩ (.int .i64 (1 + v3))).setCell ⟨w.heap.size + 1, 7, none⟩ (.int .i64 v4)).setCell ⟨w.heap.size + 1, 8, none⟩ (.int .i64 (1 + v5))).setCell ⟨w.heap.size + 1, 9, none⟩ (.int .i64 v6)).setCell ⟨w.heap.size + 1, 10, none⟩ (.slice sa k sc)) (w.heap.size + 1) 25 (kc tick (1 + v3) v4 (1 + v5) v6 (tick * wd) ma mc sa sc k) := HG.out.fill _ _ _ _ _ _ _ _ _ _ _
      generalize (((((((((((wo.setCell ⟨w.heap.size + 1, 0, none⟩ (.string ⟨#[206, 169]⟩)).setCell ⟨w.heap.size + 1, 1, none⟩ (.slice ma k mc)).setCell ⟨w.heap.size + 1, 2, none⟩ (.int .i64 tick)).setCell ⟨w.heap.size + 1, 3, none⟩ (.int .i64 (-20 * tick))).setCell ⟨w.heap.size + 1, 4, none⟩ (.int .i64 (100 * tick))).setCell ⟨w.heap.size + 1, 5, none⟩ (.int .i64 (tick * wd))).setCell ⟨w.heap.size + 1, 6, none⟩ (.int .i64 (1 + v3))).setCell ⟨w.heap.size + 1, 7, none⟩ (.int .i64 v4)).setCell ⟨w.heap.size + 1, 8, none⟩ (.int .i64 (1 + v5))).setCell ⟨w.heap.size + 1, 9, none⟩ (.int .i64 v6)).setCell ⟨w.heap.size + 1, 10, none⟩ (.slice sa k sc)) = wf at *
      have hM : RowI wf w.heap.size 3 (.slice ma k mc) (monthsK k) := own_keep HM.out hk fun g h1 h2 => (own_tyd HM.out g h1).ne HG.out.tyd (by decide) h2
      have hS : RowI wf w.heap.size 2 (.slice sa k sc) (settleK tick k) := own_keep HS.out hk fun g h1 h2 => (own_tyd HS.out g h1).ne HG.out.tyd (by decide) h2
      have hbel : Below w.heap.size w wf := HB.out.trans (hk.below (fun g hg => by rw [hg]; omega) HB.out.size)
      have c : ∀ i, wf.cell? ⟨w.heap.size + 1, i, none⟩ = (kc tick (1 + v3) v4 (1 + v5) v6 (tick * wd) ma mc sa sc k)[i]? := fun i => hB.cell i
      have c0 := c 0
      have c1 := c 1
      have c2 := c 2
      have c3 := c 3
      have c4 := c 4
      have c5 := c 5
      have c6 := c 6
      have c7 := c 7
      have c8 := c 8
      have c9 := c 9
      have c10 := c 10
      simp only [kc] at c0 c1 c2 c3 c4 c5 c6 c7 c8 c9 c10
      have hok : (⟨k, tick, 1 + v3, v4, 1 + v5, v6, wd⟩ : Keep).ok := ⟨hnb, htb, by show 1 ≤ 1 + v3 ∧ 1 + v3 ≤ 3; omega, hw4, by show 1 ≤ 1 + v5 ∧ 1 + v5 ≤ 5; omega, hw6, hwdb⟩
      have e1 : ∀ x ∈ monthsK k, i64ok x := by
        intro x hx
        unfold monthsK at hx
        rw [List.mem_map] at hx
        obtain ⟨i, hi, rfl⟩ := hx
        rw [List.mem_range] at hi
        unfold i64ok
        omega
      have e2 : ∀ x ∈ settleK tick k, i64ok x := by
        intro x hx
        obtain ⟨i, hi, rfl⟩ := settleK_mem hx
        have := mul_bd htb.1 (i := 10 + (i : Int)) (a := 10) (b := 15) (by omega) (by omega)
        unfold i64ok
        omega
      have hpv : PV wf ((⟨k, tick, 1 + v3, v4, 1 + v5, v6, wd⟩ : Keep).prod ma mc sa sc) :=
        ⟨by show 2 ≤ 1000; omega, hM.ints e1, hS.ints e2, by show (monthsK k).length ≤ _; rw [monthsK_len]; omega, by show (settleK tick k).length ≤ _; rw [settleK_len]; omega, by show i64ok tick; unfold i64ok; omega, by show i64ok (-20 * tick); unfold i64ok; omega, by show i64ok (100 * tick); unfold i64ok; omega, by show i64ok (tick * wd); unfold i64ok; omega⟩
      clear hM hS hB c hk e1 e2 HP HM HS HB HG
      refine bodyPost_ret (v := .agg #[.string ⟨#[206, 169]⟩, .slice ma k mc, .int .i64 tick, .int .i64 (-20 * tick), .int .i64 (100 * tick), .int .i64 (tick * wd), .int .i64 (1 + v3), .int .i64 v4, .int .i64 (1 + v5), .int .i64 v6, .slice sa k sc]) (by simp [results, Try.results10, go_sem, c0, c1, c2, c3, c4, c5, c6, c7, c8, c9, c10]) rfl ?_
      refine ⟨⟨k, tick, 1 + v3, v4, 1 + v5, v6, wd⟩, hok, ma, mc, sa, sc, ?_, hpv, hbel⟩
      simp only [Keep.prod, monthsK_len, settleK_len]
end Go.Proofs.Ytilficlanliinaa
