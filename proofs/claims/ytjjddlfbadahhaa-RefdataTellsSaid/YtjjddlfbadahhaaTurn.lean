/- The walk of cornhilllaw5.turned. Printed by mk_turn.py. -/
import Derived.Test.YtjjddlfbadahhaaTurn1
import Derived.Test.YtjjddlfbadahhaaLNumbers
import Derived.Deep.DeepCutAuto
import Derived.Deep.CutBlock
namespace Go.Proofs.Ytjjddlfbadahhaa
open Go.RowKit

/-- where the cases meet: the product in its box, the result still empty -/
def Off (g : Nat) (a : Option Addr) : Prop := ∃ b off, a = some ⟨b, off, none⟩ ∧ g < b
theorem Ints.far {w w' : World} {a : Option Addr} {L : List Int} {g : Nat} (h : Ints w a L) (ho : Off g a) (hk : Keeps (fun k => k = g) w w') : Ints w' a L := by
  intro j x hj
  obtain ⟨h0, b, off, ha, hl, hc⟩ := h j x hj
  obtain ⟨b', off', ha', hne⟩ := ho
  rw [ha] at ha'
  injection ha' with ha'
  injection ha' with h1 h2
  subst h1
  have hh := hk.block b hl (by show ¬ b = g; omega)
  refine ⟨h0, b, off, ha, Nat.lt_of_lt_of_le hl hk.size, ?_⟩
  unfold World.cell? at hc ⊢
  rw [show (⟨b, off + j, none⟩ : Addr).block = b from rfl] at hc ⊢
  rw [hh]; exact hc
structure TB (w w1 : World) (q : Prod) : Prop where
  ma : Off (w.heap.size + 1) q.ma
  sa : Off (w.heap.size + 1) q.sa
  blk : Blk w1 w.heap.size 25 q.cells
  res : Blk w1 (w.heap.size + 1) 25 zeroP.cells
  pv : PV w1 q
  bel : Below w.heap.size w w1
set_option maxRecDepth 100000 in
set_option maxHeartbeats 16000000 in
theorem turned_off (p : Prod) (how n : Int) (w : World) (hp : PV w p) (hn1 : -9223372036854775808 ≤ n) (hn2 : n ≤ 9223372036854775807) (hm0 : 0 < p.months.length) (hm1 : p.months.length ≤ 1000) (hs0 : 1 < p.settle.length) (hs1 : p.settle.length ≤ 1000) :
    Calls Try.prog 24 #[p.agg, .int .i64 how, .int .i64 n] w fun e w' => ∃ q : Prod, e = .returned q.agg ∧ PV w' q ∧ Below w.heap.size w w' ∧ Off (w.heap.size + 1) q.ma ∧ Off (w.heap.size + 1) q.sa := by
  have s1 : ∀ (w : World) (o : Obj), (w.alloc o).heap.size = w.heap.size + 1 := fun w o => by simp
  have HPV := Lib.hid hp
  have HOM := Lib.hid (ints_ok hp.mon)
  have HOS := Lib.hid (ints_ok hp.set_)
  unfold Prod.agg Prod.cells
  clear hp
  go_enter Try.func24, Try.ntmps24
  go_upto_region 1 with (fail)
  have hx0 : Blk ((w.alloc (.cells #[.string p.code, .slice p.ma p.months.length p.mc, .int .i64 p.tick, .int .i64 p.low, .int .i64 p.high, .int .i64 p.wide, .int .i64 p.rule, .int .i64 p.top, .int .i64 p.least, .int .i64 p.part, .slice p.sa p.settle.length p.sc] 25)).alloc (.cells #[.string ⟨#[]⟩, .slice none 0 0, .int .i64 0, .int .i64 0, .int .i64 0, .int .i64 0, .int .i64 0, .int .i64 0, .int .i64 0, .int .i64 0, .slice none 0 0] 25)) w.heap.size 25 p.cells := (Blk.new _ _ _).alloc _
  have hz0 : Blk ((w.alloc (.cells #[.string p.code, .slice p.ma p.months.length p.mc, .int .i64 p.tick, .int .i64 p.low, .int .i64 p.high, .int .i64 p.wide, .int .i64 p.rule, .int .i64 p.top, .int .i64 p.least, .int .i64 p.part, .slice p.sa p.settle.length p.sc] 25)).alloc (.cells #[.string ⟨#[]⟩, .slice none 0 0, .int .i64 0, .int .i64 0, .int .i64 0, .int .i64 0, .int .i64 0, .int .i64 0, .int .i64 0, .int .i64 0, .slice none 0 0] 25)) (w.heap.size + 1) 25 zeroP.cells := by
    have := Blk.new (w.alloc (.cells #[.string p.code, .slice p.ma p.months.length p.mc, .int .i64 p.tick, .int .i64 p.low, .int .i64 p.high, .int .i64 p.wide, .int .i64 p.rule, .int .i64 p.top, .int .i64 p.least, .int .i64 p.part, .slice p.sa p.settle.length p.sc] 25)) 25 zeroP.cells
    rw [s1] at this
    exact this
  have hb0 : Below w.heap.size w ((w.alloc (.cells #[.string p.code, .slice p.ma p.months.length p.mc, .int .i64 p.tick, .int .i64 p.low, .int .i64 p.high, .int .i64 p.wide, .int .i64 p.rule, .int .i64 p.top, .int .i64 p.least, .int .i64 p.part, .slice p.sa p.settle.length p.sc] 25)).alloc (.cells #[.string ⟨#[]⟩, .slice none 0 0, .int .i64 0, .int .i64 0, .int .i64 0, .int .i64 0, .int .i64 0, .int .i64 0, .int .i64 0, .int .i64 0, .slice none 0 0] 25)) := (Below.allocN _ _).alloc (by rw [s1]; omega) _
  unfold Prod.cells at hx0
  generalize (w.alloc (.cells #[.string p.code, .slice p.ma p.months.length p.mc, .int .i64 p.tick, .int .i64 p.low, .int .i64 p.high, .int .i64 p.wide, .int .i64 p.rule, .int .i64 p.top, .int .i64 p.least, .int .i64 p.part, .slice p.sa p.settle.length p.sc] 25)).alloc (.cells #[.string ⟨#[]⟩, .slice none 0 0, .int .i64 0, .int .i64 0, .int .i64 0, .int .i64 0, .int .i64 0, .int .i64 0, .int .i64 0, .int .i64 0, .slice none 0 0] 25) = w0 at *
  have HX0 := Lib.hid hx0
  have HZ0 := Lib.hid hz0
  have HB0 := Lib.hid hb0
  clear hx0 hz0 hb0
  have hown : RowI (w0.alloc (.cells #[] 3)) w0.heap.size 3 (.slice (some ⟨w0.heap.size, 0, none⟩) 0 0) [] := ⟨rfl, .inr ⟨w0.heap.size, 0, #[], rfl, Nat.le_refl _, Blk.new w0 3 #[], Nat.le_refl _, Nat.zero_le _, rfl, rfl⟩⟩
  have d1 : (w0.alloc (.cells #[] 3)).cell? ⟨w.heap.size, 1, none⟩ = some (.slice p.ma p.months.length p.mc) := by rw [(HX0.out.alloc _).cell]; rfl
  have HI0 := Lib.hid ((HPV.out.mon.below HB0.out).below (Below.allocN w0 (.cells #[] 3)))
  go_wp2_with (first
    | (at_builtin; refine append_rowI rfl (.tmp 7) (.tmp 9) rfl w0.heap.size w0.heap.size rfl hown p.ma p.mc p.months rfl HI0.out hm0 (by omega) (by rw [s1]; omega) ?_))
  intro g1 c1 w1 hr1 hg1
  have hb1 : Below w0.heap.size w0 w1 := grown_below hg1 (Below.allocN w0 _) (fun g hg => by injection hg with hg; omega)
  have hx1 := HX0.out.below hb1
  have hz1 := HZ0.out.below hb1
  have e1 : w1.cell? ⟨w.heap.size, 1, none⟩ = some (.slice p.ma p.months.length p.mc) := by rw [hx1.cell]; rfl
  have f1 : w1.frozen? ⟨w.heap.size, 1, none⟩ = false := hx1.frozen 1
  have hc1 := own_cap hr1
  have hk2 : Keeps (fun g => g = w.heap.size) w1 (w1.setCell ⟨w.heap.size, 1, none⟩ (.slice (some ⟨g1, 0, none⟩) p.months.length c1)) := (Keeps.refl (fun g => g = w.heap.size) w1).setCell (p := ⟨w.heap.size, 1, none⟩) (fun _ => rfl) _
  have HX2 : Hid (Blk (w1.setCell ⟨w.heap.size, 1, none⟩ (.slice (some ⟨g1, 0, none⟩) p.months.length c1)) w.heap.size 25 #[.string p.code, .slice (some ⟨g1, 0, none⟩) p.months.length c1, .int .i64 p.tick, .int .i64 p.low, .int .i64 p.high, .int .i64 p.wide, .int .i64 p.rule, .int .i64 p.top, .int .i64 p.least, .int .i64 p.part, .slice p.sa p.settle.length p.sc]) := Lib.hid (hx1.set_ 1 (.slice (some ⟨g1, 0, none⟩) p.months.length c1))
  have HZ2 := Lib.hid (hz1.keeps hk2 (by show ¬ w.heap.size + 1 = w.heap.size; omega))
  have HM2 : Hid (RowI (w1.setCell ⟨w.heap.size, 1, none⟩ (.slice (some ⟨g1, 0, none⟩) p.months.length c1)) w0.heap.size 3 (.slice (some ⟨g1, 0, none⟩) p.months.length c1) p.months) := Lib.hid (store_own hr1 hx1 (by decide) 1 _)
  have HB2 := Lib.hid ((HB0.out.trans (hb1.mono HB0.out.size)).trans (hk2.below (fun g hg => by have hg' : g = w.heap.size := hg; omega) (Nat.le_trans HB0.out.size hb1.size)))
  have HBB : Hid (w.heap.size + 1 < w0.heap.size) := Lib.hid HZ0.out.lt
  clear hr1 hg1 hb1 hx1 hz1 hk2 hown d1 HI0 HX0 HZ0 HB0
  go_upto_region 2 with (fail)
  clear e1 f1
  generalize w1.setCell ⟨w.heap.size, 1, none⟩ (.slice (some ⟨g1, 0, none⟩) p.months.length c1) = w2 at *
  have hown : RowI (w2.alloc (.cells #[] 2)) w2.heap.size 2 (.slice (some ⟨w2.heap.size, 0, none⟩) 0 0) [] := ⟨rfl, .inr ⟨w2.heap.size, 0, #[], rfl, Nat.le_refl _, Blk.new w2 2 #[], Nat.le_refl _, Nat.zero_le _, rfl, rfl⟩⟩
  have d1 : (w2.alloc (.cells #[] 2)).cell? ⟨w.heap.size, 10, none⟩ = some (.slice p.sa p.settle.length p.sc) := by rw [(HX2.out.alloc _).cell]; rfl
  have HI2 := Lib.hid ((HPV.out.set_.below HB2.out).below (Below.allocN w2 (.cells #[] 2)))
  go_wp2_with (first
    | (at_builtin; refine append_row64 rfl (.tmp 12) (.tmp 14) rfl w2.heap.size w2.heap.size rfl hown p.sa p.sc p.settle rfl HI2.out (by omega) (by omega) (by rw [s1]; omega) ?_))
  intro g2 c2 w3 hr3 hg3
  have hb3 : Below w2.heap.size w2 w3 := grown_below hg3 (Below.allocN w2 _) (fun g hg => by injection hg with hg; omega)
  have hx3 := HX2.out.below hb3
  have hz3 := HZ2.out.below hb3
  have hm3 : RowI w3 w0.heap.size 3 (.slice (some ⟨g1, 0, none⟩) p.months.length c1) p.months := own_below HM2.out hb3
  have e1 : w3.cell? ⟨w.heap.size, 10, none⟩ = some (.slice p.sa p.settle.length p.sc) := by rw [hx3.cell]; rfl
  have f1 : w3.frozen? ⟨w.heap.size, 10, none⟩ = false := hx3.frozen 10
  have hc2 := own_cap hr3
  have hk4 : Keeps (fun g => g = w.heap.size) w3 (w3.setCell ⟨w.heap.size, 10, none⟩ (.slice (some ⟨g2, 0, none⟩) p.settle.length c2)) := (Keeps.refl (fun g => g = w.heap.size) w3).setCell (p := ⟨w.heap.size, 10, none⟩) (fun _ => rfl) _
  have HX4 : Hid (Blk (w3.setCell ⟨w.heap.size, 10, none⟩ (.slice (some ⟨g2, 0, none⟩) p.settle.length c2)) w.heap.size 25 #[.string p.code, .slice (some ⟨g1, 0, none⟩) p.months.length c1, .int .i64 p.tick, .int .i64 p.low, .int .i64 p.high, .int .i64 p.wide, .int .i64 p.rule, .int .i64 p.top, .int .i64 p.least, .int .i64 p.part, .slice (some ⟨g2, 0, none⟩) p.settle.length c2]) := Lib.hid (hx3.set_ 10 (.slice (some ⟨g2, 0, none⟩) p.settle.length c2))
  have HZ4 := Lib.hid (hz3.keeps hk4 (by show ¬ w.heap.size + 1 = w.heap.size; omega))
  have HM4 : Hid (RowI (w3.setCell ⟨w.heap.size, 10, none⟩ (.slice (some ⟨g2, 0, none⟩) p.settle.length c2)) w0.heap.size 3 (.slice (some ⟨g1, 0, none⟩) p.months.length c1) p.months) := Lib.hid (store_own hm3 hx3 (by decide) 10 _)
  have HS4 : Hid (RowI (w3.setCell ⟨w.heap.size, 10, none⟩ (.slice (some ⟨g2, 0, none⟩) p.settle.length c2)) w2.heap.size 2 (.slice (some ⟨g2, 0, none⟩) p.settle.length c2) p.settle) := Lib.hid (store_own hr3 hx3 (by decide) 10 _)
  have HB4 := Lib.hid ((HB2.out.trans (hb3.mono HB2.out.size)).trans (hk4.below (fun g hg => by have hg' : g = w.heap.size := hg; omega) (Nat.le_trans HB2.out.size hb3.size)))
  have HBC : Hid (g1 < w2.heap.size) := Lib.hid (own_lt HM2.out g1 rfl)
  have HBD : Hid (w0.heap.size ≤ g1) := Lib.hid (own_base HM2.out g1 rfl)
  clear hr3 hg3 hb3 hx3 hz3 hm3 hk4 hown d1 HI2 HX2 HZ2 HB2 HM2
  go_upto_block 0 with (fail)
  clear e1 f1
  generalize w3.setCell ⟨w.heap.size, 10, none⟩ (.slice (some ⟨g2, 0, none⟩) p.settle.length c2) = w4 at *
  have HBE : Hid (w2.heap.size ≤ g2) := Lib.hid (own_base HS4.out g2 rfl)
  have HMI := Lib.hid (HM4.out.ints HOM.out)
  have HSI := Lib.hid (HS4.out.ints HOS.out)
  have HT := Lib.hid (⟨HPV.out.tick, HPV.out.low, HPV.out.high, HPV.out.wide⟩ : i64ok p.tick ∧ i64ok p.low ∧ i64ok p.high ∧ i64ok p.wide)
  have hcz := HPV.out.code
  have hnn : i64ok n := ⟨hn1, hn2⟩
  have HNN := Lib.hid hnn
  clear HPV hnn
  -- what a store into the box leaves
  have HST : Hid (∀ (wy : World), Below w4.heap.size w4 wy → ∀ (i : Nat) (u : Value) (q : Prod), #[.string p.code, .slice (some ⟨g1, 0, none⟩) p.months.length c1, .int .i64 p.tick, .int .i64 p.low, .int .i64 p.high, .int .i64 p.wide, .int .i64 p.rule, .int .i64 p.top, .int .i64 p.least, .int .i64 p.part, .slice (some ⟨g2, 0, none⟩) p.settle.length c2].setIfInBounds i u = q.cells → (∀ wx, Ints wx (some ⟨g1, 0, none⟩) p.months → Ints wx (some ⟨g2, 0, none⟩) p.settle → PV wx q) → Off (w.heap.size + 1) q.ma → Off (w.heap.size + 1) q.sa → TB w (wy.setCell ⟨w.heap.size, i, none⟩ u) q) := Lib.hid fun wy hby i u q hc hpv hma hsa => by
    have hx := HX4.out.below hby
    have hk : Keeps (fun g => g = w.heap.size) wy (wy.setCell ⟨w.heap.size, i, none⟩ u) := (Keeps.refl (fun g => g = w.heap.size) wy).setCell (p := ⟨w.heap.size, i, none⟩) (fun _ => rfl) _
    have hm : RowI (wy.setCell ⟨w.heap.size, i, none⟩ u) w0.heap.size 3 (.slice (some ⟨g1, 0, none⟩) p.months.length c1) p.months := store_own (own_below HM4.out hby) hx (by decide) i u
    have hs : RowI (wy.setCell ⟨w.heap.size, i, none⟩ u) w2.heap.size 2 (.slice (some ⟨g2, 0, none⟩) p.settle.length c2) p.settle := store_own (own_below HS4.out hby) hx (by decide) i u
    exact ⟨hma, hsa, by rw [← hc]; exact hx.set_ i u, (HZ4.out.below hby).keeps hk (by show ¬ w.heap.size + 1 = w.heap.size; omega), hpv _ (hm.ints HOM.out) (hs.ints HOS.out), (HB4.out.trans (hby.mono HB4.out.size)).trans (hk.below (fun g hg => by have hg' : g = w.heap.size := hg; omega) (Nat.le_trans HB4.out.size hby.size))⟩
  go_cut [17] (fun _ wx => ∃ q : Prod, TB w wx q)
  case first =>
    have hd : how = 0 ∨ how = 1 ∨ how = 2 ∨ how = 3 ∨ how = 4 ∨ how = 5 ∨ how = 6 ∨ how = 7 ∨ how = 8 ∨ how = 9 ∨ how = 10 ∨ how = 11 ∨ how = 12 ∨ how = 13 ∨ (¬ how = 0 ∧ ¬ how = 1 ∧ ¬ how = 2 ∧ ¬ how = 3 ∧ ¬ how = 4 ∧ ¬ how = 5 ∧ ¬ how = 6 ∧ ¬ how = 7 ∧ ¬ how = 8 ∧ ¬ how = 9 ∧ ¬ how = 10 ∧ ¬ how = 11 ∧ ¬ how = 12 ∧ ¬ how = 13) := by omega
    rcases hd with rfl | rfl | rfl | rfl | rfl | rfl | rfl | rfl | rfl | rfl | rfl | rfl | rfl | rfl | hd
    · have HW0 := Lib.hid fun w => within_any n 0 3 w hn1 hn2 (by omega) (by omega) (by omega)
      have hwb := withI_bd n 0 3 (by omega)
      generalize withI n 0 3 = v at *
      have e : (w4.alloc (.cells #[.string ⟨#[]⟩, .string ⟨#[99, 108]⟩, .string ⟨#[65, 66, 67, 68, 69]⟩, .string ⟨#[206, 169]⟩] 9)).cell? ⟨w.heap.size, 0, none⟩ = some (.string p.code) := by rw [(HX4.out.alloc _).cell]; rfl
      have f : (w4.alloc (.cells #[.string ⟨#[]⟩, .string ⟨#[99, 108]⟩, .string ⟨#[65, 66, 67, 68, 69]⟩, .string ⟨#[206, 169]⟩] 9)).frozen? ⟨w.heap.size, 0, none⟩ = false := (HX4.out.alloc _).frozen 0
      have hv : v = 0 ∨ v = 1 ∨ v = 2 ∨ v = 3 := by omega
      clear hwb
      rcases hv with rfl | rfl | rfl | rfl
      all_goals
        go_wp2_with (go_at_call 13; refine (HW0.out _).mono ?_; rintro e w5 ⟨rfl, rfl⟩)
        go_meet
        exact ⟨⟨_, some ⟨g1, 0, none⟩, p.months, c1, p.tick, p.low, p.high, p.wide, p.rule, p.top, p.least, p.part, some ⟨g2, 0, none⟩, p.settle, c2⟩, HST.out _ (Below.allocN _ _) 0 _ ⟨_, some ⟨g1, 0, none⟩, p.months, c1, p.tick, p.low, p.high, p.wide, p.rule, p.top, p.least, p.part, some ⟨g2, 0, none⟩, p.settle, c2⟩ rfl (fun wx hm hs => ⟨Nat.le_of_ble_eq_true rfl, hm, hs, by show p.months.length ≤ 1000000; omega, by show p.settle.length ≤ 1000000; omega, HT.out.1, HT.out.2.1, HT.out.2.2.1, HT.out.2.2.2⟩) ⟨g1, 0, rfl, by have := HBB.out; have := HBD.out; omega⟩ ⟨g2, 0, rfl, by have := HBB.out; have := HBD.out; have := HBC.out; have := HBE.out; omega⟩⟩
    · obtain ⟨⟨x0, hc0⟩, hf0, hb0, hl0, hI0⟩ := RowI.setAt HM4.out 0 hm0 HOM.out n HNN.out
      have HI1 := Lib.hid hI0
      have hm0' : (0 : Int) < (p.months.length : Int) := by omega
      have e : w4.cell? ⟨w.heap.size, 1, none⟩ = some (.slice (some ⟨g1, 0, none⟩) p.months.length c1) := by rw [(HX4.out).cell]; rfl
      have f : w4.frozen? ⟨w.heap.size, 1, none⟩ = false := (HX4.out).frozen 1
      have HK1 : Hid (Keeps (fun g => g = g1) w4 (w4.setCell ⟨g1, 0, none⟩ (.int .i64 n))) := Lib.hid ((Keeps.refl (fun g => g = g1) w4).setCell (p := ⟨g1, 0, none⟩) (fun _ => rfl) _)
      clear hI0 hb0 hl0
      go_wp2_with fail
      clear e f hc0 hf0
      go_meet
      have hne1 : w.heap.size ≠ g1 := by have := HBB.out; have := HBD.out; omega
      have hne2 : w.heap.size + 1 ≠ g1 := by have := HBB.out; have := HBD.out; omega
      have hne3 : ∀ g, (Value.slice (some ⟨g2, 0, none⟩) p.settle.length c2).ownBlock = some g → ¬ g = g1 := fun g hg he => by (have hg' : some g2 = some g := hg); injection hg' with hg'; have := HBC.out; have := HBE.out; omega
      exact ⟨⟨p.code, some ⟨g1, 0, none⟩, p.months.set 0 n, c1, p.tick, p.low, p.high, p.wide, p.rule, p.top, p.least, p.part, some ⟨g2, 0, none⟩, p.settle, c2⟩, ⟨⟨g1, 0, rfl, by have := HBB.out; have := HBD.out; omega⟩, ⟨g2, 0, rfl, by have := HBB.out; have := HBD.out; have := HBC.out; have := HBE.out; omega⟩, by (have hx := HX4.out.keeps HK1.out hne1; unfold Prod.cells; simp only [List.length_set]; exact hx), HZ4.out.keeps HK1.out hne2, ⟨hcz, HI1.out, RowI.ints (own_keep HS4.out HK1.out hne3) HOS.out, by show (p.months.set 0 n).length ≤ 1000000; rw [List.length_set]; omega, by show p.settle.length ≤ 1000000; omega, HT.out.1, HT.out.2.1, HT.out.2.2.1, HT.out.2.2.2⟩, HB4.out.trans (HK1.out.below (fun g hg => by have hg' : g = g1 := hg; have := HBB.out; have := HBD.out; omega) HB4.out.size)⟩⟩
    · have e : w4.cell? ⟨w.heap.size, 2, none⟩ = some (.int .i64 p.tick) := by rw [(HX4.out).cell]; rfl
      have f : w4.frozen? ⟨w.heap.size, 2, none⟩ = false := (HX4.out).frozen 2
      go_wp2_with fail
      go_meet
      exact ⟨⟨p.code, some ⟨g1, 0, none⟩, p.months, c1, n, p.low, p.high, p.wide, p.rule, p.top, p.least, p.part, some ⟨g2, 0, none⟩, p.settle, c2⟩, HST.out _ (Below.refl _ _) 2 (.int .i64 n) ⟨p.code, some ⟨g1, 0, none⟩, p.months, c1, n, p.low, p.high, p.wide, p.rule, p.top, p.least, p.part, some ⟨g2, 0, none⟩, p.settle, c2⟩ rfl (fun wx hm hs => ⟨hcz, hm, hs, by show p.months.length ≤ 1000000; omega, by show p.settle.length ≤ 1000000; omega, HNN.out, HT.out.2.1, HT.out.2.2.1, HT.out.2.2.2⟩) ⟨g1, 0, rfl, by have := HBB.out; have := HBD.out; omega⟩ ⟨g2, 0, rfl, by have := HBB.out; have := HBD.out; have := HBC.out; have := HBE.out; omega⟩⟩
    · have e : w4.cell? ⟨w.heap.size, 3, none⟩ = some (.int .i64 p.low) := by rw [(HX4.out).cell]; rfl
      have f : w4.frozen? ⟨w.heap.size, 3, none⟩ = false := (HX4.out).frozen 3
      go_wp2_with fail
      go_meet
      exact ⟨⟨p.code, some ⟨g1, 0, none⟩, p.months, c1, p.tick, n, p.high, p.wide, p.rule, p.top, p.least, p.part, some ⟨g2, 0, none⟩, p.settle, c2⟩, HST.out _ (Below.refl _ _) 3 (.int .i64 n) ⟨p.code, some ⟨g1, 0, none⟩, p.months, c1, p.tick, n, p.high, p.wide, p.rule, p.top, p.least, p.part, some ⟨g2, 0, none⟩, p.settle, c2⟩ rfl (fun wx hm hs => ⟨hcz, hm, hs, by show p.months.length ≤ 1000000; omega, by show p.settle.length ≤ 1000000; omega, HT.out.1, HNN.out, HT.out.2.2.1, HT.out.2.2.2⟩) ⟨g1, 0, rfl, by have := HBB.out; have := HBD.out; omega⟩ ⟨g2, 0, rfl, by have := HBB.out; have := HBD.out; have := HBC.out; have := HBE.out; omega⟩⟩
    · have e : w4.cell? ⟨w.heap.size, 4, none⟩ = some (.int .i64 p.high) := by rw [(HX4.out).cell]; rfl
      have f : w4.frozen? ⟨w.heap.size, 4, none⟩ = false := (HX4.out).frozen 4
      go_wp2_with fail
      go_meet
      exact ⟨⟨p.code, some ⟨g1, 0, none⟩, p.months, c1, p.tick, p.low, n, p.wide, p.rule, p.top, p.least, p.part, some ⟨g2, 0, none⟩, p.settle, c2⟩, HST.out _ (Below.refl _ _) 4 (.int .i64 n) ⟨p.code, some ⟨g1, 0, none⟩, p.months, c1, p.tick, p.low, n, p.wide, p.rule, p.top, p.least, p.part, some ⟨g2, 0, none⟩, p.settle, c2⟩ rfl (fun wx hm hs => ⟨hcz, hm, hs, by show p.months.length ≤ 1000000; omega, by show p.settle.length ≤ 1000000; omega, HT.out.1, HT.out.2.1, HNN.out, HT.out.2.2.2⟩) ⟨g1, 0, rfl, by have := HBB.out; have := HBD.out; omega⟩ ⟨g2, 0, rfl, by have := HBB.out; have := HBD.out; have := HBC.out; have := HBE.out; omega⟩⟩
    · have e : w4.cell? ⟨w.heap.size, 5, none⟩ = some (.int .i64 p.wide) := by rw [(HX4.out).cell]; rfl
      have f : w4.frozen? ⟨w.heap.size, 5, none⟩ = false := (HX4.out).frozen 5
      go_wp2_with fail
      go_meet
      exact ⟨⟨p.code, some ⟨g1, 0, none⟩, p.months, c1, p.tick, p.low, p.high, n, p.rule, p.top, p.least, p.part, some ⟨g2, 0, none⟩, p.settle, c2⟩, HST.out _ (Below.refl _ _) 5 (.int .i64 n) ⟨p.code, some ⟨g1, 0, none⟩, p.months, c1, p.tick, p.low, p.high, n, p.rule, p.top, p.least, p.part, some ⟨g2, 0, none⟩, p.settle, c2⟩ rfl (fun wx hm hs => ⟨hcz, hm, hs, by show p.months.length ≤ 1000000; omega, by show p.settle.length ≤ 1000000; omega, HT.out.1, HT.out.2.1, HT.out.2.2.1, HNN.out⟩) ⟨g1, 0, rfl, by have := HBB.out; have := HBD.out; omega⟩ ⟨g2, 0, rfl, by have := HBB.out; have := HBD.out; have := HBC.out; have := HBE.out; omega⟩⟩
    · have e : w4.cell? ⟨w.heap.size, 6, none⟩ = some (.int .i64 p.rule) := by rw [(HX4.out).cell]; rfl
      have f : w4.frozen? ⟨w.heap.size, 6, none⟩ = false := (HX4.out).frozen 6
      go_wp2_with fail
      go_meet
      exact ⟨⟨p.code, some ⟨g1, 0, none⟩, p.months, c1, p.tick, p.low, p.high, p.wide, n, p.top, p.least, p.part, some ⟨g2, 0, none⟩, p.settle, c2⟩, HST.out _ (Below.refl _ _) 6 (.int .i64 n) ⟨p.code, some ⟨g1, 0, none⟩, p.months, c1, p.tick, p.low, p.high, p.wide, n, p.top, p.least, p.part, some ⟨g2, 0, none⟩, p.settle, c2⟩ rfl (fun wx hm hs => ⟨hcz, hm, hs, by show p.months.length ≤ 1000000; omega, by show p.settle.length ≤ 1000000; omega, HT.out.1, HT.out.2.1, HT.out.2.2.1, HT.out.2.2.2⟩) ⟨g1, 0, rfl, by have := HBB.out; have := HBD.out; omega⟩ ⟨g2, 0, rfl, by have := HBB.out; have := HBD.out; have := HBC.out; have := HBE.out; omega⟩⟩
    · have e : w4.cell? ⟨w.heap.size, 7, none⟩ = some (.int .i64 p.top) := by rw [(HX4.out).cell]; rfl
      have f : w4.frozen? ⟨w.heap.size, 7, none⟩ = false := (HX4.out).frozen 7
      go_wp2_with fail
      go_meet
      exact ⟨⟨p.code, some ⟨g1, 0, none⟩, p.months, c1, p.tick, p.low, p.high, p.wide, p.rule, n, p.least, p.part, some ⟨g2, 0, none⟩, p.settle, c2⟩, HST.out _ (Below.refl _ _) 7 (.int .i64 n) ⟨p.code, some ⟨g1, 0, none⟩, p.months, c1, p.tick, p.low, p.high, p.wide, p.rule, n, p.least, p.part, some ⟨g2, 0, none⟩, p.settle, c2⟩ rfl (fun wx hm hs => ⟨hcz, hm, hs, by show p.months.length ≤ 1000000; omega, by show p.settle.length ≤ 1000000; omega, HT.out.1, HT.out.2.1, HT.out.2.2.1, HT.out.2.2.2⟩) ⟨g1, 0, rfl, by have := HBB.out; have := HBD.out; omega⟩ ⟨g2, 0, rfl, by have := HBB.out; have := HBD.out; have := HBC.out; have := HBE.out; omega⟩⟩
    · have e : w4.cell? ⟨w.heap.size, 8, none⟩ = some (.int .i64 p.least) := by rw [(HX4.out).cell]; rfl
      have f : w4.frozen? ⟨w.heap.size, 8, none⟩ = false := (HX4.out).frozen 8
      go_wp2_with fail
      go_meet
      exact ⟨⟨p.code, some ⟨g1, 0, none⟩, p.months, c1, p.tick, p.low, p.high, p.wide, p.rule, p.top, n, p.part, some ⟨g2, 0, none⟩, p.settle, c2⟩, HST.out _ (Below.refl _ _) 8 (.int .i64 n) ⟨p.code, some ⟨g1, 0, none⟩, p.months, c1, p.tick, p.low, p.high, p.wide, p.rule, p.top, n, p.part, some ⟨g2, 0, none⟩, p.settle, c2⟩ rfl (fun wx hm hs => ⟨hcz, hm, hs, by show p.months.length ≤ 1000000; omega, by show p.settle.length ≤ 1000000; omega, HT.out.1, HT.out.2.1, HT.out.2.2.1, HT.out.2.2.2⟩) ⟨g1, 0, rfl, by have := HBB.out; have := HBD.out; omega⟩ ⟨g2, 0, rfl, by have := HBB.out; have := HBD.out; have := HBC.out; have := HBE.out; omega⟩⟩
    · have e : w4.cell? ⟨w.heap.size, 9, none⟩ = some (.int .i64 p.part) := by rw [(HX4.out).cell]; rfl
      have f : w4.frozen? ⟨w.heap.size, 9, none⟩ = false := (HX4.out).frozen 9
      go_wp2_with fail
      go_meet
      exact ⟨⟨p.code, some ⟨g1, 0, none⟩, p.months, c1, p.tick, p.low, p.high, p.wide, p.rule, p.top, p.least, n, some ⟨g2, 0, none⟩, p.settle, c2⟩, HST.out _ (Below.refl _ _) 9 (.int .i64 n) ⟨p.code, some ⟨g1, 0, none⟩, p.months, c1, p.tick, p.low, p.high, p.wide, p.rule, p.top, p.least, n, some ⟨g2, 0, none⟩, p.settle, c2⟩ rfl (fun wx hm hs => ⟨hcz, hm, hs, by show p.months.length ≤ 1000000; omega, by show p.settle.length ≤ 1000000; omega, HT.out.1, HT.out.2.1, HT.out.2.2.1, HT.out.2.2.2⟩) ⟨g1, 0, rfl, by have := HBB.out; have := HBD.out; omega⟩ ⟨g2, 0, rfl, by have := HBB.out; have := HBD.out; have := HBC.out; have := HBE.out; omega⟩⟩
    · obtain ⟨m, hm⟩ : ∃ m, p.settle.length = m + 1 := ⟨p.settle.length - 1, by omega⟩
      obtain ⟨⟨x0, hc0⟩, hf0, hb0, hl0, hI0⟩ := RowI.setAt HS4.out m (by omega) HOS.out n HNN.out
      have HI1 := Lib.hid hI0
      have hx1 : IntKind.i64.wrap ((p.settle.length : Int) - 1) = (m : Int) := by rw [hm]; exact (IntWalk.i64_in _ (by omega)).trans (by omega)
      have hx2 : (m : Int) < (p.settle.length : Int) := by omega
      have HM := Lib.hid hm
      have e : w4.cell? ⟨w.heap.size, 10, none⟩ = some (.slice (some ⟨g2, 0, none⟩) p.settle.length c2) := by rw [(HX4.out).cell]; rfl
      have f : w4.frozen? ⟨w.heap.size, 10, none⟩ = false := (HX4.out).frozen 10
      have HK1 : Hid (Keeps (fun g => g = g2) w4 (w4.setCell ⟨g2, m, none⟩ (.int .i64 n))) := Lib.hid ((Keeps.refl (fun g => g = g2) w4).setCell (p := ⟨g2, m, none⟩) (fun _ => rfl) _)
      clear hI0 hb0 hl0 hm
      go_wp2_with fail
      clear e f hc0 hf0
      go_meet
      have hne1 : w.heap.size ≠ g2 := by have := HBB.out; have := HBD.out; have := HBC.out; have := HBE.out; omega
      have hne2 : w.heap.size + 1 ≠ g2 := by have := HBB.out; have := HBD.out; have := HBC.out; have := HBE.out; omega
      have hne3 : ∀ g, (Value.slice (some ⟨g1, 0, none⟩) p.months.length c1).ownBlock = some g → ¬ g = g2 := fun g hg he => by (have hg' : some g1 = some g := hg); injection hg' with hg'; have := HBC.out; have := HBE.out; omega
      exact ⟨⟨p.code, some ⟨g1, 0, none⟩, p.months, c1, p.tick, p.low, p.high, p.wide, p.rule, p.top, p.least, p.part, some ⟨g2, 0, none⟩, p.settle.set m n, c2⟩, ⟨⟨g1, 0, rfl, by have := HBB.out; have := HBD.out; omega⟩, ⟨g2, 0, rfl, by have := HBB.out; have := HBD.out; have := HBC.out; have := HBE.out; omega⟩, by (have hx := HX4.out.keeps HK1.out hne1; unfold Prod.cells; simp only [List.length_set]; exact hx), HZ4.out.keeps HK1.out hne2, ⟨hcz, RowI.ints (own_keep HM4.out HK1.out hne3) HOM.out, HI1.out, by show p.months.length ≤ 1000000; omega, by show (p.settle.set m n).length ≤ 1000000; rw [List.length_set]; omega, HT.out.1, HT.out.2.1, HT.out.2.2.1, HT.out.2.2.2⟩, HB4.out.trans (HK1.out.below (fun g hg => by have hg' : g = g2 := hg; have := HBB.out; have := HBD.out; have := HBC.out; have := HBE.out; omega) HB4.out.size)⟩⟩
    · have hx2 : (1 : Int) ≤ (p.settle.length : Int) := by omega
      have hx3 : ¬ c2 - 1 = 0 := by omega
      have hx4 : (c2 - 1 == 0) = false := by rw [beq_eq_false_iff_ne]; exact hx3
      have HM : Hid (p.settle.tail.length = p.settle.length - 1) := Lib.hid List.length_tail
      have e : w4.cell? ⟨w.heap.size, 10, none⟩ = some (.slice (some ⟨g2, 0, none⟩) p.settle.length c2) := by rw [(HX4.out).cell]; rfl
      have f : w4.frozen? ⟨w.heap.size, 10, none⟩ = false := (HX4.out).frozen 10
      go_wp2_with fail
      go_meet
      exact ⟨⟨p.code, some ⟨g1, 0, none⟩, p.months, c1, p.tick, p.low, p.high, p.wide, p.rule, p.top, p.least, p.part, some ⟨g2, 1, none⟩, p.settle.tail, (c2 - 1)⟩, HST.out _ (Below.refl _ _) 10 (_) ⟨p.code, some ⟨g1, 0, none⟩, p.months, c1, p.tick, p.low, p.high, p.wide, p.rule, p.top, p.least, p.part, some ⟨g2, 1, none⟩, p.settle.tail, (c2 - 1)⟩ (by unfold Prod.cells; rw [HM.out]; rfl) (fun wx hm hs => ⟨hcz, hm, hs.tail_, by show p.months.length ≤ 1000000; omega, by show p.settle.tail.length ≤ 1000000; rw [HM.out]; omega, HT.out.1, HT.out.2.1, HT.out.2.2.1, HT.out.2.2.2⟩) ⟨g1, 0, rfl, by have := HBB.out; have := HBD.out; omega⟩ ⟨g2, 1, rfl, by have := HBB.out; have := HBD.out; have := HBC.out; have := HBE.out; omega⟩⟩
    · have hx2 : (1 : Int) ≤ (p.months.length : Int) := by omega
      have HM : Hid ((p.months.take 1).length = 1) := Lib.hid (by rw [List.length_take]; omega)
      have e : w4.cell? ⟨w.heap.size, 1, none⟩ = some (.slice (some ⟨g1, 0, none⟩) p.months.length c1) := by rw [(HX4.out).cell]; rfl
      have f : w4.frozen? ⟨w.heap.size, 1, none⟩ = false := (HX4.out).frozen 1
      go_wp2_with fail
      go_meet
      exact ⟨⟨p.code, some ⟨g1, 0, none⟩, p.months.take 1, c1, p.tick, p.low, p.high, p.wide, p.rule, p.top, p.least, p.part, some ⟨g2, 0, none⟩, p.settle, c2⟩, HST.out _ (Below.refl _ _) 1 (_) ⟨p.code, some ⟨g1, 0, none⟩, p.months.take 1, c1, p.tick, p.low, p.high, p.wide, p.rule, p.top, p.least, p.part, some ⟨g2, 0, none⟩, p.settle, c2⟩ (by unfold Prod.cells; rw [HM.out]; rfl) (fun wx hm hs => ⟨hcz, hm.take 1, hs, by show (p.months.take 1).length ≤ 1000000; rw [HM.out]; omega, by show p.settle.length ≤ 1000000; omega, HT.out.1, HT.out.2.1, HT.out.2.2.1, HT.out.2.2.2⟩) ⟨g1, 0, rfl, by have := HBB.out; have := HBD.out; omega⟩ ⟨g2, 0, rfl, by have := HBB.out; have := HBD.out; have := HBC.out; have := HBE.out; omega⟩⟩
    · obtain ⟨m, hm⟩ : ∃ m, p.months.length = m + 1 := ⟨p.months.length - 1, by omega⟩
      obtain ⟨y, hy⟩ : ∃ y, p.months[m]? = some y := ⟨_, List.getElem?_eq_getElem (by omega)⟩
      obtain ⟨hyo, b', off', he, _, hc0⟩ := HMI.out m y hy
      injection he with he
      injection he with he1 he2
      subst he1
      subst he2
      have hx1 : IntKind.i64.wrap ((p.months.length : Int) - 1) = (m : Int) := by rw [hm]; exact (IntWalk.i64_in _ (by omega)).trans (by omega)
      have hx2 : (m : Int) < (p.months.length : Int) := by omega
      have HM := Lib.hid hm
      have e : w4.cell? ⟨w.heap.size, 1, none⟩ = some (.slice (some ⟨g1, 0, none⟩) p.months.length c1) := by rw [(HX4.out).cell]; rfl
      have f : w4.frozen? ⟨w.heap.size, 1, none⟩ = false := (HX4.out).frozen 1
      clear hm hy
      rw [Nat.zero_add] at hc0
      go_wp2_with fail
      refine wp_region_E (S := fun w' => w'.cell? ⟨w.heap.size, 1, none⟩ = some (.slice (some ⟨g1, 0, none⟩) p.months.length c1)) (by kernel_rfl) e (fun hHeld => ?_)
      refine wpE_take (i := 0) (oi := ?oi1) (v := ?v1) ?hi1 (by kernel_rfl) (by kernel_rfl) (by kernel_rfl) (by kernel_rfl) ?hQ1 ?hy1 (by assumption) ?rest1
      case hi1 => (simp only [List.getElem?_toArray]; rfl)
      case hQ1 => exact fun _ _ _ h => h
      case hy1 => exact Or.inl ⟨by rfl, by (intro w hSw; (try dsimp only at hSw); go_simp; try with_reducible rfl)⟩
      try simp only [Act.put, List.setIfInBounds_toArray, List.set_cons_zero, List.set_cons_succ]
      refine wpE_take (i := 1) (oi := ?oi2) (v := ?v2) ?hi2 (by kernel_rfl) (by kernel_rfl) (by kernel_rfl) (by kernel_rfl) ?hQ2 ?hy2 (by assumption) ?rest2
      case hi2 => (simp only [List.getElem?_toArray]; rfl)
      case hQ2 => exact fun _ _ _ h => h
      case hy2 => exact Or.inl ⟨by rfl, by (intro w hSw; (try dsimp only at hSw); go_simp; try with_reducible rfl)⟩
      try simp only [Act.put, List.setIfInBounds_toArray, List.set_cons_zero, List.set_cons_succ]
      refine wpE_take (i := 2) (oi := ?oi3) (v := ?v3) ?hi3 (by kernel_rfl) (by kernel_rfl) (by kernel_rfl) (by kernel_rfl) ?hQ3 ?hy3 (by assumption) ?rest3
      case hi3 => (simp only [List.getElem?_toArray]; rfl)
      case hQ3 => exact fun _ _ _ h => h
      case hy3 => exact Or.inl ⟨by rfl, by (intro w hSw; (try dsimp only at hSw); go_simp; try with_reducible rfl)⟩
      try simp only [Act.put, List.setIfInBounds_toArray, List.set_cons_zero, List.set_cons_succ]
      refine wpE_take (i := 3) (oi := ?oi4) (v := ?v4) ?hi4 (by kernel_rfl) (by kernel_rfl) (by kernel_rfl) (by kernel_rfl) ?hQ4 ?hy4 (by assumption) ?rest4
      case hi4 => (simp only [List.getElem?_toArray]; rfl)
      case hQ4 => exact fun _ _ _ h => h
      case hy4 => exact Or.inl ⟨by rfl, by (intro w hSw; (try dsimp only at hSw); go_simp; try with_reducible rfl)⟩
      try simp only [Act.put, List.setIfInBounds_toArray, List.set_cons_zero, List.set_cons_succ]
      refine wpE_take (i := 4) (oi := ?oi5) (v := ?v5) ?hi5 (by kernel_rfl) (by kernel_rfl) (by kernel_rfl) (by kernel_rfl) ?hQ5 ?hy5 (by assumption) ?rest5
      case hi5 => (simp only [List.getElem?_toArray]; rfl)
      case hQ5 => exact fun _ _ _ h => h
      case hy5 => exact Or.inl ⟨by rfl, by (intro w hSw; (try dsimp only at hSw); go_simp; try with_reducible rfl)⟩
      try simp only [Act.put, List.setIfInBounds_toArray, List.set_cons_zero, List.set_cons_succ]
      refine wpE_take (i := 5) (oi := ?oi6) (v := ?v6) ?hi6 (by kernel_rfl) (by kernel_rfl) (by kernel_rfl) (by kernel_rfl) ?hQ6 ?hy6 (by assumption) ?rest6
      case hi6 => (simp only [List.getElem?_toArray]; rfl)
      case hQ6 => exact fun _ _ _ h => h
      case hy6 => exact Or.inl ⟨by rfl, by (intro w hSw; (try dsimp only at hSw); go_simp; try with_reducible rfl)⟩
      try simp only [Act.put, List.setIfInBounds_toArray, List.set_cons_zero, List.set_cons_succ]
      refine wpE_take (i := 6) (oi := ?oi7) (v := ?v7) ?hi7 (by kernel_rfl) (by kernel_rfl) (by kernel_rfl) (by kernel_rfl) ?hQ7 ?hy7 (by assumption) ?rest7
      case hi7 => (simp only [List.getElem?_toArray]; rfl)
      case hQ7 => exact fun _ _ _ h => h
      case hy7 => exact Or.inl ⟨by rfl, by (intro w hSw; (try dsimp only at hSw); go_simp; try with_reducible rfl)⟩
      try simp only [Act.put, List.setIfInBounds_toArray, List.set_cons_zero, List.set_cons_succ]
      refine wpE_take (i := 7) (oi := ?oi8) (v := ?v8) ?hi8 (by kernel_rfl) (by kernel_rfl) (by kernel_rfl) (by kernel_rfl) ?hQ8 ?hy8 (by assumption) ?rest8
      case hi8 => (simp only [List.getElem?_toArray]; rfl)
      case hQ8 => exact fun _ _ _ h => h
      case hy8 => exact Or.inl ⟨by rfl, by (intro w hSw; (try dsimp only at hSw); go_simp; try with_reducible rfl)⟩
      try simp only [Act.put, List.setIfInBounds_toArray, List.set_cons_zero, List.set_cons_succ]
      refine wpE_take (i := 8) (oi := ?oi9) (v := ?v9) ?hi9 (by kernel_rfl) (by kernel_rfl) (by kernel_rfl) (by kernel_rfl) ?hQ9 ?hy9 (by assumption) ?rest9
      case hi9 => (simp only [List.getElem?_toArray]; rfl)
      case hQ9 => exact fun _ _ _ h => h
      case hy9 => exact Or.inl ⟨by rfl, by (intro w hSw; (try dsimp only at hSw); go_simp; try with_reducible rfl)⟩
      try simp only [Act.put, List.setIfInBounds_toArray, List.set_cons_zero, List.set_cons_succ]
      refine wpE_one (i := 9) (o := ?o11) ?ho11 (by kernel_rfl) (fun K hK => ?_)
      case ho11 => (simp only [List.getElem?_toArray]; rfl)
      go_simp
      refine hK.out _ _ e (fun hHeld => ?_)
      clear hK K
      refine wpE_one (i := 10) (o := ?o12) ?ho12 (by kernel_rfl) (fun K hK => ?_)
      case ho12 => (simp only [List.getElem?_toArray]; rfl)
      go_simp
      have hrw : RowI w4.drew w0.heap.size 3 (.slice (some ⟨g1, 0, none⟩) p.months.length c1) p.months := own_below HM4.out (Below.drewN_of w4 1)
      have hra : RowI ((w4.alloc (.cells #[.int .i64 y] 3)).drew) w0.heap.size 3 (.slice (some ⟨g1, 0, none⟩) p.months.length c1) p.months := own_below hrw (Below.allocN w4.drew _)
      have hxa : Blk w4.drew w.heap.size 25 _ := HX4.out.drew
      have hza : Blk w4.drew (w.heap.size + 1) 25 _ := HZ4.out.drew
      have hsa : RowI w4.drew w2.heap.size 2 (.slice (some ⟨g2, 0, none⟩) p.settle.length c2) p.settle := own_below HS4.out (Below.drewN_of w4 1)
      have e2 : (w4.alloc (.cells #[.int .i64 y] 3)).drew.cell? ⟨w.heap.size, 1, none⟩ = some (.slice (some ⟨g1, 0, none⟩) p.months.length c1) := ((hxa.alloc (.cells #[.int .i64 y] 3)).cell 1).trans rfl
      have hcy : (w4.alloc (.cells #[.int .i64 y] 3)).drew.cell? ⟨w4.heap.size, 0, none⟩ = some (.int .i64 y) := by
        have := (Blk.new w4 3 #[.int .i64 y]).cell 0
        exact this
      have hle0 : w0.heap.size ≤ (w4.alloc (.cells #[.int .i64 y] 3)).drew.heap.size := by
        have h1 := HBD.out
        have h2 := own_lt HM4.out g1 rfl
        have h3 : (w4.alloc (.cells #[.int .i64 y] 3)).drew.heap.size = w4.heap.size + 1 := s1 w4 _
        omega
      refine hK.out _ _ e2 (fun hHeld => ?_)
      clear hK K
      refine wpE_one (i := 11) (o := ?o13) ?ho13 (by kernel_rfl) (fun K hK => ?_)
      case ho13 => (simp only [List.getElem?_toArray]; rfl)
      refine step_push_int rfl (.tmp 89) (.tmp 98) rfl w0.heap.size (some ⟨g1, 0, none⟩) c1 p.months.length p.months rfl rfl hra w4.heap.size y rfl hcy (by omega) hle0 ?_
      intro g' cap w' hr hg
      have hxb : Blk w' w.heap.size 25 _ := grow_blk hrw hg hxa (by decide)
      have hzb : Blk w' (w.heap.size + 1) 25 _ := grow_blk hrw hg hza (by decide)
      have hsb := grow_own hrw hg hsa (by decide)
      have hfe : w'.cell? ⟨w.heap.size, 1, none⟩ = some (.slice (some ⟨g1, 0, none⟩) p.months.length c1) := by rw [hxb.cell]; rfl
      refine hK.out _ _ hfe (fun hHeld => ?_)
      clear hK K
      refine wpE_take (i := 12) (oi := ?oi10) (v := ?v10) ?hi10 (by kernel_rfl) (by kernel_rfl) (by kernel_rfl) (by kernel_rfl) ?hQ10 ?hy10 (by assumption) ?rest10
      case hi10 => (simp only [List.getElem?_toArray]; rfl)
      case hQ10 => exact fun _ _ _ h => h
      case hy10 => exact Or.inl ⟨by rfl, by (intro w hSw; (try dsimp only at hSw); go_simp; try with_reducible rfl)⟩
      try simp only [Act.put, List.setIfInBounds_toArray, List.set_cons_zero, List.set_cons_succ]
      have hf : w'.frozen? ⟨w.heap.size, 1, none⟩ = false := hxb.frozen 1
      refine wpE_last (i := 13) (o := ?o14) ?ho14 (by kernel_rfl) (by kernel_rfl) (by kernel_rfl) (fun K hK => ?_)
      case ho14 => (simp only [List.getElem?_toArray]; rfl)
      go_simp
      refine hK.out _ _ ?_
      clear hK K
      go_wp2_with fail
      clear e f hfe hf
      go_meet
      have hbw : Below w.heap.size w w' := grown_below hg ((HB4.out.trans ((Below.drewN_of w4 1).mono HB4.out.size)).alloc HB4.out.size (.cells #[.int .i64 y] 3)) (fun g hg => by (have hg' : some g1 = some g := hg); injection hg' with hg'; have := HBB.out; have := HBD.out; omega)
      have hk : Keeps (fun g => g = w.heap.size) w' (w'.setCell ⟨w.heap.size, 1, none⟩ (.slice (some ⟨g', 0, none⟩) (p.months.length + 1) cap)) := (Keeps.refl (fun g => g = w.heap.size) w').setCell (p := ⟨w.heap.size, 1, none⟩) (fun _ => rfl) _
      have hyl : ∀ x ∈ p.months ++ [y], i64ok x := fun x hx => by
        rw [List.mem_append] at hx
        rcases hx with hx | hx
        · exact HOM.out x hx
        · rw [List.mem_singleton] at hx; rw [hx]; exact hyo
      have hmm : RowI (w'.setCell ⟨w.heap.size, 1, none⟩ (.slice (some ⟨g', 0, none⟩) (p.months.length + 1) cap)) w0.heap.size 3 (.slice (some ⟨g', 0, none⟩) (p.months.length + 1) cap) (p.months ++ [y]) := store_own hr hxb (by decide) 1 _
      have hgb := own_base hr g' rfl
      exact ⟨⟨p.code, some ⟨g', 0, none⟩, p.months ++ [y], cap, p.tick, p.low, p.high, p.wide, p.rule, p.top, p.least, p.part, some ⟨g2, 0, none⟩, p.settle, c2⟩, ⟨⟨g', 0, rfl, by have := HBB.out; omega⟩, ⟨g2, 0, rfl, by have := HBB.out; have := HBD.out; have := HBC.out; have := HBE.out; omega⟩, by (have hx := hxb.set_ 1 (.slice (some ⟨g', 0, none⟩) (p.months.length + 1) cap); unfold Prod.cells; simp only [List.length_append, List.length_cons, List.length_nil]; exact hx), hzb.keeps hk (by show ¬ w.heap.size + 1 = w.heap.size; omega), ⟨hcz, hmm.ints hyl, RowI.ints (store_own hsb hxb (by decide) 1 _) HOS.out, by show (p.months ++ [y]).length ≤ 1000000; rw [List.length_append]; show p.months.length + 1 ≤ 1000000; omega, by show p.settle.length ≤ 1000000; omega, HT.out.1, HT.out.2.1, HT.out.2.2.1, HT.out.2.2.2⟩, hbw.trans (hk.below (fun g hg => by have hg' : g = w.heap.size := hg; omega) hbw.size)⟩⟩
    · have y0 : (how == 0) = false := by rw [beq_eq_false_iff_ne]; omega
      have y1 : (how == 1) = false := by rw [beq_eq_false_iff_ne]; omega
      have y2 : (how == 2) = false := by rw [beq_eq_false_iff_ne]; omega
      have y3 : (how == 3) = false := by rw [beq_eq_false_iff_ne]; omega
      have y4 : (how == 4) = false := by rw [beq_eq_false_iff_ne]; omega
      have y5 : (how == 5) = false := by rw [beq_eq_false_iff_ne]; omega
      have y6 : (how == 6) = false := by rw [beq_eq_false_iff_ne]; omega
      have y7 : (how == 7) = false := by rw [beq_eq_false_iff_ne]; omega
      have y8 : (how == 8) = false := by rw [beq_eq_false_iff_ne]; omega
      have y9 : (how == 9) = false := by rw [beq_eq_false_iff_ne]; omega
      have y10 : (how == 10) = false := by rw [beq_eq_false_iff_ne]; omega
      have y11 : (how == 11) = false := by rw [beq_eq_false_iff_ne]; omega
      have y12 : (how == 12) = false := by rw [beq_eq_false_iff_ne]; omega
      have y13 : (how == 13) = false := by rw [beq_eq_false_iff_ne]; omega
      clear hd
      go_wp2_with fail
      go_meet
      exact ⟨⟨p.code, some ⟨g1, 0, none⟩, p.months, c1, p.tick, p.low, p.high, p.wide, p.rule, p.top, p.least, p.part, some ⟨g2, 0, none⟩, p.settle, c2⟩, ⟨⟨g1, 0, rfl, by have := HBB.out; have := HBD.out; omega⟩, ⟨g2, 0, rfl, by have := HBB.out; have := HBD.out; have := HBC.out; have := HBE.out; omega⟩, HX4.out, HZ4.out, ⟨hcz, HM4.out.ints HOM.out, HS4.out.ints HOS.out, by show p.months.length ≤ 1000000; omega, by show p.settle.length ≤ 1000000; omega, HT.out.1, HT.out.2.1, HT.out.2.2.1, HT.out.2.2.2⟩, HB4.out⟩⟩
  case rest =>
    obtain ⟨q, hT⟩ := hcut
    clear HM4 HS4 HX4 HZ4 HB4 HMI HSI HST HT HNN HBB HBC HBD HBE HOM HOS hcz hc1 hc2 hm0 hm1 hs0 hs1
    obtain ⟨b0, b1, b2, b3, b4, b5, b6, b7, b8, b9, b10⟩ := PC.of5 hT.blk
    have hg : ∀ i, wc.cell? ⟨w.heap.size + 1, i, none⟩ = zeroP.cells[i]? := fun i => hT.res.cell i
    have d0 := hg 0
    have d1 := hg 1
    have d2 := hg 2
    have d3 := hg 3
    have d4 := hg 4
    have d5 := hg 5
    have d6 := hg 6
    have d7 := hg 7
    have d8 := hg 8
    have d9 := hg 9
    have d10 := hg 10
    simp only [zeroP, Prod.cells, List.length_nil, List.getElem?_toArray, List.getElem?_cons_zero, List.getElem?_cons_succ] at d0 d1 d2 d3 d4 d5 d6 d7 d8 d9 d10
    have fz : ∀ i, wc.frozen? ⟨w.heap.size + 1, i, none⟩ = false := fun i => hT.res.frozen i
    have HT := Lib.hid hT
    clear hg hT
    go_wp2_with fail
    clear b0 b1 b2 b3 b4 b5 b6 b7 b8 b9 b10 d0 d1 d2 d3 d4 d5 d6 d7 d8 d9 d10 fz
    have hk : Keeps (fun g => g = w.heap.size + 1) wc (((((((((((wc.setCell ⟨w.heap.size + 1, 0, none⟩ (.string q.code)).setCell ⟨w.heap.size + 1, 1, none⟩ (.slice q.ma q.months.length q.mc)).setCell ⟨w.heap.size + 1, 2, none⟩ (.int .i64 q.tick)).setCell ⟨w.heap.size + 1, 3, none⟩ (.int .i64 q.low)).setCell ⟨w.heap.size + 1, 4, none⟩ (.int .i64 q.high)).setCell ⟨w.heap.size + 1, 5, none⟩ (.int .i64 q.wide)).setCell ⟨w.heap.size + 1, 6, none⟩ (.int .i64 q.rule)).setCell ⟨w.heap.size + 1, 7, none⟩ (.int .i64 q.top)).setCell ⟨w.heap.size + 1, 8, none⟩ (.int .i64 q.least)).setCell ⟨w.heap.size + 1, 9, none⟩ (.int .i64 q.part)).setCell ⟨w.heap.size + 1, 10, none⟩ (.slice q.sa q.settle.length q.sc)) := Keeps.fill _ _ _ _ _ _ _ _ _ _ _ _ _
    have hB : Blk (((((((((((wc.setCell ⟨w.heap.size + 1, 0, none⟩ (.string q.code)).setCell ⟨w.heap.size + 1, 1, none⟩ (.slice q.ma q.months.length q.mc)).setCell ⟨w.heap.size + 1, 2, none⟩ (.int .i64 q.tick)).setCell ⟨w.heap.size + 1, 3, none⟩ (.int .i64 q.low)).setCell ⟨w.heap.size + 1, 4, none⟩ (.int .i64 q.high)).setCell ⟨w.heap.size + 1, 5, none⟩ (.int .i64 q.wide)).setCell ⟨w.heap.size + 1, 6, none⟩ (.int .i64 q.rule)).setCell ⟨w.heap.size + 1, 7, none⟩ (.int .i64 q.top)).setCell ⟨w.heap.size + 1, 8, none⟩ (.int .i64 q.least)).setCell ⟨w.heap.size + 1, 9, none⟩ (.int .i64 q.part)).setCell ⟨w.heap.size + 1, 10, none⟩ (.slice q.sa q.settle.length q.sc)) (w.heap.size + 1) 25 q.cells := HT.out.res.fill _ _ _ _ _ _ _ _ _ _ _
    have hma := HT.out.ma
    have hsa := HT.out.sa
    have hpv : PV (((((((((((wc.setCell ⟨w.heap.size + 1, 0, none⟩ (.string q.code)).setCell ⟨w.heap.size + 1, 1, none⟩ (.slice q.ma q.months.length q.mc)).setCell ⟨w.heap.size + 1, 2, none⟩ (.int .i64 q.tick)).setCell ⟨w.heap.size + 1, 3, none⟩ (.int .i64 q.low)).setCell ⟨w.heap.size + 1, 4, none⟩ (.int .i64 q.high)).setCell ⟨w.heap.size + 1, 5, none⟩ (.int .i64 q.wide)).setCell ⟨w.heap.size + 1, 6, none⟩ (.int .i64 q.rule)).setCell ⟨w.heap.size + 1, 7, none⟩ (.int .i64 q.top)).setCell ⟨w.heap.size + 1, 8, none⟩ (.int .i64 q.least)).setCell ⟨w.heap.size + 1, 9, none⟩ (.int .i64 q.part)).setCell ⟨w.heap.size + 1, 10, none⟩ (.slice q.sa q.settle.length q.sc)) q := ⟨HT.out.pv.code, HT.out.pv.mon.far HT.out.ma hk, HT.out.pv.set_.far HT.out.sa hk, HT.out.pv.mlen, HT.out.pv.slen, HT.out.pv.tick, HT.out.pv.low, HT.out.pv.high, HT.out.pv.wide⟩
    have hb : Below w.heap.size w (((((((((((wc.setCell ⟨w.heap.size + 1, 0, none⟩ (.string q.code)).setCell ⟨w.heap.size + 1, 1, none⟩ (.slice q.ma q.months.length q.mc)).setCell ⟨w.heap.size + 1, 2, none⟩ (.int .i64 q.tick)).setCell ⟨w.heap.size + 1, 3, none⟩ (.int .i64 q.low)).setCell ⟨w.heap.size + 1, 4, none⟩ (.int .i64 q.high)).setCell ⟨w.heap.size + 1, 5, none⟩ (.int .i64 q.wide)).setCell ⟨w.heap.size + 1, 6, none⟩ (.int .i64 q.rule)).setCell ⟨w.heap.size + 1, 7, none⟩ (.int .i64 q.top)).setCell ⟨w.heap.size + 1, 8, none⟩ (.int .i64 q.least)).setCell ⟨w.heap.size + 1, 9, none⟩ (.int .i64 q.part)).setCell ⟨w.heap.size + 1, 10, none⟩ (.slice q.sa q.settle.length q.sc)) := HT.out.bel.trans (hk.below (fun g hg => by have hg' : g = w.heap.size + 1 := hg; omega) HT.out.bel.size)
    generalize (((((((((((wc.setCell ⟨w.heap.size + 1, 0, none⟩ (.string q.code)).setCell ⟨w.heap.size + 1, 1, none⟩ (.slice q.ma q.months.length q.mc)).setCell ⟨w.heap.size + 1, 2, none⟩ (.int .i64 q.tick)).setCell ⟨w.heap.size + 1, 3, none⟩ (.int .i64 q.low)).setCell ⟨w.heap.size + 1, 4, none⟩ (.int .i64 q.high)).setCell ⟨w.heap.size + 1, 5, none⟩ (.int .i64 q.wide)).setCell ⟨w.heap.size + 1, 6, none⟩ (.int .i64 q.rule)).setCell ⟨w.heap.size + 1, 7, none⟩ (.int .i64 q.top)).setCell ⟨w.heap.size + 1, 8, none⟩ (.int .i64 q.least)).setCell ⟨w.heap.size + 1, 9, none⟩ (.int .i64 q.part)).setCell ⟨w.heap.size + 1, 10, none⟩ (.slice q.sa q.settle.length q.sc)) = wf at *
    have c : ∀ i, wf.cell? ⟨w.heap.size + 1, i, none⟩ = q.cells[i]? := fun i => hB.cell i
    have c0 := c 0
    have c1 := c 1
    have c2 := c 2
    have c3 := c 3
    have c4 := c 4
    have c5 := c 5
    have c6 := c 6
    have c7 := c 7
    have c8 := c 8
    have c9 := c 9
    have c10 := c 10
    simp only [Prod.cells, List.getElem?_toArray, List.getElem?_cons_zero, List.getElem?_cons_succ] at c0 c1 c2 c3 c4 c5 c6 c7 c8 c9 c10
    clear c hk hB HT
    refine bodyPost_ret (v := .agg #[.string q.code, .slice q.ma q.months.length q.mc, .int .i64 q.tick, .int .i64 q.low, .int .i64 q.high, .int .i64 q.wide, .int .i64 q.rule, .int .i64 q.top, .int .i64 q.least, .int .i64 q.part, .slice q.sa q.settle.length q.sc]) (by simp [results, Try.results24, go_sem, c0, c1, c2, c3, c4, c5, c6, c7, c8, c9, c10]) rfl ?_
    exact ⟨q, rfl, hpv, hb, hma, hsa⟩
theorem turned_any (p : Prod) (how n : Int) (w : World) (hp : PV w p) (hn1 : -9223372036854775808 ≤ n) (hn2 : n ≤ 9223372036854775807) (hm0 : 0 < p.months.length) (hm1 : p.months.length ≤ 1000) (hs0 : 1 < p.settle.length) (hs1 : p.settle.length ≤ 1000) :
    Calls Try.prog 24 #[p.agg, .int .i64 how, .int .i64 n] w fun e w' => ∃ q : Prod, e = .returned q.agg ∧ PV w' q ∧ Below w.heap.size w w' :=
  (turned_off p how n w hp hn1 hn2 hm0 hm1 hs0 hs1).mono fun _ _ ⟨q, h1, h2, h3, _⟩ => ⟨q, h1, h2, h3⟩
end Go.Proofs.Ytjjddlfbadahhaa
