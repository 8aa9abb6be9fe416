/- The walk of cornhillref19.Apply where the message is refused. -/
import Derived.Test.YtmaijkoopjocdaaRView
namespace Go.Proofs.Ytmaijkoopjocdaa
open Go.RowKit Go.Lib

set_option maxRecDepth 20000 in
set_option maxHeartbeats 32000000 in
theorem rapply_bad {w : World} {a : Option Addr} {n cv : Nat} (m : Mg) (hf : fineC n m ≠ 0) :
  Calls Try.prog 28 #[.agg #[.slice a n cv], m.agg] w fun e w' => e = .returned (.tuple #[.agg #[.slice none 0 0], .int .i64 (fineC n m)]) ∧ Below w.heap.size w w' := by
 obtain ⟨q, i, d, p, t, c, im⟩ := m
 unfold Mg.agg
 unfold fineC at *
 dsimp only at *
 have hz1 : (w.alloc (.cells #[.slice a n cv] 44)).heap.size = w.heap.size + 1 := by simp
 have hz2 : ((w.alloc (.cells #[.slice a n cv] 44)).alloc (.cells #[.int .i64 q, .int .i64 i, .int .i64 d, .int .i64 p, .int .i64 t, .int .i64 c, .bool im] 34)).heap.size = w.heap.size + 1 + 1 := by simp
 have hb1 := Below.allocN w (.cells #[.slice a n cv] 44)
 have hb2 := hb1.trans ((Below.allocN (w.alloc (.cells #[.slice a n cv] 44)) (.cells #[.int .i64 q, .int .i64 i, .int .i64 d, .int .i64 p, .int .i64 t, .int .i64 c, .bool im] 34)).mono hb1.size)
 have hb3 := hb2.trans ((Below.allocN ((w.alloc (.cells #[.slice a n cv] 44)).alloc (.cells #[.int .i64 q, .int .i64 i, .int .i64 d, .int .i64 p, .int .i64 t, .int .i64 c, .bool im] 34)) (.cells #[.slice none 0 0] 44)).mono hb2.size)
 have hgv : Blk (((w.alloc (.cells #[.slice a n cv] 44)).alloc (.cells #[.int .i64 q, .int .i64 i, .int .i64 d, .int .i64 p, .int .i64 t, .int .i64 c, .bool im] 34)).alloc (.cells #[.slice none 0 0] 44)) w.heap.size 44 #[.slice a n cv] := ((Blk.new w _ _).alloc _).alloc _
 have hgm : Blk (((w.alloc (.cells #[.slice a n cv] 44)).alloc (.cells #[.int .i64 q, .int .i64 i, .int .i64 d, .int .i64 p, .int .i64 t, .int .i64 c, .bool im] 34)).alloc (.cells #[.slice none 0 0] 44)) (w.heap.size + 1) 34 #[.int .i64 q, .int .i64 i, .int .i64 d, .int .i64 p, .int .i64 t, .int .i64 c, .bool im] := by
  have := (Blk.new (w.alloc (.cells #[.slice a n cv] 44)) 34 #[.int .i64 q, .int .i64 i, .int .i64 d, .int .i64 p, .int .i64 t, .int .i64 c, .bool im]).alloc (.cells #[.slice none 0 0] 44)
  rwa [hz1] at this
 have hgr : Blk (((w.alloc (.cells #[.slice a n cv] 44)).alloc (.cells #[.int .i64 q, .int .i64 i, .int .i64 d, .int .i64 p, .int .i64 t, .int .i64 c, .bool im] 34)).alloc (.cells #[.slice none 0 0] 44)) (w.heap.size + 1 + 1) 44 #[.slice none 0 0] := by
  have := Blk.new ((w.alloc (.cells #[.slice a n cv] 44)).alloc (.cells #[.int .i64 q, .int .i64 i, .int .i64 d, .int .i64 p, .int .i64 t, .int .i64 c, .bool im] 34)) 44 #[.slice none 0 0]
  rwa [hz2] at this
 have HB3 := Lib.hid hb3
 have HGV := Lib.hid hgv
 have HGM := Lib.hid hgm
 have HGR := Lib.hid hgr
 clear hz1 hz2 hb1 hb2 hb3 hgv hgm hgr
 by_cases h1 : i < 0
 ·rw [if_pos (.inl h1)] at hf ⊢
  clear hf
  go_enter Try.func28, Try.ntmps28
  go_upto_region 1 with (fail)
  obtain ⟨w1, hw1⟩ : ∃ w1, (((w.alloc (.cells #[.slice a n cv] 44)).alloc (.cells #[.int .i64 q, .int .i64 i, .int .i64 d, .int .i64 p, .int .i64 t, .int .i64 c, .bool im] 34)).alloc (.cells #[.slice none 0 0] 44)) = w1 := ⟨_, rfl⟩
  obtain ⟨gr, hgr⟩ : ∃ gr, w.heap.size + 1 + 1 = gr := ⟨_, rfl⟩
  obtain ⟨gm, hgm⟩ : ∃ gm, w.heap.size + 1 = gm := ⟨_, rfl⟩
  obtain ⟨gv, hgv⟩ : ∃ gv, w.heap.size = gv := ⟨_, rfl⟩
  have HLE : Hid (w.heap.size ≤ gr) := Lib.hid (by omega)
  rw [hw1] at HB3 HGV HGM HGR ⊢
  rw [hgr] at HGR ⊢
  rw [hgm] at HGM ⊢
  rw [hgv] at HGV ⊢
  clear hw1 hgr hgm hgv
  have b0 : w1.cell? ⟨gv, 0, none⟩ = some (.slice a n cv) := HGV.out.cell 0
  have m1 : w1.cell? ⟨gm, 1, none⟩ = some (.int .i64 i) := HGM.out.cell 1
  have m2 : w1.cell? ⟨gm, 2, none⟩ = some (.int .i64 d) := HGM.out.cell 2
  have m4 : w1.cell? ⟨gm, 4, none⟩ = some (.int .i64 t) := HGM.out.cell 4
  have m5 : w1.cell? ⟨gm, 5, none⟩ = some (.int .i64 c) := HGM.out.cell 5
  have r0 : w1.cell? ⟨gr, 0, none⟩ = some (.slice none 0 0) := HGR.out.cell 0
  have z0 : w1.frozen? ⟨gr, 0, none⟩ = false := HGR.out.frozen 0
  go_wp2_with fail
  clear r0 z0
  have k0 : (w1.setCell ⟨gr, 0, none⟩ (.slice none 0 0)).cell? ⟨gr, 0, none⟩ = some (.slice none 0 0) := (HGR.out.set_ 0 (.slice none 0 0)).cell 0
  have hbz := HB3.out.setCell (p := ⟨gr, 0, none⟩) HLE.out (.slice none 0 0)
  refine bodyPost_ret (v := .tuple #[.agg #[.slice none 0 0], .int .i64 20]) (by simp [results, Try.results28, go_sem, k0]) rfl ⟨rfl, hbz⟩
 ·by_cases h2 : (n : Int) ≤ i
  ·rw [if_pos (.inr h2)] at hf ⊢
   clear hf
   go_enter Try.func28, Try.ntmps28
   go_upto_region 1 with (fail)
   obtain ⟨w1, hw1⟩ : ∃ w1, (((w.alloc (.cells #[.slice a n cv] 44)).alloc (.cells #[.int .i64 q, .int .i64 i, .int .i64 d, .int .i64 p, .int .i64 t, .int .i64 c, .bool im] 34)).alloc (.cells #[.slice none 0 0] 44)) = w1 := ⟨_, rfl⟩
   obtain ⟨gr, hgr⟩ : ∃ gr, w.heap.size + 1 + 1 = gr := ⟨_, rfl⟩
   obtain ⟨gm, hgm⟩ : ∃ gm, w.heap.size + 1 = gm := ⟨_, rfl⟩
   obtain ⟨gv, hgv⟩ : ∃ gv, w.heap.size = gv := ⟨_, rfl⟩
   have HLE : Hid (w.heap.size ≤ gr) := Lib.hid (by omega)
   rw [hw1] at HB3 HGV HGM HGR ⊢
   rw [hgr] at HGR ⊢
   rw [hgm] at HGM ⊢
   rw [hgv] at HGV ⊢
   clear hw1 hgr hgm hgv
   have b0 : w1.cell? ⟨gv, 0, none⟩ = some (.slice a n cv) := HGV.out.cell 0
   have m1 : w1.cell? ⟨gm, 1, none⟩ = some (.int .i64 i) := HGM.out.cell 1
   have m2 : w1.cell? ⟨gm, 2, none⟩ = some (.int .i64 d) := HGM.out.cell 2
   have m4 : w1.cell? ⟨gm, 4, none⟩ = some (.int .i64 t) := HGM.out.cell 4
   have m5 : w1.cell? ⟨gm, 5, none⟩ = some (.int .i64 c) := HGM.out.cell 5
   have r0 : w1.cell? ⟨gr, 0, none⟩ = some (.slice none 0 0) := HGR.out.cell 0
   have z0 : w1.frozen? ⟨gr, 0, none⟩ = false := HGR.out.frozen 0
   go_wp2_with fail
   clear r0 z0
   have k0 : (w1.setCell ⟨gr, 0, none⟩ (.slice none 0 0)).cell? ⟨gr, 0, none⟩ = some (.slice none 0 0) := (HGR.out.set_ 0 (.slice none 0 0)).cell 0
   have hbz := HB3.out.setCell (p := ⟨gr, 0, none⟩) HLE.out (.slice none 0 0)
   refine bodyPost_ret (v := .tuple #[.agg #[.slice none 0 0], .int .i64 20]) (by simp [results, Try.results28, go_sem, k0]) rfl ⟨rfl, hbz⟩
  ·rw [if_neg (by rintro (x | x); exact h1 x; exact h2 x)] at hf ⊢
   by_cases h3 : d = 1
   ·have h3b : (d != 1) = false := by rw [h3]; rfl
    rw [if_neg (fun x => x (.inl h3))] at hf ⊢
    clear h3
    by_cases h5 : t < 0
    ·rw [if_pos (.inl h5)] at hf ⊢
     clear hf
     go_enter Try.func28, Try.ntmps28
     go_upto_region 1 with (fail)
     obtain ⟨w1, hw1⟩ : ∃ w1, (((w.alloc (.cells #[.slice a n cv] 44)).alloc (.cells #[.int .i64 q, .int .i64 i, .int .i64 d, .int .i64 p, .int .i64 t, .int .i64 c, .bool im] 34)).alloc (.cells #[.slice none 0 0] 44)) = w1 := ⟨_, rfl⟩
     obtain ⟨gr, hgr⟩ : ∃ gr, w.heap.size + 1 + 1 = gr := ⟨_, rfl⟩
     obtain ⟨gm, hgm⟩ : ∃ gm, w.heap.size + 1 = gm := ⟨_, rfl⟩
     obtain ⟨gv, hgv⟩ : ∃ gv, w.heap.size = gv := ⟨_, rfl⟩
     have HLE : Hid (w.heap.size ≤ gr) := Lib.hid (by omega)
     rw [hw1] at HB3 HGV HGM HGR ⊢
     rw [hgr] at HGR ⊢
     rw [hgm] at HGM ⊢
     rw [hgv] at HGV ⊢
     clear hw1 hgr hgm hgv
     have b0 : w1.cell? ⟨gv, 0, none⟩ = some (.slice a n cv) := HGV.out.cell 0
     have m1 : w1.cell? ⟨gm, 1, none⟩ = some (.int .i64 i) := HGM.out.cell 1
     have m2 : w1.cell? ⟨gm, 2, none⟩ = some (.int .i64 d) := HGM.out.cell 2
     have m4 : w1.cell? ⟨gm, 4, none⟩ = some (.int .i64 t) := HGM.out.cell 4
     have m5 : w1.cell? ⟨gm, 5, none⟩ = some (.int .i64 c) := HGM.out.cell 5
     have r0 : w1.cell? ⟨gr, 0, none⟩ = some (.slice none 0 0) := HGR.out.cell 0
     have z0 : w1.frozen? ⟨gr, 0, none⟩ = false := HGR.out.frozen 0
     go_wp2_with fail
     clear r0 z0
     have k0 : (w1.setCell ⟨gr, 0, none⟩ (.slice none 0 0)).cell? ⟨gr, 0, none⟩ = some (.slice none 0 0) := (HGR.out.set_ 0 (.slice none 0 0)).cell 0
     have hbz := HB3.out.setCell (p := ⟨gr, 0, none⟩) HLE.out (.slice none 0 0)
     refine bodyPost_ret (v := .tuple #[.agg #[.slice none 0 0], .int .i64 24]) (by simp [results, Try.results28, go_sem, k0]) rfl ⟨rfl, hbz⟩
    ·by_cases h6 : c < 0
     ·rw [if_pos (.inr (.inl h6))] at hf ⊢
      clear hf
      go_enter Try.func28, Try.ntmps28
      go_upto_region 1 with (fail)
      obtain ⟨w1, hw1⟩ : ∃ w1, (((w.alloc (.cells #[.slice a n cv] 44)).alloc (.cells #[.int .i64 q, .int .i64 i, .int .i64 d, .int .i64 p, .int .i64 t, .int .i64 c, .bool im] 34)).alloc (.cells #[.slice none 0 0] 44)) = w1 := ⟨_, rfl⟩
      obtain ⟨gr, hgr⟩ : ∃ gr, w.heap.size + 1 + 1 = gr := ⟨_, rfl⟩
      obtain ⟨gm, hgm⟩ : ∃ gm, w.heap.size + 1 = gm := ⟨_, rfl⟩
      obtain ⟨gv, hgv⟩ : ∃ gv, w.heap.size = gv := ⟨_, rfl⟩
      have HLE : Hid (w.heap.size ≤ gr) := Lib.hid (by omega)
      rw [hw1] at HB3 HGV HGM HGR ⊢
      rw [hgr] at HGR ⊢
      rw [hgm] at HGM ⊢
      rw [hgv] at HGV ⊢
      clear hw1 hgr hgm hgv
      have b0 : w1.cell? ⟨gv, 0, none⟩ = some (.slice a n cv) := HGV.out.cell 0
      have m1 : w1.cell? ⟨gm, 1, none⟩ = some (.int .i64 i) := HGM.out.cell 1
      have m2 : w1.cell? ⟨gm, 2, none⟩ = some (.int .i64 d) := HGM.out.cell 2
      have m4 : w1.cell? ⟨gm, 4, none⟩ = some (.int .i64 t) := HGM.out.cell 4
      have m5 : w1.cell? ⟨gm, 5, none⟩ = some (.int .i64 c) := HGM.out.cell 5
      have r0 : w1.cell? ⟨gr, 0, none⟩ = some (.slice none 0 0) := HGR.out.cell 0
      have z0 : w1.frozen? ⟨gr, 0, none⟩ = false := HGR.out.frozen 0
      go_wp2_with fail
      clear r0 z0
      have k0 : (w1.setCell ⟨gr, 0, none⟩ (.slice none 0 0)).cell? ⟨gr, 0, none⟩ = some (.slice none 0 0) := (HGR.out.set_ 0 (.slice none 0 0)).cell 0
      have hbz := HB3.out.setCell (p := ⟨gr, 0, none⟩) HLE.out (.slice none 0 0)
      refine bodyPost_ret (v := .tuple #[.agg #[.slice none 0 0], .int .i64 24]) (by simp [results, Try.results28, go_sem, k0]) rfl ⟨rfl, hbz⟩
     ·by_cases h7 : t = 0
      ·have h7b : (t == 0) = true := by rw [h7]; rfl
       by_cases h8 : c = 0
       ·have h8b : (c == 0) = true := by rw [h8]; rfl
        exact absurd (if_neg (by rintro (x | x | x); exact h5 x; exact h6 x; exact x (by simp [h7, h8]))) hf
       ·have h8b : (c == 0) = false := by rw [beq_eq_false_iff_ne]; exact h8
        rw [if_pos (.inr (.inr (by rw [h7]; intro y; exact h8 (y.1 rfl))))] at hf ⊢
        clear h7 h8
        clear hf
        go_enter Try.func28, Try.ntmps28
        go_upto_region 1 with (fail)
        obtain ⟨w1, hw1⟩ : ∃ w1, (((w.alloc (.cells #[.slice a n cv] 44)).alloc (.cells #[.int .i64 q, .int .i64 i, .int .i64 d, .int .i64 p, .int .i64 t, .int .i64 c, .bool im] 34)).alloc (.cells #[.slice none 0 0] 44)) = w1 := ⟨_, rfl⟩
        obtain ⟨gr, hgr⟩ : ∃ gr, w.heap.size + 1 + 1 = gr := ⟨_, rfl⟩
        obtain ⟨gm, hgm⟩ : ∃ gm, w.heap.size + 1 = gm := ⟨_, rfl⟩
        obtain ⟨gv, hgv⟩ : ∃ gv, w.heap.size = gv := ⟨_, rfl⟩
        have HLE : Hid (w.heap.size ≤ gr) := Lib.hid (by omega)
        rw [hw1] at HB3 HGV HGM HGR ⊢
        rw [hgr] at HGR ⊢
        rw [hgm] at HGM ⊢
        rw [hgv] at HGV ⊢
        clear hw1 hgr hgm hgv
        have b0 : w1.cell? ⟨gv, 0, none⟩ = some (.slice a n cv) := HGV.out.cell 0
        have m1 : w1.cell? ⟨gm, 1, none⟩ = some (.int .i64 i) := HGM.out.cell 1
        have m2 : w1.cell? ⟨gm, 2, none⟩ = some (.int .i64 d) := HGM.out.cell 2
        have m4 : w1.cell? ⟨gm, 4, none⟩ = some (.int .i64 t) := HGM.out.cell 4
        have m5 : w1.cell? ⟨gm, 5, none⟩ = some (.int .i64 c) := HGM.out.cell 5
        have r0 : w1.cell? ⟨gr, 0, none⟩ = some (.slice none 0 0) := HGR.out.cell 0
        have z0 : w1.frozen? ⟨gr, 0, none⟩ = false := HGR.out.frozen 0
        go_wp2_with fail
        clear r0 z0
        have k0 : (w1.setCell ⟨gr, 0, none⟩ (.slice none 0 0)).cell? ⟨gr, 0, none⟩ = some (.slice none 0 0) := (HGR.out.set_ 0 (.slice none 0 0)).cell 0
        have hbz := HB3.out.setCell (p := ⟨gr, 0, none⟩) HLE.out (.slice none 0 0)
        refine bodyPost_ret (v := .tuple #[.agg #[.slice none 0 0], .int .i64 24]) (by simp [results, Try.results28, go_sem, k0]) rfl ⟨rfl, hbz⟩
      ·have h7b : (t == 0) = false := by rw [beq_eq_false_iff_ne]; exact h7
       by_cases h8 : c = 0
       ·have h8b : (c == 0) = true := by rw [h8]; rfl
        rw [if_pos (.inr (.inr (by rw [h8]; intro y; exact h7 (y.2 rfl))))] at hf ⊢
        clear h7 h8
        clear hf
        go_enter Try.func28, Try.ntmps28
        go_upto_region 1 with (fail)
        obtain ⟨w1, hw1⟩ : ∃ w1, (((w.alloc (.cells #[.slice a n cv] 44)).alloc (.cells #[.int .i64 q, .int .i64 i, .int .i64 d, .int .i64 p, .int .i64 t, .int .i64 c, .bool im] 34)).alloc (.cells #[.slice none 0 0] 44)) = w1 := ⟨_, rfl⟩
        obtain ⟨gr, hgr⟩ : ∃ gr, w.heap.size + 1 + 1 = gr := ⟨_, rfl⟩
        obtain ⟨gm, hgm⟩ : ∃ gm, w.heap.size + 1 = gm := ⟨_, rfl⟩
        obtain ⟨gv, hgv⟩ : ∃ gv, w.heap.size = gv := ⟨_, rfl⟩
        have HLE : Hid (w.heap.size ≤ gr) := Lib.hid (by omega)
        rw [hw1] at HB3 HGV HGM HGR ⊢
        rw [hgr] at HGR ⊢
        rw [hgm] at HGM ⊢
        rw [hgv] at HGV ⊢
        clear hw1 hgr hgm hgv
        have b0 : w1.cell? ⟨gv, 0, none⟩ = some (.slice a n cv) := HGV.out.cell 0
        have m1 : w1.cell? ⟨gm, 1, none⟩ = some (.int .i64 i) := HGM.out.cell 1
        have m2 : w1.cell? ⟨gm, 2, none⟩ = some (.int .i64 d) := HGM.out.cell 2
        have m4 : w1.cell? ⟨gm, 4, none⟩ = some (.int .i64 t) := HGM.out.cell 4
        have m5 : w1.cell? ⟨gm, 5, none⟩ = some (.int .i64 c) := HGM.out.cell 5
        have r0 : w1.cell? ⟨gr, 0, none⟩ = some (.slice none 0 0) := HGR.out.cell 0
        have z0 : w1.frozen? ⟨gr, 0, none⟩ = false := HGR.out.frozen 0
        go_wp2_with fail
        clear r0 z0
        have k0 : (w1.setCell ⟨gr, 0, none⟩ (.slice none 0 0)).cell? ⟨gr, 0, none⟩ = some (.slice none 0 0) := (HGR.out.set_ 0 (.slice none 0 0)).cell 0
        have hbz := HB3.out.setCell (p := ⟨gr, 0, none⟩) HLE.out (.slice none 0 0)
        refine bodyPost_ret (v := .tuple #[.agg #[.slice none 0 0], .int .i64 24]) (by simp [results, Try.results28, go_sem, k0]) rfl ⟨rfl, hbz⟩
       ·have h8b : (c == 0) = false := by rw [beq_eq_false_iff_ne]; exact h8
        exact absurd (if_neg (by rintro (x | x | x); exact h5 x; exact h6 x; exact x (by constructor <;> intro y; exact absurd y h7; exact absurd y h8))) hf
   ·have h3b : (d != 1) = true := by rw [bne_iff_ne]; exact h3
    by_cases h4 : d = 2
    ·have h4b : (d != 2) = false := by rw [h4]; rfl
     rw [if_neg (fun x => x (.inr h4))] at hf ⊢
     clear h3 h4
     by_cases h5 : t < 0
     ·rw [if_pos (.inl h5)] at hf ⊢
      clear hf
      go_enter Try.func28, Try.ntmps28
      go_upto_region 1 with (fail)
      obtain ⟨w1, hw1⟩ : ∃ w1, (((w.alloc (.cells #[.slice a n cv] 44)).alloc (.cells #[.int .i64 q, .int .i64 i, .int .i64 d, .int .i64 p, .int .i64 t, .int .i64 c, .bool im] 34)).alloc (.cells #[.slice none 0 0] 44)) = w1 := ⟨_, rfl⟩
      obtain ⟨gr, hgr⟩ : ∃ gr, w.heap.size + 1 + 1 = gr := ⟨_, rfl⟩
      obtain ⟨gm, hgm⟩ : ∃ gm, w.heap.size + 1 = gm := ⟨_, rfl⟩
      obtain ⟨gv, hgv⟩ : ∃ gv, w.heap.size = gv := ⟨_, rfl⟩
      have HLE : Hid (w.heap.size ≤ gr) := Lib.hid (by omega)
      rw [hw1] at HB3 HGV HGM HGR ⊢
      rw [hgr] at HGR ⊢
      rw [hgm] at HGM ⊢
      rw [hgv] at HGV ⊢
      clear hw1 hgr hgm hgv
      have b0 : w1.cell? ⟨gv, 0, none⟩ = some (.slice a n cv) := HGV.out.cell 0
      have m1 : w1.cell? ⟨gm, 1, none⟩ = some (.int .i64 i) := HGM.out.cell 1
      have m2 : w1.cell? ⟨gm, 2, none⟩ = some (.int .i64 d) := HGM.out.cell 2
      have m4 : w1.cell? ⟨gm, 4, none⟩ = some (.int .i64 t) := HGM.out.cell 4
      have m5 : w1.cell? ⟨gm, 5, none⟩ = some (.int .i64 c) := HGM.out.cell 5
      have r0 : w1.cell? ⟨gr, 0, none⟩ = some (.slice none 0 0) := HGR.out.cell 0
      have z0 : w1.frozen? ⟨gr, 0, none⟩ = false := HGR.out.frozen 0
      go_wp2_with fail
      clear r0 z0
      have k0 : (w1.setCell ⟨gr, 0, none⟩ (.slice none 0 0)).cell? ⟨gr, 0, none⟩ = some (.slice none 0 0) := (HGR.out.set_ 0 (.slice none 0 0)).cell 0
      have hbz := HB3.out.setCell (p := ⟨gr, 0, none⟩) HLE.out (.slice none 0 0)
      refine bodyPost_ret (v := .tuple #[.agg #[.slice none 0 0], .int .i64 24]) (by simp [results, Try.results28, go_sem, k0]) rfl ⟨rfl, hbz⟩
     ·by_cases h6 : c < 0
      ·rw [if_pos (.inr (.inl h6))] at hf ⊢
       clear hf
       go_enter Try.func28, Try.ntmps28
       go_upto_region 1 with (fail)
       obtain ⟨w1, hw1⟩ : ∃ w1, (((w.alloc (.cells #[.slice a n cv] 44)).alloc (.cells #[.int .i64 q, .int .i64 i, .int .i64 d, .int .i64 p, .int .i64 t, .int .i64 c, .bool im] 34)).alloc (.cells #[.slice none 0 0] 44)) = w1 := ⟨_, rfl⟩
       obtain ⟨gr, hgr⟩ : ∃ gr, w.heap.size + 1 + 1 = gr := ⟨_, rfl⟩
       obtain ⟨gm, hgm⟩ : ∃ gm, w.heap.size + 1 = gm := ⟨_, rfl⟩
       obtain ⟨gv, hgv⟩ : ∃ gv, w.heap.size = gv := ⟨_, rfl⟩
       have HLE : Hid (w.heap.size ≤ gr) := Lib.hid (by omega)
       rw [hw1] at HB3 HGV HGM HGR ⊢
       rw [hgr] at HGR ⊢
       rw [hgm] at HGM ⊢
       rw [hgv] at HGV ⊢
       clear hw1 hgr hgm hgv
       have b0 : w1.cell? ⟨gv, 0, none⟩ = some (.slice a n cv) := HGV.out.cell 0
       have m1 : w1.cell? ⟨gm, 1, none⟩ = some (.int .i64 i) := HGM.out.cell 1
       have m2 : w1.cell? ⟨gm, 2, none⟩ = some (.int .i64 d) := HGM.out.cell 2
       have m4 : w1.cell? ⟨gm, 4, none⟩ = some (.int .i64 t) := HGM.out.cell 4
       have m5 : w1.cell? ⟨gm, 5, none⟩ = some (.int .i64 c) := HGM.out.cell 5
       have r0 : w1.cell? ⟨gr, 0, none⟩ = some (.slice none 0 0) := HGR.out.cell 0
       have z0 : w1.frozen? ⟨gr, 0, none⟩ = false := HGR.out.frozen 0
       go_wp2_with fail
       clear r0 z0
       have k0 : (w1.setCell ⟨gr, 0, none⟩ (.slice none 0 0)).cell? ⟨gr, 0, none⟩ = some (.slice none 0 0) := (HGR.out.set_ 0 (.slice none 0 0)).cell 0
       have hbz := HB3.out.setCell (p := ⟨gr, 0, none⟩) HLE.out (.slice none 0 0)
       refine bodyPost_ret (v := .tuple #[.agg #[.slice none 0 0], .int .i64 24]) (by simp [results, Try.results28, go_sem, k0]) rfl ⟨rfl, hbz⟩
      ·by_cases h7 : t = 0
       ·have h7b : (t == 0) = true := by rw [h7]; rfl
        by_cases h8 : c = 0
        ·have h8b : (c == 0) = true := by rw [h8]; rfl
         exact absurd (if_neg (by rintro (x | x | x); exact h5 x; exact h6 x; exact x (by simp [h7, h8]))) hf
        ·have h8b : (c == 0) = false := by rw [beq_eq_false_iff_ne]; exact h8
         rw [if_pos (.inr (.inr (by rw [h7]; intro y; exact h8 (y.1 rfl))))] at hf ⊢
         clear h7 h8
         clear hf
         go_enter Try.func28, Try.ntmps28
         go_upto_region 1 with (fail)
         obtain ⟨w1, hw1⟩ : ∃ w1, (((w.alloc (.cells #[.slice a n cv] 44)).alloc (.cells #[.int .i64 q, .int .i64 i, .int .i64 d, .int .i64 p, .int .i64 t, .int .i64 c, .bool im] 34)).alloc (.cells #[.slice none 0 0] 44)) = w1 := ⟨_, rfl⟩
         obtain ⟨gr, hgr⟩ : ∃ gr, w.heap.size + 1 + 1 = gr := ⟨_, rfl⟩
         obtain ⟨gm, hgm⟩ : ∃ gm, w.heap.size + 1 = gm := ⟨_, rfl⟩
         obtain ⟨gv, hgv⟩ : ∃ gv, w.heap.size = gv := ⟨_, rfl⟩
         have HLE : Hid (w.heap.size ≤ gr) := Lib.hid (by omega)
         rw [hw1] at HB3 HGV HGM HGR ⊢
         rw [hgr] at HGR ⊢
         rw [hgm] at HGM ⊢
         rw [hgv] at HGV ⊢
         clear hw1 hgr hgm hgv
         have b0 : w1.cell? ⟨gv, 0, none⟩ = some (.slice a n cv) := HGV.out.cell 0
         have m1 : w1.cell? ⟨gm, 1, none⟩ = some (.int .i64 i) := HGM.out.cell 1
         have m2 : w1.cell? ⟨gm, 2, none⟩ = some (.int .i64 d) := HGM.out.cell 2
         have m4 : w1.cell? ⟨gm, 4, none⟩ = some (.int .i64 t) := HGM.out.cell 4
         have m5 : w1.cell? ⟨gm, 5, none⟩ = some (.int .i64 c) := HGM.out.cell 5
         have r0 : w1.cell? ⟨gr, 0, none⟩ = some (.slice none 0 0) := HGR.out.cell 0
         have z0 : w1.frozen? ⟨gr, 0, none⟩ = false := HGR.out.frozen 0
         go_wp2_with fail
         clear r0 z0
         have k0 : (w1.setCell ⟨gr, 0, none⟩ (.slice none 0 0)).cell? ⟨gr, 0, none⟩ = some (.slice none 0 0) := (HGR.out.set_ 0 (.slice none 0 0)).cell 0
         have hbz := HB3.out.setCell (p := ⟨gr, 0, none⟩) HLE.out (.slice none 0 0)
         refine bodyPost_ret (v := .tuple #[.agg #[.slice none 0 0], .int .i64 24]) (by simp [results, Try.results28, go_sem, k0]) rfl ⟨rfl, hbz⟩
       ·have h7b : (t == 0) = false := by rw [beq_eq_false_iff_ne]; exact h7
        by_cases h8 : c = 0
        ·have h8b : (c == 0) = true := by rw [h8]; rfl
         rw [if_pos (.inr (.inr (by rw [h8]; intro y; exact h7 (y.2 rfl))))] at hf ⊢
         clear h7 h8
         clear hf
         go_enter Try.func28, Try.ntmps28
         go_upto_region 1 with (fail)
         obtain ⟨w1, hw1⟩ : ∃ w1, (((w.alloc (.cells #[.slice a n cv] 44)).alloc (.cells #[.int .i64 q, .int .i64 i, .int .i64 d, .int .i64 p, .int .i64 t, .int .i64 c, .bool im] 34)).alloc (.cells #[.slice none 0 0] 44)) = w1 := ⟨_, rfl⟩
         obtain ⟨gr, hgr⟩ : ∃ gr, w.heap.size + 1 + 1 = gr := ⟨_, rfl⟩
         obtain ⟨gm, hgm⟩ : ∃ gm, w.heap.size + 1 = gm := ⟨_, rfl⟩
         obtain ⟨gv, hgv⟩ : ∃ gv, w.heap.size = gv := ⟨_, rfl⟩
         have HLE : Hid (w.heap.size ≤ gr) := Lib.hid (by omega)
         rw [hw1] at HB3 HGV HGM HGR ⊢
         rw [hgr] at HGR ⊢
         rw [hgm] at HGM ⊢
         rw [hgv] at HGV ⊢
         clear hw1 hgr hgm hgv
         have b0 : w1.cell? ⟨gv, 0, none⟩ = some (.slice a n cv) := HGV.out.cell 0
         have m1 : w1.cell? ⟨gm, 1, none⟩ = some (.int .i64 i) := HGM.out.cell 1
         have m2 : w1.cell? ⟨gm, 2, none⟩ = some (.int .i64 d) := HGM.out.cell 2
         have m4 : w1.cell? ⟨gm, 4, none⟩ = some (.int .i64 t) := HGM.out.cell 4
         have m5 : w1.cell? ⟨gm, 5, none⟩ = some (.int .i64 c) := HGM.out.cell 5
         have r0 : w1.cell? ⟨gr, 0, none⟩ = some (.slice none 0 0) := HGR.out.cell 0
         have z0 : w1.frozen? ⟨gr, 0, none⟩ = false := HGR.out.frozen 0
         go_wp2_with fail
         clear r0 z0
         have k0 : (w1.setCell ⟨gr, 0, none⟩ (.slice none 0 0)).cell? ⟨gr, 0, none⟩ = some (.slice none 0 0) := (HGR.out.set_ 0 (.slice none 0 0)).cell 0
         have hbz := HB3.out.setCell (p := ⟨gr, 0, none⟩) HLE.out (.slice none 0 0)
         refine bodyPost_ret (v := .tuple #[.agg #[.slice none 0 0], .int .i64 24]) (by simp [results, Try.results28, go_sem, k0]) rfl ⟨rfl, hbz⟩
        ·have h8b : (c == 0) = false := by rw [beq_eq_false_iff_ne]; exact h8
         exact absurd (if_neg (by rintro (x | x | x); exact h5 x; exact h6 x; exact x (by constructor <;> intro y; exact absurd y h7; exact absurd y h8))) hf
    ·have h4b : (d != 2) = true := by rw [bne_iff_ne]; exact h4
     rw [if_pos (by rintro (x | x); exact h3 x; exact h4 x)] at hf ⊢
     clear h3 h4
     clear hf
     go_enter Try.func28, Try.ntmps28
     go_upto_region 1 with (fail)
     obtain ⟨w1, hw1⟩ : ∃ w1, (((w.alloc (.cells #[.slice a n cv] 44)).alloc (.cells #[.int .i64 q, .int .i64 i, .int .i64 d, .int .i64 p, .int .i64 t, .int .i64 c, .bool im] 34)).alloc (.cells #[.slice none 0 0] 44)) = w1 := ⟨_, rfl⟩
     obtain ⟨gr, hgr⟩ : ∃ gr, w.heap.size + 1 + 1 = gr := ⟨_, rfl⟩
     obtain ⟨gm, hgm⟩ : ∃ gm, w.heap.size + 1 = gm := ⟨_, rfl⟩
     obtain ⟨gv, hgv⟩ : ∃ gv, w.heap.size = gv := ⟨_, rfl⟩
     have HLE : Hid (w.heap.size ≤ gr) := Lib.hid (by omega)
     rw [hw1] at HB3 HGV HGM HGR ⊢
     rw [hgr] at HGR ⊢
     rw [hgm] at HGM ⊢
     rw [hgv] at HGV ⊢
     clear hw1 hgr hgm hgv
     have b0 : w1.cell? ⟨gv, 0, none⟩ = some (.slice a n cv) := HGV.out.cell 0
     have m1 : w1.cell? ⟨gm, 1, none⟩ = some (.int .i64 i) := HGM.out.cell 1
     have m2 : w1.cell? ⟨gm, 2, none⟩ = some (.int .i64 d) := HGM.out.cell 2
     have m4 : w1.cell? ⟨gm, 4, none⟩ = some (.int .i64 t) := HGM.out.cell 4
     have m5 : w1.cell? ⟨gm, 5, none⟩ = some (.int .i64 c) := HGM.out.cell 5
     have r0 : w1.cell? ⟨gr, 0, none⟩ = some (.slice none 0 0) := HGR.out.cell 0
     have z0 : w1.frozen? ⟨gr, 0, none⟩ = false := HGR.out.frozen 0
     go_wp2_with fail
     clear r0 z0
     have k0 : (w1.setCell ⟨gr, 0, none⟩ (.slice none 0 0)).cell? ⟨gr, 0, none⟩ = some (.slice none 0 0) := (HGR.out.set_ 0 (.slice none 0 0)).cell 0
     have hbz := HB3.out.setCell (p := ⟨gr, 0, none⟩) HLE.out (.slice none 0 0)
     refine bodyPost_ret (v := .tuple #[.agg #[.slice none 0 0], .int .i64 21]) (by simp [results, Try.results28, go_sem, k0]) rfl ⟨rfl, hbz⟩
end Go.Proofs.Ytmaijkoopjocdaa
