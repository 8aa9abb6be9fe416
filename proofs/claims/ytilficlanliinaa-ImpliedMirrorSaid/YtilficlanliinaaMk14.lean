/- The walk of (*implied.maker).make. -/
import Derived.Test.YtilficlanliinaaImp
import Derived.Test.YtilficlanliinaaStand
import Derived.Test.YtilficlanliinaaTwo
import Derived.Deep.DeepCutAuto
namespace Go.Proofs.Ytilficlanliinaa
open Go.RowKit

/-- where a maker stands: its block, what it has made, the tops that it was handed (as they lay when All was entered) -/
structure Mk (W w : World) (gm : Nat) (ta : Option Addr) (c : Nat) (L : List Tp) (out : List Qt) (v : Value) : Prop where
  bel : Below W.heap.size W w
  blk : Blk w gm 60 #[.slice ta L.length c, v]
  row : QT.Row w W.heap.size v out
  tops : TP.Rd W ta L
  base : W.heap.size ≤ gm
theorem Mk.ne {W w : World} {gm : Nat} {ta : Option Addr} {c : Nat} {L : List Tp} {out : List Qt} {v : Value} (h : Mk W w gm ta c L out v) : ∀ g, v.ownBlock = some g → g ≠ gm :=
  fun g hg => (own_tyd h.row g hg).ne h.blk.tyd (by decide)
theorem Mk.keeps {W w w' : World} {gm : Nat} {ta : Option Addr} {c : Nat} {L : List Tp} {out : List Qt} {v : Value} (h : Mk W w gm ta c L out v) {F : Nat → Prop} (hk : Keeps F w w') (h1 : ¬ F gm) (h2 : ∀ g, v.ownBlock = some g → ¬ F g) (hF : ∀ g, F g → W.heap.size ≤ g) : Mk W w' gm ta c L out v :=
  ⟨h.bel.trans (hk.below hF h.bel.size), h.blk.keeps hk h1, own_keep h.row hk h2, h.tops, h.base⟩
theorem Mk.below {W w w' : World} {gm : Nat} {ta : Option Addr} {c : Nat} {L : List Tp} {out : List Qt} {v : Value} (h : Mk W w gm ta c L out v) (hb : Below w.heap.size w w') : Mk W w' gm ta c L out v :=
  h.keeps (Below.keeps (F := fun _ => False) hb) (fun x => x) (fun _ _ x => x) (fun _ x => x.elim)
/-- a top's cells, where it lies in the tops -/
def TpAt (w : World) (b o : Nat) (x : Tp) : Prop := w.cell? ⟨b, o, none⟩ = some (.bool x.h0) ∧ w.cell? ⟨b, o + 1, none⟩ = some (.bool x.h1) ∧ w.cell? ⟨b, o + 2, none⟩ = some (.int .i64 x.p0) ∧ w.cell? ⟨b, o + 3, none⟩ = some (.int .i64 x.p1) ∧ w.cell? ⟨b, o + 4, none⟩ = some (.int .i64 x.q0) ∧ w.cell? ⟨b, o + 5, none⟩ = some (.int .i64 x.q1)
theorem CellsAt.tp {w : World} {b o : Nat} {x : Tp} (h : CellsAt w b o x.cells) : TpAt w b o x := ⟨h 0 _ rfl, h 1 _ rfl, h 2 _ rfl, h 3 _ rfl, h 4 _ rfl, h 5 _ rfl⟩
/-- a side's place in a top -/
theorem Tp.hasAt (x : Tp) {k : Nat} (hk : k < 2) : x.cells.toArray[k]? = some (.bool (x.has (k + 1))) := by
  have : k = 0 ∨ k = 1 := by omega
  rcases this with rfl | rfl <;> rfl
theorem Tp.priceAt (x : Tp) {k : Nat} (hk : k < 2) : x.cells.toArray[2 + k]? = some (.int .i64 (x.price (k + 1))) := by
  have : k = 0 ∨ k = 1 := by omega
  rcases this with rfl | rfl <;> rfl
theorem Tp.qtyAt (x : Tp) {k : Nat} (hk : k < 2) : x.cells.toArray[4 + k]? = some (.int .i64 (x.qty (k + 1))) := by
  have : k = 0 ∨ k = 1 := by omega
  rcases this with rfl | rfl <;> rfl
theorem Tp.ok.price {x : Tp} (h : x.ok) (k : Int) : i64ok (x.price k) := by
  unfold Tp.price; split
  · exact h.p0
  · exact h.p1
theorem mkQ_no1 {L : List Tp} {ai bi : Nat} {sa sb : Int} {less : Bool} {x : Tp} (hx : L[ai]? = some x) (h : x.has sa = false) : mkQ L ai sa bi sb less = none := by
  unfold mkQ
  simp only [Int.toNat_natCast, hx]
  split
  · rename_i y x' y' h1 h2
    have : x = x' := by injection h1
    subst this
    rw [h, if_neg (by simp)]
  · rfl
theorem mkQ_eq {L : List Tp} {ai bi : Nat} {sa sb : Int} {less : Bool} {x y : Tp} (hx : L[ai]? = some x) (hy : L[bi]? = some y) : mkQ L ai sa bi sb less =
    if x.has sa = true ∧ y.has sb = true then (if (if less = true then subP (y.price sb) (x.price sa) else addP (x.price sa) (y.price sb)).2 = true then some ⟨(if less = true then subP (y.price sb) (x.price sa) else addP (x.price sa) (y.price sb)).1, min (x.qty sa) (y.qty sb), ai, sa, bi, sb⟩ else none) else none := by
  unfold mkQ
  simp only [Int.toNat_natCast, hx, hy]

theorem two_new (w : World) (t1 t2 : TypeId) (c1 c2 : Array Value) : Blk ((w.alloc (.cells c1 t1)).alloc (.cells c2 t2)) w.heap.size t1 c1 ∧ Blk ((w.alloc (.cells c1 t1)).alloc (.cells c2 t2)) (w.heap.size + 1) t2 c2 ∧ Below w.heap.size w ((w.alloc (.cells c1 t1)).alloc (.cells c2 t2)) := by
  have s1 : ∀ (w : World) (o : Obj), (w.alloc o).heap.size = w.heap.size + 1 := fun w o => by simp
  refine ⟨(Blk.new _ _ _).alloc _, ?_, (Below.allocN _ _).alloc (by rw [s1]; omega) _⟩
  have := Blk.new (w.alloc (.cells c1 t1)) t2 c2
  rw [s1] at this
  exact this
set_option maxRecDepth 100000 in
set_option maxHeartbeats 16000000 in
theorem make_any {W w : World} {gm : Nat} {ta : Option Addr} {c : Nat} {L : List Tp} {out : List Qt} {v : Value} (h : Mk W w gm ta c L out v) (ai bi ka kb : Nat) (less : Bool) (x y : Tp) (hx : L[ai]? = some x) (hy : L[bi]? = some y) (hka : ka < 2) (hkb : kb < 2) (hxo : x.ok) (hyo : y.ok) (_hL : L.length ≤ 1000000) (ho : out.length ≤ 1000) :
    Calls Try.prog 27 #[.pointer (some ⟨gm, 0, none⟩), .agg #[.int .i64 ai, .int .i64 ((ka : Int) + 1)], .agg #[.int .i64 bi, .int .i64 ((kb : Int) + 1)], .bool less] w fun e w' => e = .returned (.tuple #[]) ∧ (∃ v', Mk W w' gm ta c L (out ++ (mkQ L ai (ka + 1) bi (kb + 1) less).toList) v') ∧ Keeps (fun g => g = gm ∨ v.ownBlock = some g) w w' := by
  have s1 : ∀ (w : World) (o : Obj), (w.alloc o).heap.size = w.heap.size + 1 := fun w o => by simp
  have HQ := Lib.hid (mkQ_eq (less := less) (sa := (ka : Int) + 1) (sb := (kb : Int) + 1) hx hy)
  obtain ⟨b, off, rfl, hbl, hxa⟩ : ∃ b off, ta = some ⟨b, off, none⟩ ∧ b < W.heap.size ∧ CellsAt W b (off + ai * 6) x.cells := by
    obtain ⟨b, off, h1, h2, h3⟩ := h.tops ai x hx
    exact ⟨b, off, h1, h2, h3⟩
  have hya : CellsAt W b (off + bi * 6) y.cells := by
    obtain ⟨b', off', h1, h2, h3⟩ := h.tops bi y hy
    injection h1 with h1
    injection h1 with h1 h4
    subst h1
    subst h4
    exact h3
  have hal : (ai : Int) < (L.length : Int) := by have := lt_of_get hx; omega
  have hbl2 : (bi : Int) < (L.length : Int) := by have := lt_of_get hy; omega
  have HM := Lib.hid h
  have hXA := hxa.below h.bel hbl
  have hYA := hya.below h.bel hbl
  have hbw : b < w.heap.size := Nat.lt_of_lt_of_le hbl h.bel.size
  clear h hx hy hxa hya
  go_enter Try.func27, Try.ntmps27
  go_upto_region 1 with (fail)
  have hw0 : Below w.heap.size w ((w.alloc (.cells #[.int .i64 ai, .int .i64 ((ka : Int) + 1)] 35)).alloc (.cells #[.int .i64 bi, .int .i64 ((kb : Int) + 1)] 35)) := (Below.allocN _ _).alloc (by rw [s1]; omega) _
  have hA0 : Blk ((w.alloc (.cells #[.int .i64 ai, .int .i64 ((ka : Int) + 1)] 35)).alloc (.cells #[.int .i64 bi, .int .i64 ((kb : Int) + 1)] 35)) w.heap.size 35 #[.int .i64 ai, .int .i64 ((ka : Int) + 1)] := (Blk.new _ _ _).alloc _
  have hB0 : Blk ((w.alloc (.cells #[.int .i64 ai, .int .i64 ((ka : Int) + 1)] 35)).alloc (.cells #[.int .i64 bi, .int .i64 ((kb : Int) + 1)] 35)) (w.heap.size + 1) 35 #[.int .i64 bi, .int .i64 ((kb : Int) + 1)] := by
    have := Blk.new (w.alloc (.cells #[.int .i64 ai, .int .i64 ((ka : Int) + 1)] 35)) 35 #[.int .i64 bi, .int .i64 ((kb : Int) + 1)]
    rw [s1] at this
    exact this
  generalize (w.alloc (.cells #[.int .i64 ai, .int .i64 ((ka : Int) + 1)] 35)).alloc (.cells #[.int .i64 bi, .int .i64 ((kb : Int) + 1)] 35) = w0 at *
  have HM0 := Lib.hid (HM.out.below hw0)
  have HX := Lib.hid (hXA.below hw0 hbw).tp
  have HY := Lib.hid (hYA.below hw0 hbw).tp
  have HA := Lib.hid hA0
  have HB := Lib.hid hB0
  have HW0 := Lib.hid hw0
  clear hXA hYA hA0 hB0 hw0
  go_cut [8, 9] (fun u1 u2 wx => ∃ gx gy, u1 = .pointer (some ⟨gx, 0, none⟩) ∧ u2 = .pointer (some ⟨gy, 0, none⟩) ∧ Blk wx gx 42 x.cells.toArray ∧ Blk wx gy 42 y.cells.toArray ∧ Below w0.heap.size w0 wx)
  case first =>
    have hb0 := HM0.out.blk
    have hx0 : w0.cell? ⟨gm, 0, none⟩ = some (.slice (some ⟨b, off, none⟩) L.length c) := hb0.cell 0
    have ha0 : w0.cell? ⟨w.heap.size, 0, none⟩ = some (.int .i64 ai) := HA.out.cell 0
    have hbb0 : w0.cell? ⟨w.heap.size + 1, 0, none⟩ = some (.int .i64 bi) := HB.out.cell 0
    obtain ⟨c0, c1, c2, c3, c4, c5⟩ := HX.out
    obtain ⟨d0, d1, d2, d3, d4, d5⟩ := HY.out
    go_wp2_with fail
    have HS : Hid (∀ wx, Below w0.heap.size w0 wx → (fun w' => w'.cell? ⟨gm, 0, none⟩ = some (.slice (some ⟨b, off, none⟩) L.length c) ∧ w'.cell? ⟨w.heap.size, 0, none⟩ = some (.int .i64 ai) ∧ w'.cell? ⟨w.heap.size + 1, 0, none⟩ = some (.int .i64 bi) ∧ (w'.cell? ⟨b, off + ai * 6, none⟩ = some (.bool x.h0) ∧ w'.cell? ⟨b, off + ai * 6 + 1, none⟩ = some (.bool x.h1) ∧ w'.cell? ⟨b, off + ai * 6 + 2, none⟩ = some (.int .i64 x.p0) ∧ w'.cell? ⟨b, off + ai * 6 + 3, none⟩ = some (.int .i64 x.p1) ∧ w'.cell? ⟨b, off + ai * 6 + 4, none⟩ = some (.int .i64 x.q0) ∧ w'.cell? ⟨b, off + ai * 6 + 5, none⟩ = some (.int .i64 x.q1)) ∧ (w'.cell? ⟨b, off + bi * 6, none⟩ = some (.bool y.h0) ∧ w'.cell? ⟨b, off + bi * 6 + 1, none⟩ = some (.bool y.h1) ∧ w'.cell? ⟨b, off + bi * 6 + 2, none⟩ = some (.int .i64 y.p0) ∧ w'.cell? ⟨b, off + bi * 6 + 3, none⟩ = some (.int .i64 y.p1) ∧ w'.cell? ⟨b, off + bi * 6 + 4, none⟩ = some (.int .i64 y.q0) ∧ w'.cell? ⟨b, off + bi * 6 + 5, none⟩ = some (.int .i64 y.q1))) wx) := Lib.hid fun wx hb => by
      have hm := HM0.out.blk.below hb
      have h1 := (HA.out.below hb).cell 0
      have h2 := (HB.out.below hb).cell 0
      have hl : b < w0.heap.size := Nat.lt_of_lt_of_le hbw HW0.out.size
      have e : ∀ o, wx.cell? ⟨b, o, none⟩ = w0.cell? ⟨b, o, none⟩ := fun o => hb.cell (p := ⟨b, o, none⟩) hl
      exact ⟨hm.cell 0, h1, h2, ⟨(e _).trans c0, (e _).trans c1, (e _).trans c2, (e _).trans c3, (e _).trans c4, (e _).trans c5⟩, ⟨(e _).trans d0, (e _).trans d1, (e _).trans d2, (e _).trans d3, (e _).trans d4, (e _).trans d5⟩⟩
    refine wp_region_E (S := fun w' => w'.cell? ⟨gm, 0, none⟩ = some (.slice (some ⟨b, off, none⟩) L.length c) ∧ w'.cell? ⟨w.heap.size, 0, none⟩ = some (.int .i64 ai) ∧ w'.cell? ⟨w.heap.size + 1, 0, none⟩ = some (.int .i64 bi) ∧ (w'.cell? ⟨b, off + ai * 6, none⟩ = some (.bool x.h0) ∧ w'.cell? ⟨b, off + ai * 6 + 1, none⟩ = some (.bool x.h1) ∧ w'.cell? ⟨b, off + ai * 6 + 2, none⟩ = some (.int .i64 x.p0) ∧ w'.cell? ⟨b, off + ai * 6 + 3, none⟩ = some (.int .i64 x.p1) ∧ w'.cell? ⟨b, off + ai * 6 + 4, none⟩ = some (.int .i64 x.q0) ∧ w'.cell? ⟨b, off + ai * 6 + 5, none⟩ = some (.int .i64 x.q1)) ∧ (w'.cell? ⟨b, off + bi * 6, none⟩ = some (.bool y.h0) ∧ w'.cell? ⟨b, off + bi * 6 + 1, none⟩ = some (.bool y.h1) ∧ w'.cell? ⟨b, off + bi * 6 + 2, none⟩ = some (.int .i64 y.p0) ∧ w'.cell? ⟨b, off + bi * 6 + 3, none⟩ = some (.int .i64 y.p1) ∧ w'.cell? ⟨b, off + bi * 6 + 4, none⟩ = some (.int .i64 y.q0) ∧ w'.cell? ⟨b, off + bi * 6 + 5, none⟩ = some (.int .i64 y.q1))) (by kernel_rfl) (HS.out _ (Below.refl _ _).drew) (fun hHeld => ?_)
    refine wpE_take (i := 0) (oi := ?oi2) (v := ?v2) ?hi2 (by kernel_rfl) (by kernel_rfl) (by kernel_rfl) (by kernel_rfl) ?hQ2 ?hy2 (by assumption) ?rest2
    case hi2 => (simp only [List.getElem?_toArray]; rfl)
    case hQ2 => exact fun _ _ _ h => h
    case hy2 => exact Or.inl ⟨by rfl, by (intro w hSw; (try dsimp only at hSw); go_simp; try with_reducible rfl)⟩
    try simp only [Act.put, List.setIfInBounds_toArray, List.set_cons_zero, List.set_cons_succ]
    refine wpE_take (i := 1) (oi := ?oi3) (v := ?v3) ?hi3 (by kernel_rfl) (by kernel_rfl) (by kernel_rfl) (by kernel_rfl) ?hQ3 ?hy3 (by assumption) ?rest3
    case hi3 => (simp only [List.getElem?_toArray]; rfl)
    case hQ3 => exact fun _ _ _ h => h
    case hy3 => exact Or.inl ⟨by rfl, by (intro w hSw; (try dsimp only at hSw); go_simp; try with_reducible rfl)⟩
    try simp only [Act.put, List.setIfInBounds_toArray, List.set_cons_zero, List.set_cons_succ]
    refine wpE_take (i := 2) (oi := ?oi4) (v := ?v4) ?hi4 (by kernel_rfl) (by kernel_rfl) (by kernel_rfl) (by kernel_rfl) ?hQ4 ?hy4 (by assumption) ?rest4
    case hi4 => (simp only [List.getElem?_toArray]; rfl)
    case hQ4 => exact fun _ _ _ h => h
    case hy4 => exact Or.inl ⟨by rfl, by (intro w hSw; (try dsimp only at hSw); go_simp; try with_reducible rfl)⟩
    try simp only [Act.put, List.setIfInBounds_toArray, List.set_cons_zero, List.set_cons_succ]
    refine wpE_take (i := 3) (oi := ?oi5) (v := ?v5) ?hi5 (by kernel_rfl) (by kernel_rfl) (by kernel_rfl) (by kernel_rfl) ?hQ5 ?hy5 (by assumption) ?rest5
    case hi5 => (simp only [List.getElem?_toArray]; rfl)
    case hQ5 => exact fun _ _ _ h => h
    case hy5 => exact Or.inl ⟨by rfl, by (intro w hSw; (try dsimp only at hSw); go_simp; try with_reducible rfl)⟩
    try simp only [Act.put, List.setIfInBounds_toArray, List.set_cons_zero, List.set_cons_succ]
    refine wpE_take (i := 4) (oi := ?oi6) (v := ?v6) ?hi6 (by kernel_rfl) (by kernel_rfl) (by kernel_rfl) (by kernel_rfl) ?hQ6 ?hy6 (by assumption) ?rest6
    case hi6 => (simp only [List.getElem?_toArray]; rfl)
    case hQ6 => exact fun _ _ _ h => h
    case hy6 => exact Or.inl ⟨by rfl, by (intro w hSw; (try dsimp only at hSw); go_simp; try with_reducible rfl)⟩
    try simp only [Act.put, List.setIfInBounds_toArray, List.set_cons_zero, List.set_cons_succ]
    refine wpE_take (i := 5) (oi := ?oi7) (v := ?v7) ?hi7 (by kernel_rfl) (by kernel_rfl) (by kernel_rfl) (by kernel_rfl) ?hQ7 ?hy7 (by assumption) ?rest7
    case hi7 => (simp only [List.getElem?_toArray]; rfl)
    case hQ7 => exact fun _ _ _ h => h
    case hy7 => exact Or.inl ⟨by rfl, by (intro w hSw; (try dsimp only at hSw); go_simp; try with_reducible rfl)⟩
    try simp only [Act.put, List.setIfInBounds_toArray, List.set_cons_zero, List.set_cons_succ]
    refine wpE_take (i := 6) (oi := ?oi8) (v := ?v8) ?hi8 (by kernel_rfl) (by kernel_rfl) (by kernel_rfl) (by kernel_rfl) ?hQ8 ?hy8 (by assumption) ?rest8
    case hi8 => (simp only [List.getElem?_toArray]; rfl)
    case hQ8 => exact fun _ _ _ h => h
    case hy8 => exact Or.inl ⟨by rfl, by (intro w hSw; (try dsimp only at hSw); go_simp; try with_reducible rfl)⟩
    try simp only [Act.put, List.setIfInBounds_toArray, List.set_cons_zero, List.set_cons_succ]
    refine wpE_take (i := 7) (oi := ?oi9) (v := ?v9) ?hi9 (by kernel_rfl) (by kernel_rfl) (by kernel_rfl) (by kernel_rfl) ?hQ9 ?hy9 (by assumption) ?rest9
    case hi9 => (simp only [List.getElem?_toArray]; rfl)
    case hQ9 => exact fun _ _ _ h => h
    case hy9 => exact Or.inl ⟨by rfl, by (intro w hSw; (try dsimp only at hSw); go_simp; try with_reducible rfl)⟩
    try simp only [Act.put, List.setIfInBounds_toArray, List.set_cons_zero, List.set_cons_succ]
    refine wpE_take (i := 8) (oi := ?oi10) (v := ?v10) ?hi10 (by kernel_rfl) (by kernel_rfl) (by kernel_rfl) (by kernel_rfl) ?hQ10 ?hy10 (by assumption) ?rest10
    case hi10 => (simp only [List.getElem?_toArray]; rfl)
    case hQ10 => exact fun _ _ _ h => h
    case hy10 => exact Or.inl ⟨by rfl, by (intro w hSw; (try dsimp only at hSw); go_simp; try with_reducible rfl)⟩
    try simp only [Act.put, List.setIfInBounds_toArray, List.set_cons_zero, List.set_cons_succ]
    refine wpE_take (i := 9) (oi := ?oi11) (v := ?v11) ?hi11 (by kernel_rfl) (by kernel_rfl) (by kernel_rfl) (by kernel_rfl) ?hQ11 ?hy11 (by assumption) ?rest11
    case hi11 => (simp only [List.getElem?_toArray]; rfl)
    case hQ11 => exact fun _ _ _ h => h
    case hy11 => exact Or.inl ⟨by rfl, by (intro w hSw; (try dsimp only at hSw); go_simp; try with_reducible rfl)⟩
    try simp only [Act.put, List.setIfInBounds_toArray, List.set_cons_zero, List.set_cons_succ]
    refine wpE_take (i := 10) (oi := ?oi12) (v := ?v12) ?hi12 (by kernel_rfl) (by kernel_rfl) (by kernel_rfl) (by kernel_rfl) ?hQ12 ?hy12 (by assumption) ?rest12
    case hi12 => (simp only [List.getElem?_toArray]; rfl)
    case hQ12 => exact fun _ _ _ h => h
    case hy12 => exact Or.inl ⟨by rfl, by (intro w hSw; (try dsimp only at hSw); go_simp; try with_reducible rfl)⟩
    try simp only [Act.put, List.setIfInBounds_toArray, List.set_cons_zero, List.set_cons_succ]
    refine wpE_take (i := 11) (oi := ?oi13) (v := ?v13) ?hi13 (by kernel_rfl) (by kernel_rfl) (by kernel_rfl) (by kernel_rfl) ?hQ13 ?hy13 (by assumption) ?rest13
    case hi13 => (simp only [List.getElem?_toArray]; rfl)
    case hQ13 => exact fun _ _ _ h => h
    case hy13 => exact Or.inl ⟨by rfl, by (intro w hSw; (try dsimp only at hSw); go_simp; try with_reducible rfl)⟩
    try simp only [Act.put, List.setIfInBounds_toArray, List.set_cons_zero, List.set_cons_succ]
    refine wpE_take (i := 12) (oi := ?oi14) (v := ?v14) ?hi14 (by kernel_rfl) (by kernel_rfl) (by kernel_rfl) (by kernel_rfl) ?hQ14 ?hy14 (by assumption) ?rest14
    case hi14 => (simp only [List.getElem?_toArray]; rfl)
    case hQ14 => exact fun _ _ _ h => h
    case hy14 => exact Or.inl ⟨by rfl, by (intro w hSw; (try dsimp only at hSw); go_simp; try with_reducible rfl)⟩
    try simp only [Act.put, List.setIfInBounds_toArray, List.set_cons_zero, List.set_cons_succ]
    refine wpE_take (i := 13) (oi := ?oi15) (v := ?v15) ?hi15 (by kernel_rfl) (by kernel_rfl) (by kernel_rfl) (by kernel_rfl) ?hQ15 ?hy15 (by assumption) ?rest15
    case hi15 => (simp only [List.getElem?_toArray]; rfl)
    case hQ15 => exact fun _ _ _ h => h
    case hy15 => exact Or.inl ⟨by rfl, by (intro w hSw; (try dsimp only at hSw); go_simp; try with_reducible rfl)⟩
    try simp only [Act.put, List.setIfInBounds_toArray, List.set_cons_zero, List.set_cons_succ]
    refine wpE_take (i := 14) (oi := ?oi16) (v := ?v16) ?hi16 (by kernel_rfl) (by kernel_rfl) (by kernel_rfl) (by kernel_rfl) ?hQ16 ?hy16 (by assumption) ?rest16
    case hi16 => (simp only [List.getElem?_toArray]; rfl)
    case hQ16 => exact fun _ _ _ h => h
    case hy16 => exact Or.inl ⟨by rfl, by (intro w hSw; (try dsimp only at hSw); go_simp; try with_reducible rfl)⟩
    try simp only [Act.put, List.setIfInBounds_toArray, List.set_cons_zero, List.set_cons_succ]
    refine wpE_take (i := 15) (oi := ?oi17) (v := ?v17) ?hi17 (by kernel_rfl) (by kernel_rfl) (by kernel_rfl) (by kernel_rfl) ?hQ17 ?hy17 (by assumption) ?rest17
    case hi17 => (simp only [List.getElem?_toArray]; rfl)
    case hQ17 => exact fun _ _ _ h => h
    case hy17 => exact Or.inl ⟨by rfl, by (intro w hSw; (try dsimp only at hSw); go_simp; try with_reducible rfl)⟩
    try simp only [Act.put, List.setIfInBounds_toArray, List.set_cons_zero, List.set_cons_succ]
    refine wpE_two (i := 16) (j := 17) (oi := ?oa1) (oj := ?ob1) ?ha1 ?hb1 (by kernel_rfl) (fun K hK => ?_) (fun K hK => ?_)
    case ha1 => (simp only [List.getElem?_toArray]; rfl)
    case hb1 => (simp only [List.getElem?_toArray]; rfl)
    · go_simp
      refine hK.out _ _ (by first | exact HS.out _ (Below.allocN w0 _).drew | exact HS.out _ ((Below.allocN w0 _).alloc (by rw [s1]; omega) _).drew) (fun hHeld => ?_)
      clear hK K
      refine wpE_one (i := 17) (o := ?o39) ?ho39 (by kernel_rfl) (fun K hK => ?_)
      case ho39 => (simp only [List.getElem?_toArray]; rfl)
      go_simp
      refine hK.out _ _ (by first | exact HS.out _ (Below.allocN w0 _).drew | exact HS.out _ ((Below.allocN w0 _).alloc (by rw [s1]; omega) _).drew) (fun hHeld => ?_)
      clear hK K
      refine wpE_one (i := 18) (o := ?o40) ?ho40 (by kernel_rfl) (fun K hK => ?_)
      case ho40 => (simp only [List.getElem?_toArray]; rfl)
      go_simp
      refine hK.out _ _ (by first | exact HS.out _ (Below.allocN w0 _).drew | exact HS.out _ ((Below.allocN w0 _).alloc (by rw [s1]; omega) _).drew) (fun hHeld => ?_)
      clear hK K
      refine wpE_last (i := 19) (o := ?o45) ?ho45 (by kernel_rfl) (by kernel_rfl) (by kernel_rfl) (fun K hK => ?_)
      case ho45 => (simp only [List.getElem?_toArray]; rfl)
      go_simp
      refine hK.out _ _ ?_
      clear hK K hx0 ha0 hbb0 c0 c1 c2 c3 c4 c5 d0 d1 d2 d3 d4 d5
      go_wp2_with fail
      go_meet
      have h2 := two_new w0 42 42 x.cells.toArray y.cells.toArray
      exact ⟨w0.heap.size, w0.heap.size + 1, rfl, rfl, h2.1, h2.2.1, h2.2.2.drew⟩
    · go_simp
      refine hK.out _ _ (by first | exact HS.out _ (Below.allocN w0 _).drew | exact HS.out _ ((Below.allocN w0 _).alloc (by rw [s1]; omega) _).drew) (fun hHeld => ?_)
      clear hK K
      refine wpE_one (i := 16) (o := ?o41) ?ho41 (by kernel_rfl) (fun K hK => ?_)
      case ho41 => (simp only [List.getElem?_toArray]; rfl)
      go_simp
      refine hK.out _ _ (by first | exact HS.out _ (Below.allocN w0 _).drew | exact HS.out _ ((Below.allocN w0 _).alloc (by rw [s1]; omega) _).drew) (fun hHeld => ?_)
      clear hK K
      refine wpE_one (i := 18) (o := ?o42) ?ho42 (by kernel_rfl) (fun K hK => ?_)
      case ho42 => (simp only [List.getElem?_toArray]; rfl)
      go_simp
      refine hK.out _ _ (by first | exact HS.out _ (Below.allocN w0 _).drew | exact HS.out _ ((Below.allocN w0 _).alloc (by rw [s1]; omega) _).drew) (fun hHeld => ?_)
      clear hK K
      refine wpE_last (i := 19) (o := ?o46) ?ho46 (by kernel_rfl) (by kernel_rfl) (by kernel_rfl) (fun K hK => ?_)
      case ho46 => (simp only [List.getElem?_toArray]; rfl)
      go_simp
      refine hK.out _ _ ?_
      clear hK K hx0 ha0 hbb0 c0 c1 c2 c3 c4 c5 d0 d1 d2 d3 d4 d5
      go_wp2_with fail
      go_meet
      have h2 := two_new w0 42 42 y.cells.toArray x.cells.toArray
      exact ⟨w0.heap.size + 1, w0.heap.size, rfl, rfl, h2.2.1, h2.1, h2.2.2.drew⟩
  case rest =>
  obtain ⟨gx, gy, rfl, rfl, hgx, hgy, hbc⟩ := hcut
  have HM1 := Lib.hid (HM0.out.below hbc)
  have HA1 := Lib.hid (HA.out.below hbc)
  have HB1 := Lib.hid (HB.out.below hbc)
  have HGX := Lib.hid hgx
  have HGY := Lib.hid hgy
  have HW1 := Lib.hid (HW0.out.trans (hbc.mono HW0.out.size))
  have hx1 : wc.cell? ⟨gx, ka, none⟩ = some (.bool (x.has (ka + 1))) := (hgx.cell ka).trans (x.hasAt hka)
  have hy1 : wc.cell? ⟨gy, kb, none⟩ = some (.bool (y.has (kb + 1))) := (hgy.cell kb).trans (y.hasAt hkb)
  clear hgx hgy hbc HM0 HA HB HW0 HX HY
  have ha1 : wc.cell? ⟨w.heap.size, 1, none⟩ = some (.int .i64 ((ka : Int) + 1)) := HA1.out.cell 1
  have hb1 : wc.cell? ⟨w.heap.size + 1, 1, none⟩ = some (.int .i64 ((kb : Int) + 1)) := HB1.out.cell 1
  have y1 : IntKind.i64.wrap ((ka : Int) + 1 - 1) = (ka : Int) := by rw [Int.add_sub_cancel]; exact IntWalk.i64_in _ (by omega)
  have y2 : IntKind.i64.wrap ((kb : Int) + 1 - 1) = (kb : Int) := by rw [Int.add_sub_cancel]; exact IntWalk.i64_in _ (by omega)
  have hka' : (ka : Int) < 2 := by omega
  have hkb' : (kb : Int) < 2 := by omega
  go_upto_region 2 with (fail)
  go_quiet (fail)
  clear ha1 hb1 hx1 hy1 y1 y2
  have hbq : Below wc.heap.size wc (wc.drewN nq) := Below.drewN_of wc nq
  generalize wc.drewN nq = w2 at *
  have HM2 := Lib.hid (HM1.out.below hbq)
  have HA2 := Lib.hid (HA1.out.below hbq)
  have HB2 := Lib.hid (HB1.out.below hbq)
  have hgx := HGX.out.below hbq
  have hgy := HGY.out.below hbq
  have HGX2 := Lib.hid hgx
  have HGY2 := Lib.hid hgy
  have HW2 := Lib.hid (HW1.out.trans (hbq.mono HW1.out.size))
  have hx1 : w2.cell? ⟨gx, ka, none⟩ = some (.bool (x.has (ka + 1))) := (hgx.cell ka).trans (x.hasAt hka)
  have hy1 : w2.cell? ⟨gy, kb, none⟩ = some (.bool (y.has (kb + 1))) := (hgy.cell kb).trans (y.hasAt hkb)
  clear hgx hgy hbq HM1 HA1 HB1 HGX HGY HW1
  have HSAME : Hid (∀ wz, Below w2.heap.size w2 wz → mkQ L ai (ka + 1) bi (kb + 1) less = none → (∃ v', Mk W wz gm (some ⟨b, off, none⟩) c L (out ++ (mkQ L ai (ka + 1) bi (kb + 1) less).toList) v') ∧ Keeps (fun g => g = gm ∨ v.ownBlock = some g) w wz) := Lib.hid fun wz hb hq => by
    refine ⟨⟨v, ?_⟩, Below.keeps (HW2.out.trans (hb.mono HW2.out.size))⟩
    rw [hq]
    simp only [Option.toList_none, List.append_nil]
    exact HM2.out.below hb
  by_cases h1 : x.has (ka + 1) = true ∧ y.has (kb + 1) = true
  case neg =>
    have HQN : Hid (mkQ L ai (ka + 1) bi (kb + 1) less = none) := Lib.hid (by rw [HQ.out, if_neg h1])
    have hcs : x.has (ka + 1) = false ∨ (x.has (ka + 1) = true ∧ y.has (kb + 1) = false) := by
      cases hp : x.has (ka + 1) with
      | false => exact .inl rfl
      | true => exact .inr ⟨rfl, by
          cases hq : y.has (kb + 1) with
          | false => rfl
          | true => exact absurd ⟨hp, hq⟩ h1⟩
    clear h1
    rcases hcs with e1 | ⟨e1, e2⟩
    · rw [e1] at hx1
      clear e1
      go_wp2_with fail
      try simp only [Exit.inBlock, Exit.then]
      refine bodyPost_ret (results_none rfl _ _ _) rfl ?_
      exact ⟨rfl, HSAME.out _ (Below.refl _ _) HQN.out⟩
    · rw [e1] at hx1
      rw [e2] at hy1
      clear e1 e2
      go_wp2_with fail
      try simp only [Exit.inBlock, Exit.then]
      refine bodyPost_ret (results_none rfl _ _ _) rfl ?_
      exact ⟨rfl, HSAME.out _ (Below.refl _ _) HQN.out⟩
  case pos =>
  obtain ⟨e1, e2⟩ := h1
  have HQ1 : Hid (mkQ L ai (ka + 1) bi (kb + 1) less = _) := Lib.hid (by rw [HQ.out, if_pos ⟨e1, e2⟩])
  rw [e1] at hx1
  rw [e2] at hy1
  clear e1 e2 HQ
  have hx2 : w2.cell? ⟨gx, 2 + ka, none⟩ = some (.int .i64 (x.price (ka + 1))) := (HGX2.out.cell (2 + ka)).trans (x.priceAt hka)
  have hy2 : w2.cell? ⟨gy, 2 + kb, none⟩ = some (.int .i64 (y.price (kb + 1))) := (HGY2.out.cell (2 + kb)).trans (y.priceAt hkb)
  obtain ⟨px, hpx⟩ : ∃ p, x.price (ka + 1) = p := ⟨_, rfl⟩
  obtain ⟨py, hpy⟩ : ∃ p, y.price (kb + 1) = p := ⟨_, rfl⟩
  have hpxo : i64ok px := by rw [← hpx]; exact hxo.price _
  have hpyo : i64ok py := by rw [← hpy]; exact hyo.price _
  rw [hpx] at hx2 HQ1
  rw [hpy] at hy2 HQ1
  clear hpx hpy hxo hyo
  have HADD := Lib.hid fun n => (add_any px py (w2.drewN n) hpxo hpyo).mono fun e w' h => (⟨h.1, h.2.symm⟩ : e = .returned (.tuple #[.int .i64 (addP px py).1, .bool (addP px py).2]) ∧ w' = w2.drewN n)
  go_upto_region 4 with (fail)
  clear hx1 hy1
  go_quiet ((go_at_call 40; exact Calls.quiet_of_same (HADD.out _)))
  clear HADD
  have hbq : Below w2.heap.size w2 (w2.drewN nq) := Below.drewN_of w2 nq
  generalize w2.drewN nq = w3 at *
  have HB3 := Lib.hid hbq
  have hx3 : w3.cell? ⟨gx, 2 + ka, none⟩ = some (.int .i64 px) := (hbq.cell (p := ⟨gx, 2 + ka, none⟩) HGX2.out.lt).trans hx2
  have hy3 : w3.cell? ⟨gy, 2 + kb, none⟩ = some (.int .i64 py) := (hbq.cell (p := ⟨gy, 2 + kb, none⟩) HGY2.out.lt).trans hy2
  clear hbq hx2 hy2
  have HSUB := Lib.hid fun n => (sub_any py px (w3.drewN n) hpyo hpxo).mono fun e w' h => (⟨h.1, h.2.symm⟩ : e = .returned (.tuple #[.int .i64 (subP py px).1, .bool (subP py px).2]) ∧ w' = w3.drewN n)
  obtain ⟨r0, r1, hr⟩ : ∃ r0 r1, (if less = true then subP py px else addP px py) = (r0, r1) := ⟨_, _, rfl⟩
  rw [hr] at HQ1
  have HR := Lib.hid hr
  clear hr
  go_upto_if 60 with (fail)
  go_cut [12, 13] (fun u1 u2 wx => u1 = .int .i64 r0 ∧ u2 = .bool r1 ∧ Below w3.heap.size w3 wx)
  case first =>
    cases less with
    | false =>
      have hr := HR.out
      rw [if_neg (by simp)] at hr
      rw [hr]
      clear hr
      go_wp2_with fail
      go_meet
      exact ⟨rfl, rfl, Below.refl _ _⟩
    | true =>
      have hr := HR.out
      rw [if_pos rfl] at hr
      rw [hr] at HSUB
      clear hr
      generalize addP px py = ra at *
      go_upto_region 6 with (fail)
      go_quiet ((go_at_call 41; exact Calls.quiet_of_same (HSUB.out _)))
      go_wp2_with fail
      go_meet
      exact ⟨rfl, rfl, Below.drewN_of w3 _⟩
  case rest =>
  obtain ⟨rfl, rfl, hbc⟩ := hcut
  clear hx3 hy3 HSUB HR hpxo hpyo
  have HB4 := Lib.hid (HB3.out.trans (hbc.mono HB3.out.size))
  clear hbc HB3
  cases r1 with
  | false =>
    have HQN : Hid (mkQ L ai (ka + 1) bi (kb + 1) less = none) := Lib.hid (by rw [HQ1.out, if_neg (by simp)])
    go_wp2_with fail
    go_end0
    exact ⟨rfl, HSAME.out _ HB4.out HQN.out⟩
  | true =>
    have HQS : Hid (mkQ L ai (ka + 1) bi (kb + 1) less = some ⟨r0, min (x.qty (ka + 1)) (y.qty (kb + 1)), ai, ka + 1, bi, kb + 1⟩) := Lib.hid (by rw [HQ1.out, if_pos rfl])
    clear HQ1 HSAME
    have HM4 := Lib.hid (HM2.out.below HB4.out)
    have HK4 : Hid (Below w.heap.size w wc) := Lib.hid (HW2.out.trans (HB4.out.mono HW2.out.size))
    have hgx := HGX2.out.below HB4.out
    have hgy := HGY2.out.below HB4.out
    have HA4 := Lib.hid (HA2.out.below HB4.out)
    have HB5 := Lib.hid (HB2.out.below HB4.out)
    have HGX4 := Lib.hid hgx
    have HGY4 := Lib.hid hgy
    have hxq : wc.cell? ⟨gx, 4 + ka, none⟩ = some (.int .i64 (x.qty (ka + 1))) := (hgx.cell (4 + ka)).trans (x.qtyAt hka)
    have hyq : wc.cell? ⟨gy, 4 + kb, none⟩ = some (.int .i64 (y.qty (kb + 1))) := (hgy.cell (4 + kb)).trans (y.qtyAt hkb)
    obtain ⟨qx, hqx⟩ : ∃ p, x.qty (ka + 1) = p := ⟨_, rfl⟩
    obtain ⟨qy, hqy⟩ : ∃ p, y.qty (kb + 1) = p := ⟨_, rfl⟩
    rw [hqx] at hxq HQS
    rw [hqy] at hyq HQS
    clear hqx hqy hgx hgy HM2 HA2 HB2 HGX2 HGY2 HW2 HB4
    have hv0 : wc.cell? ⟨gm, 1, none⟩ = some v := HM4.out.blk.cell 1
    have ha0 : wc.cell? ⟨w.heap.size, 0, none⟩ = some (.int .i64 ai) := HA4.out.cell 0
    have ha1 : wc.cell? ⟨w.heap.size, 1, none⟩ = some (.int .i64 ((ka : Int) + 1)) := HA4.out.cell 1
    have hb0 : wc.cell? ⟨w.heap.size + 1, 0, none⟩ = some (.int .i64 bi) := HB5.out.cell 0
    have hb1 : wc.cell? ⟨w.heap.size + 1, 1, none⟩ = some (.int .i64 ((kb : Int) + 1)) := HB5.out.cell 1
    obtain ⟨va, vc, hvf⟩ := HM4.out.row.form
    rw [hvf] at hv0
    have HVF := Lib.hid hvf
    clear hvf
    go_wp2_with fail
    refine wp_region_E (S := fun w' => w'.cell? ⟨gm, 1, none⟩ = some (.slice va out.length vc) ∧ w'.cell? ⟨w.heap.size, 0, none⟩ = some (.int .i64 ai) ∧ w'.cell? ⟨w.heap.size, 1, none⟩ = some (.int .i64 ((ka : Int) + 1)) ∧ w'.cell? ⟨w.heap.size + 1, 0, none⟩ = some (.int .i64 bi) ∧ w'.cell? ⟨w.heap.size + 1, 1, none⟩ = some (.int .i64 ((kb : Int) + 1)) ∧ w'.cell? ⟨gx, 4 + ka, none⟩ = some (.int .i64 qx) ∧ w'.cell? ⟨gy, 4 + kb, none⟩ = some (.int .i64 qy)) (by kernel_rfl) ⟨hv0, ha0, ha1, hb0, hb1, hxq, hyq⟩ (fun hHeld => ?_)
    refine wpE_take (i := 0) (oi := ?oi18) (v := ?v18) ?hi18 (by kernel_rfl) (by kernel_rfl) (by kernel_rfl) (by kernel_rfl) ?hQ18 ?hy18 (by assumption) ?rest18
    case hi18 => (simp only [List.getElem?_toArray]; rfl)
    case hQ18 => exact fun _ _ _ h => h
    case hy18 => exact Or.inl ⟨by rfl, by (intro w hSw; (try dsimp only at hSw); go_simp; try with_reducible rfl)⟩
    try simp only [Act.put, List.setIfInBounds_toArray, List.set_cons_zero, List.set_cons_succ]
    refine wpE_take (i := 1) (oi := ?oi19) (v := ?v19) ?hi19 (by kernel_rfl) (by kernel_rfl) (by kernel_rfl) (by kernel_rfl) ?hQ19 ?hy19 (by assumption) ?rest19
    case hi19 => (simp only [List.getElem?_toArray]; rfl)
    case hQ19 => exact fun _ _ _ h => h
    case hy19 => exact Or.inl ⟨by rfl, by (intro w hSw; (try dsimp only at hSw); go_simp; try with_reducible rfl)⟩
    try simp only [Act.put, List.setIfInBounds_toArray, List.set_cons_zero, List.set_cons_succ]
    refine wpE_take (i := 2) (oi := ?oi20) (v := ?v20) ?hi20 (by kernel_rfl) (by kernel_rfl) (by kernel_rfl) (by kernel_rfl) ?hQ20 ?hy20 (by assumption) ?rest20
    case hi20 => (simp only [List.getElem?_toArray]; rfl)
    case hQ20 => exact fun _ _ _ h => h
    case hy20 => exact Or.inl ⟨by rfl, by (intro w hSw; (try dsimp only at hSw); go_simp; try with_reducible rfl)⟩
    try simp only [Act.put, List.setIfInBounds_toArray, List.set_cons_zero, List.set_cons_succ]
    refine wpE_take (i := 3) (oi := ?oi21) (v := ?v21) ?hi21 (by kernel_rfl) (by kernel_rfl) (by kernel_rfl) (by kernel_rfl) ?hQ21 ?hy21 (by assumption) ?rest21
    case hi21 => (simp only [List.getElem?_toArray]; rfl)
    case hQ21 => exact fun _ _ _ h => h
    case hy21 => exact Or.inl ⟨by rfl, by (intro w hSw; (try dsimp only at hSw); go_simp; try with_reducible rfl)⟩
    try simp only [Act.put, List.setIfInBounds_toArray, List.set_cons_zero, List.set_cons_succ]
    refine wpE_take (i := 4) (oi := ?oi22) (v := ?v22) ?hi22 (by kernel_rfl) (by kernel_rfl) (by kernel_rfl) (by kernel_rfl) ?hQ22 ?hy22 (by assumption) ?rest22
    case hi22 => (simp only [List.getElem?_toArray]; rfl)
    case hQ22 => exact fun _ _ _ h => h
    case hy22 => exact Or.inl ⟨by rfl, by (intro w hSw; (try dsimp only at hSw); go_simp; try with_reducible rfl)⟩
    try simp only [Act.put, List.setIfInBounds_toArray, List.set_cons_zero, List.set_cons_succ]
    refine wpE_take (i := 5) (oi := ?oi23) (v := ?v23) ?hi23 (by kernel_rfl) (by kernel_rfl) (by kernel_rfl) (by kernel_rfl) ?hQ23 ?hy23 (by assumption) ?rest23
    case hi23 => (simp only [List.getElem?_toArray]; rfl)
    case hQ23 => exact fun _ _ _ h => h
    case hy23 => exact Or.inl ⟨by rfl, by (intro w hSw; (try dsimp only at hSw); go_simp; try with_reducible rfl)⟩
    try simp only [Act.put, List.setIfInBounds_toArray, List.set_cons_zero, List.set_cons_succ]
    refine wpE_take (i := 6) (oi := ?oi24) (v := ?v24) ?hi24 (by kernel_rfl) (by kernel_rfl) (by kernel_rfl) (by kernel_rfl) ?hQ24 ?hy24 (by assumption) ?rest24
    case hi24 => (simp only [List.getElem?_toArray]; rfl)
    case hQ24 => exact fun _ _ _ h => h
    case hy24 => exact Or.inl ⟨by rfl, by (intro w hSw; (try dsimp only at hSw); go_simp; try with_reducible rfl)⟩
    try simp only [Act.put, List.setIfInBounds_toArray, List.set_cons_zero, List.set_cons_succ]
    refine wpE_take (i := 7) (oi := ?oi25) (v := ?v25) ?hi25 (by kernel_rfl) (by kernel_rfl) (by kernel_rfl) (by kernel_rfl) ?hQ25 ?hy25 (by assumption) ?rest25
    case hi25 => (simp only [List.getElem?_toArray]; rfl)
    case hQ25 => exact fun _ _ _ h => h
    case hy25 => exact Or.inl ⟨by rfl, by (intro w hSw; (try dsimp only at hSw); go_simp; try with_reducible rfl)⟩
    try simp only [Act.put, List.setIfInBounds_toArray, List.set_cons_zero, List.set_cons_succ]
    refine wpE_take (i := 8) (oi := ?oi26) (v := ?v26) ?hi26 (by kernel_rfl) (by kernel_rfl) (by kernel_rfl) (by kernel_rfl) ?hQ26 ?hy26 (by assumption) ?rest26
    case hi26 => (simp only [List.getElem?_toArray]; rfl)
    case hQ26 => exact fun _ _ _ h => h
    case hy26 => exact Or.inl ⟨by rfl, by (intro w hSw; (try dsimp only at hSw); go_simp; try with_reducible rfl)⟩
    try simp only [Act.put, List.setIfInBounds_toArray, List.set_cons_zero, List.set_cons_succ]
    refine wpE_take (i := 9) (oi := ?oi27) (v := ?v27) ?hi27 (by kernel_rfl) (by kernel_rfl) (by kernel_rfl) (by kernel_rfl) ?hQ27 ?hy27 (by assumption) ?rest27
    case hi27 => (simp only [List.getElem?_toArray]; rfl)
    case hQ27 => exact fun _ _ _ h => h
    case hy27 => exact Or.inl ⟨by rfl, by (intro w hSw; (try dsimp only at hSw); go_simp; try with_reducible rfl)⟩
    try simp only [Act.put, List.setIfInBounds_toArray, List.set_cons_zero, List.set_cons_succ]
    refine wpE_take (i := 10) (oi := ?oi28) (v := ?v28) ?hi28 (by kernel_rfl) (by kernel_rfl) (by kernel_rfl) (by kernel_rfl) ?hQ28 ?hy28 (by assumption) ?rest28
    case hi28 => (simp only [List.getElem?_toArray]; rfl)
    case hQ28 => exact fun _ _ _ h => h
    case hy28 => exact Or.inl ⟨by rfl, by (intro w hSw; (try dsimp only at hSw); go_simp; try with_reducible rfl)⟩
    try simp only [Act.put, List.setIfInBounds_toArray, List.set_cons_zero, List.set_cons_succ]
    refine wpE_take (i := 11) (oi := ?oi29) (v := ?v29) ?hi29 (by kernel_rfl) (by kernel_rfl) (by kernel_rfl) (by kernel_rfl) ?hQ29 ?hy29 (by assumption) ?rest29
    case hi29 => (simp only [List.getElem?_toArray]; rfl)
    case hQ29 => exact fun _ _ _ h => h
    case hy29 => exact Or.inl ⟨by rfl, by (intro w hSw; (try dsimp only at hSw); go_simp; try with_reducible rfl)⟩
    try simp only [Act.put, List.setIfInBounds_toArray, List.set_cons_zero, List.set_cons_succ]
    refine wpE_take (i := 12) (oi := ?oi30) (v := ?v30) ?hi30 (by kernel_rfl) (by kernel_rfl) (by kernel_rfl) (by kernel_rfl) ?hQ30 ?hy30 (by assumption) ?rest30
    case hi30 => (simp only [List.getElem?_toArray]; rfl)
    case hQ30 => exact fun _ _ _ h => h
    case hy30 => exact Or.inl ⟨by rfl, by (intro w hSw; (try dsimp only at hSw); go_simp; try with_reducible rfl)⟩
    try simp only [Act.put, List.setIfInBounds_toArray, List.set_cons_zero, List.set_cons_succ]
    refine wpE_take (i := 13) (oi := ?oi31) (v := ?v31) ?hi31 (by kernel_rfl) (by kernel_rfl) (by kernel_rfl) (by kernel_rfl) ?hQ31 ?hy31 (by assumption) ?rest31
    case hi31 => (simp only [List.getElem?_toArray]; rfl)
    case hQ31 => exact fun _ _ _ h => h
    case hy31 => exact Or.inl ⟨by rfl, by (intro w hSw; (try dsimp only at hSw); go_simp; try with_reducible rfl)⟩
    try simp only [Act.put, List.setIfInBounds_toArray, List.set_cons_zero, List.set_cons_succ]
    refine wpE_take (i := 14) (oi := ?oi32) (v := ?v32) ?hi32 (by kernel_rfl) (by kernel_rfl) (by kernel_rfl) (by kernel_rfl) ?hQ32 ?hy32 (by assumption) ?rest32
    case hi32 => (simp only [List.getElem?_toArray]; rfl)
    case hQ32 => exact fun _ _ _ h => h
    case hy32 => exact Or.inl ⟨by rfl, by (intro w hSw; (try dsimp only at hSw); go_simp; try with_reducible rfl)⟩
    try simp only [Act.put, List.setIfInBounds_toArray, List.set_cons_zero, List.set_cons_succ]
    refine wpE_take (i := 15) (oi := ?oi33) (v := ?v33) ?hi33 (by kernel_rfl) (by kernel_rfl) (by kernel_rfl) (by kernel_rfl) ?hQ33 ?hy33 (by assumption) ?rest33
    case hi33 => (simp only [List.getElem?_toArray]; rfl)
    case hQ33 => exact fun _ _ _ h => h
    case hy33 => exact Or.inl ⟨by rfl, by (intro w hSw; (try dsimp only at hSw); go_simp; try with_reducible rfl)⟩
    try simp only [Act.put, List.setIfInBounds_toArray, List.set_cons_zero, List.set_cons_succ]
    refine wpE_take (i := 16) (oi := ?oi34) (v := ?v34) ?hi34 (by kernel_rfl) (by kernel_rfl) (by kernel_rfl) (by kernel_rfl) ?hQ34 ?hy34 (by assumption) ?rest34
    case hi34 => (simp only [List.getElem?_toArray]; rfl)
    case hQ34 => exact fun _ _ _ h => h
    case hy34 => exact Or.inl ⟨by rfl, by (intro w hSw; (try dsimp only at hSw); go_simp; try with_reducible rfl)⟩
    try simp only [Act.put, List.setIfInBounds_toArray, List.set_cons_zero, List.set_cons_succ]
    refine wpE_take (i := 17) (oi := ?oi35) (v := ?v35) ?hi35 (by kernel_rfl) (by kernel_rfl) (by kernel_rfl) (by kernel_rfl) ?hQ35 ?hy35 (by assumption) ?rest35
    case hi35 => (simp only [List.getElem?_toArray]; rfl)
    case hQ35 => exact fun _ _ _ h => h
    case hy35 => exact Or.inl ⟨by rfl, by (intro w hSw; (try dsimp only at hSw); go_simp; try with_reducible rfl)⟩
    try simp only [Act.put, List.setIfInBounds_toArray, List.set_cons_zero, List.set_cons_succ]
    refine wpE_take (i := 18) (oi := ?oi36) (v := ?v36) ?hi36 (by kernel_rfl) (by kernel_rfl) (by kernel_rfl) (by kernel_rfl) ?hQ36 ?hy36 (by assumption) ?rest36
    case hi36 => (simp only [List.getElem?_toArray]; rfl)
    case hQ36 => exact fun _ _ _ h => h
    case hy36 => exact Or.inl ⟨by rfl, by (intro w hSw; (try dsimp only at hSw); go_simp; try with_reducible rfl)⟩
    try simp only [Act.put, List.setIfInBounds_toArray, List.set_cons_zero, List.set_cons_succ]
    refine wpE_one (i := 19) (o := ?o43) ?ho43 (by kernel_rfl) (fun K hK => ?_)
    case ho43 => (simp only [List.getElem?_toArray]; rfl)
    go_simp
    have hbd : Below wc.heap.size wc (wc.alloc (.cells #[.int .i64 r0, .int .i64 (if qy < qx then qy else qx), .int .i64 ai, .int .i64 ((ka : Int) + 1), .int .i64 bi, .int .i64 ((kb : Int) + 1)] 38)).drew := (Below.allocN wc _).drew
    have hnew : Blk (wc.alloc (.cells #[.int .i64 r0, .int .i64 (if qy < qx then qy else qx), .int .i64 ai, .int .i64 ((ka : Int) + 1), .int .i64 bi, .int .i64 ((kb : Int) + 1)] 38)).drew wc.heap.size 38 #[.int .i64 r0, .int .i64 (if qy < qx then qy else qx), .int .i64 ai, .int .i64 ((ka : Int) + 1), .int .i64 bi, .int .i64 ((kb : Int) + 1)] := Blk.new wc _ _
    have HNEW := Lib.hid hnew
    have HM5 := Lib.hid (HM4.out.below hbd)
    have HK5 := Lib.hid (HK4.out.trans (hbd.mono HK4.out.size))
    have HA5 := Lib.hid (HA4.out.below hbd)
    have HB6 := Lib.hid (HB5.out.below hbd)
    have HGX5 := Lib.hid (HGX4.out.below hbd)
    have HGY5 := Lib.hid (HGY4.out.below hbd)
    have hS5 : ∀ wz, Blk wz w.heap.size 35 #[.int .i64 ai, .int .i64 ((ka : Int) + 1)] → Blk wz (w.heap.size + 1) 35 #[.int .i64 bi, .int .i64 ((kb : Int) + 1)] → wz.cell? ⟨gx, 4 + ka, none⟩ = some (.int .i64 qx) → wz.cell? ⟨gy, 4 + kb, none⟩ = some (.int .i64 qy) → wz.cell? ⟨gm, 1, none⟩ = some (.slice va out.length vc) → wz.cell? ⟨gm, 1, none⟩ = some (.slice va out.length vc) ∧ wz.cell? ⟨w.heap.size, 0, none⟩ = some (.int .i64 ai) ∧ wz.cell? ⟨w.heap.size, 1, none⟩ = some (.int .i64 ((ka : Int) + 1)) ∧ wz.cell? ⟨w.heap.size + 1, 0, none⟩ = some (.int .i64 bi) ∧ wz.cell? ⟨w.heap.size + 1, 1, none⟩ = some (.int .i64 ((kb : Int) + 1)) ∧ wz.cell? ⟨gx, 4 + ka, none⟩ = some (.int .i64 qx) ∧ wz.cell? ⟨gy, 4 + kb, none⟩ = some (.int .i64 qy) := fun wz h1 h2 h3 h4 h5 => ⟨h5, h1.cell 0, h1.cell 1, h2.cell 0, h2.cell 1, h3, h4⟩
    have HS5 := Lib.hid hS5
    have hxq5 := (hbd.cell (p := ⟨gx, 4 + ka, none⟩) HGX4.out.lt).trans hxq
    have hyq5 := (hbd.cell (p := ⟨gy, 4 + kb, none⟩) HGY4.out.lt).trans hyq
    have hv5 : (wc.alloc (.cells #[.int .i64 r0, .int .i64 (if qy < qx then qy else qx), .int .i64 ai, .int .i64 ((ka : Int) + 1), .int .i64 bi, .int .i64 ((kb : Int) + 1)] 38)).drew.cell? ⟨gm, 1, none⟩ = some (.slice va out.length vc) := (hbd.cell (p := ⟨gm, 1, none⟩) HM4.out.blk.lt).trans hv0
    clear hS5 hbd hnew
    refine hK.out _ _ (HS5.out _ HA5.out HB6.out hxq5 hyq5 hv5) (fun hHeld => ?_)
    clear hK K
    generalize hw6 : (wc.alloc (.cells #[.int .i64 r0, .int .i64 (if qy < qx then qy else qx), .int .i64 ai, .int .i64 ((ka : Int) + 1), .int .i64 bi, .int .i64 ((kb : Int) + 1)] 38)).drew = w6 at *
    have hls : wc.heap.size < w6.heap.size := HNEW.out.lt
    have hrow : QT.Row w6 W.heap.size (.slice va out.length vc) out := by rw [← HVF.out]; exact HM5.out.row
    have hcq : CellsAt w6 wc.heap.size 0 (QT.cells ⟨r0, min qx qy, ai, ka + 1, bi, kb + 1⟩) := by
      have hm : min qx qy = if qy < qx then qy else qx := by split <;> omega
      show CellsAt w6 wc.heap.size 0 [.int .i64 r0, .int .i64 (min qx qy), .int .i64 ai, .int .i64 ((ka : Int) + 1), .int .i64 bi, .int .i64 ((kb : Int) + 1)]
      rw [hm]
      exact HNEW.out.cellsAt
    refine wpE_one (i := 20) (o := ?o44) ?ho44 (by kernel_rfl) (fun K hK => ?_)
    case ho44 => (simp only [List.getElem?_toArray]; rfl)
    refine QT.step rfl (.tmp 78) (.tmp 93) rfl W.heap.size (.slice va out.length vc) out rfl hrow wc.heap.size _ rfl hls hcq (by omega) HM5.out.bel.size ?_
    intro v' w7 hr7 hg7 hob7
    obtain ⟨va', vc', hv'⟩ := hr7.form
    generalize hln : (out ++ [(⟨r0, min qx qy, ai, ka + 1, bi, kb + 1⟩ : Qt)]).length = ln at hv'
    subst hv'
    have hk7 : Keeps (fun g => (Value.slice va out.length vc).ownBlock = some g) w6 w7 := grown_keeps hg7
    have hne := HM5.out.ne
    rw [HVF.out] at hne
    have htyd := own_tyd hrow
    have hm7 : Blk w7 gm 60 #[.slice (some ⟨b, off, none⟩) L.length c, v] := HM5.out.blk.keeps hk7 (fun h => hne gm h rfl)
    have ha7 := HA5.out.keeps hk7 (fun h => (htyd _ h).ne HA5.out.tyd (by decide) rfl)
    have hb7 := HB6.out.keeps hk7 (fun h => (htyd _ h).ne HB6.out.tyd (by decide) rfl)
    have hgx7 := HGX5.out.keeps hk7 (fun h => (htyd _ h).ne HGX5.out.tyd (by decide) rfl)
    have hgy7 := HGY5.out.keeps hk7 (fun h => (htyd _ h).ne HGY5.out.tyd (by decide) rfl)
    have hxq7 : w7.cell? ⟨gx, 4 + ka, none⟩ = some (.int .i64 qx) := by rw [hgx7.cell, ← HGX5.out.cell]; exact hxq5
    have hyq7 : w7.cell? ⟨gy, 4 + kb, none⟩ = some (.int .i64 qy) := by rw [hgy7.cell, ← HGY5.out.cell]; exact hyq5
    have hv7 : w7.cell? ⟨gm, 1, none⟩ = some (.slice va out.length vc) := by rw [hm7.cell, ← HM5.out.blk.cell]; exact hv5
    have hf7 : w7.frozen? ⟨gm, 1, none⟩ = false := hm7.frozen 1
    refine hK.out _ _ (HS5.out _ ha7 hb7 hxq7 hyq7 hv7) (fun hHeld => ?_)
    clear hK K
    refine wpE_take (i := 21) (oi := ?oi37) (v := ?v37) ?hi37 (by kernel_rfl) (by kernel_rfl) (by kernel_rfl) (by kernel_rfl) ?hQ37 ?hy37 (by assumption) ?rest37
    case hi37 => (simp only [List.getElem?_toArray]; rfl)
    case hQ37 => exact fun _ _ _ h => h
    case hy37 => exact Or.inl ⟨by rfl, by (intro w hSw; (try dsimp only at hSw); go_simp; try with_reducible rfl)⟩
    try simp only [Act.put, List.setIfInBounds_toArray, List.set_cons_zero, List.set_cons_succ]
    refine wpE_take (i := 22) (oi := ?oi38) (v := ?v38) ?hi38 (by kernel_rfl) (by kernel_rfl) (by kernel_rfl) (by kernel_rfl) ?hQ38 ?hy38 (by assumption) ?rest38
    case hi38 => (simp only [List.getElem?_toArray]; rfl)
    case hQ38 => exact fun _ _ _ h => h
    case hy38 => exact Or.inl ⟨by rfl, by (intro w hSw; (try dsimp only at hSw); go_simp; try with_reducible rfl)⟩
    try simp only [Act.put, List.setIfInBounds_toArray, List.set_cons_zero, List.set_cons_succ]
    refine wpE_last (i := 23) (o := ?o47) ?ho47 (by kernel_rfl) (by kernel_rfl) (by kernel_rfl) (fun K hK => ?_)
    case ho47 => (simp only [List.getElem?_toArray]; rfl)
    go_simp
    refine hK.out _ _ ?_
    clear hK K
    clear hv0 ha0 ha1 hb0 hb1 hxq hyq hxq5 hyq5 hv5 hxq7 hyq7 hv7 hf7
    have HFIN : Hid ((∃ v'', Mk W (w7.setCell ⟨gm, 1, none⟩ (.slice va' ln vc')) gm (some ⟨b, off, none⟩) c L (out ++ (mkQ L ai (ka + 1) bi (kb + 1) less).toList) v'') ∧ Keeps (fun g => g = gm ∨ v.ownBlock = some g) w (w7.setCell ⟨gm, 1, none⟩ (.slice va' ln vc'))) := Lib.hid (by
      have hks : Keeps (fun g => g = gm) w7 (w7.setCell ⟨gm, 1, none⟩ (.slice va' ln vc')) := (Keeps.refl (fun g => g = gm) w7).setCell (p := ⟨gm, 1, none⟩) (fun _ => rfl) _
      have hbase := HM5.out.base
      have hob : ∀ g, (Value.slice va out.length vc).ownBlock = some g → W.heap.size ≤ g := own_base hrow
      refine ⟨⟨.slice va' ln vc', ?_, ?_, ?_, HM5.out.tops, hbase⟩, ?_⟩
      · exact (HM5.out.bel.trans (hk7.below hob HM5.out.bel.size)).trans (hks.below (fun g hg => by have hg' : g = gm := hg; omega) (Nat.le_trans HM5.out.bel.size hk7.size))
      · exact hm7.set_ 1 _
      · rw [HQS.out]
        exact store_own hr7 hm7 (by decide) 1 _
      · rw [HVF.out]
        exact ((Below.keeps HK5.out).trans (hk7.more (fun g hg => .inr hg))).trans (hks.more (fun g hg => .inl hg)))
    clear hne hob7 htyd hk7 hm7 hg7 hr7
    go_wp2_with fail
    all_goals
      go_end0
      exact ⟨rfl, HFIN.out⟩
end Go.Proofs.Ytilficlanliinaa
