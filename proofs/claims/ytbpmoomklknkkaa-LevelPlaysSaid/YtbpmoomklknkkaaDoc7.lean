/- The two arenas side by side; the walk of cornhilllaw8.do. -/
import Derived.Test.YtbpmoomklknkkaaDoc6
namespace Go.Proofs.Ytbpmoomklknkkaa
open Go.RowKit

section
variable {w w' : World} {B pb ub : Nat} {qa : Option Addr} {qk room : Nat} {U A : List (List Ent)} {V : Nat → Option Addr × Nat}
theorem dtake_any (h : RA w B pb ub qa qk room A A V) (hf : Fit A) (hsl : ∀ (n j : Nat) (L : List Ent) (e : Ent), A[n]? = some L → L[j]? = some e → e.slot < room) (hB : B ≤ w.heap.size) (i qty : Int) :
    Calls Try.prog 31 #[.pointer (some ⟨pb, 0, none⟩), .int .i64 i, .int .i64 qty] w fun e w' => e = .returned (.int .i64 (takeA A i qty).2) ∧ (∃ V', RA w' B pb ub qa qk room (takeA A i qty).1 (takeA A i qty).1 V') ∧ Keeps (RF pb ub qa A V) w w' := by
  cases hfa : findA A i with
  | none =>
    have HE : takeA A i qty = (A, 26) := by unfold takeA; rw [hfa]
    rw [HE]
    refine (dtake_no h hf i qty hfa).mono ?_
    rintro e w' ⟨rfl, rfl⟩
    exact ⟨rfl, ⟨V, h⟩, Keeps.refl _ _⟩
  | some x =>
    obtain ⟨n, j, e⟩ := x
    by_cases hq : qty < 1 ∨ e.qty < qty
    · have HE : takeA A i qty = (A, 24) := by unfold takeA; rw [hfa]; simp only; rw [if_pos hq]
      rw [HE]
      refine (dtake_qty h hf i qty hfa hq).mono ?_
      rintro e w' ⟨rfl, rfl⟩
      exact ⟨rfl, ⟨V, h⟩, Keeps.refl _ _⟩
    · by_cases hqe : e.qty = qty
      · have HE : takeA A i qty = (A.set n ((A.getD n []).eraseIdx j), 0) := by unfold takeA; rw [hfa]; simp only; rw [if_neg hq, if_pos hqe]
        rw [HE]
        exact dtake_all h hf hsl hB i qty hfa hqe
      · have HE : takeA A i qty = (A.set n ((A.getD n []).set j { e with qty := e.qty - qty }), 0) := by unfold takeA; rw [hfa]; simp only; rw [if_neg hq, if_neg hqe]
        rw [HE]
        refine (dtake_less h hf i qty hfa (by omega) (by omega)).mono ?_
        rintro e w' ⟨rfl, hra, hk⟩
        exact ⟨rfl, ⟨V, hra⟩, hk⟩
theorem dtop_ex (h : RA w B pb ub qa qk room A A V) (hf : Fit A) (i : Int) (t : Bool) :
    Calls Try.prog 32 #[.pointer (some ⟨pb, 0, none⟩), .int .i64 i, .bool t] w fun e w' => e = .returned (.int .i64 (topA A i t).2) ∧ (∃ V', RA w' B pb ub qa qk room (topA A i t).1 (topA A i t).1 V') ∧ Keeps (RF pb ub qa A V) w w' :=
  (dtop_any h hf i t).mono fun _ _ ⟨h1, h2, h3⟩ => ⟨h1, ⟨V, h2⟩, h3⟩
end

/-- an arena and the document's, which hold the same -/
structure Two (w : World) (B pb sb : Nat) (qa : Option Addr) (room : Nat) (A : List (List Ent)) (pd ub : Nat) (da : Option Addr) (dk : Nat) (V : Nat → Option Addr × Nat) : Prop where
  la : LA w pb sb qa room A
  ra : RA w B pd ub da dk room A A V
  ge : ∀ g, LF pb sb qa g → B ≤ g
  base : B ≤ w.heap.size
  many : A.length ≤ 1000

section
variable {w w1 w2 : World} {B pb sb : Nat} {qa qa' : Option Addr} {room : Nat} {A A1 : List (List Ent)} {pd ub : Nat} {da : Option Addr} {dk : Nat} {V : Nat → Option Addr × Nat}
theorem keep_doc {U A2 : List (List Ent)} (hl : LA w pb sb qa room A) (hr : RA w B pd ub da dk room U A2 V) (hk : Keeps (LF pb sb qa) w w1) : RA w1 B pd ub da dk room U A2 V :=
  hr.keep hk fun g h1 h2 => sep hl hr g h2 h1
theorem keep_code {U A2 : List (List Ent)} (hl : LA w pb sb qa room A) (hr : RA w B pd ub da dk room U A2 V) (hk : Keeps (RF pd ub da A2 V) w w1) : LA w1 pb sb qa room A :=
  hl.keep hk (fun h => sep hl hr _ (.inl rfl) h) (fun h => sep hl hr _ (.inr (.inl rfl)) h) (fun g hg h => sep hl hr g (.inr (.inr hg)) h)
theorem Two.below (h : Two w B pb sb qa room A pd ub da dk V) (hb : Below w.heap.size w w1) : Two w1 B pb sb qa room A pd ub da dk V :=
  ⟨h.la.below hb, h.ra.below hb, h.ge, by have := hb.size; have := h.base; omega, h.many⟩
theorem LA.lts (h : LA w pb sb qa room A) : ∀ g, LF pb sb qa g → g < w.heap.size := by
  intro g hg
  obtain ⟨t, ht, _⟩ := h.ty g hg
  exact ht.lt
/-- a block made later is left alone by both -/
theorem far_code {g : Nat} {t : TypeId} {cs : Array Value} (hb : Blk w1 g t cs) (hl : LA w pb sb qa room A) (hg : w.heap.size ≤ g) (hk : Keeps (LF pb sb qa) w1 w2) : Blk w2 g t cs :=
  hb.keeps hk fun h => by have := hl.lts g h; omega
theorem far_doc {g : Nat} {t : TypeId} {cs : Array Value} {U A2 : List (List Ent)} (hb : Blk w1 g t cs) (hr : RA w B pd ub da dk room U A2 V) (hg : w.heap.size ≤ g) (hk : Keeps (RF pd ub da A2 V) w1 w2) : Blk w2 g t cs :=
  hb.keeps hk fun h => by have := hr.lt g h; omega
theorem push_len (room : Nat) (A : List (List Ent)) (n id qty : Int) (top : Bool) : (pushA room A n id qty top).1.length = A.length := by
  unfold pushA
  split
  · rfl
  · split
    · rfl
    · split
      · rfl
      · simp
theorem take_len (A : List (List Ent)) (i qty : Int) : (takeA A i qty).1.length = A.length := by
  unfold takeA
  split
  · rfl
  · split
    · rfl
    · split <;> simp
theorem top_len (A : List (List Ent)) (i : Int) (t : Bool) : (topA A i t).1.length = A.length := by
  unfold topA
  split
  · rfl
  · simp

/-- what a call on both may turn -/
def DF (pb sb : Nat) (qa : Option Addr) (pd ub : Nat) (da : Option Addr) (A : List (List Ent)) (V : Nat → Option Addr × Nat) (g : Nat) : Prop := LF pb sb qa g ∨ RF pd ub da A V g
def AskR.agg (x : AskR) : Value := .agg #[.int .i64 x.kind, .int .i64 x.queue, .int .i64 x.slot, .int .i64 x.id, .int .i64 x.qty, .bool x.top]

/-- both turned the same way -/
theorem Two.next {A' : List (List Ent)} {V' : Nat → Option Addr × Nat} {da' : Option Addr} {dk' : Nat} (h : Two w B pb sb qa room A pd ub da dk V) (hl : LA w2 pb sb qa' room A') (hr : RA w2 B pd ub da' dk' room A' A' V') (hge : ∀ g, LF pb sb qa' g → B ≤ g) (hz : w.heap.size ≤ w2.heap.size) (hm : A'.length ≤ 1000) : Two w2 B pb sb qa' room A' pd ub da' dk' V' :=
  ⟨hl, hr, hge, by have := h.base; omega, hm⟩

set_option maxRecDepth 100000 in
set_option maxHeartbeats 4000000 in
theorem do_open (h : Two w B pb sb qa room A pd ub da dk V) (x : AskR) (hmany : A.length ≤ 999) :
    Calls Try.prog 22 #[.pointer (some ⟨pb, 0, none⟩), .pointer (some ⟨pd, 0, none⟩), .agg #[.int .i64 1, .int .i64 x.queue, .int .i64 x.slot, .int .i64 x.id, .int .i64 x.qty, .bool x.top]] w fun e w' => e = .returned (.bool true) ∧ (∃ qa' A' da' dk' V', A'.length ≤ A.length + 1 ∧ Two w' B pb sb qa' room A' pd ub da' dk' V') ∧ Keeps (DF pb sb qa pd ub da A V) w w' := by
  have hroom := h.la.small
  have HFIT := Lib.hid (h.la.fit (by have := h.many; omega))
  have HSL := Lib.hid h.la.slots
  have hbx : Below w.heap.size w (w.alloc (.cells #[.int .i64 1, .int .i64 x.queue, .int .i64 x.slot, .int .i64 x.id, .int .i64 x.qty, .bool x.top] 31)) := (Below.refl _ _).alloc (Nat.le_refl _) _
  have HB : Hid (Blk (w.alloc (.cells #[.int .i64 1, .int .i64 x.queue, .int .i64 x.slot, .int .i64 x.id, .int .i64 x.qty, .bool x.top] 31)) w.heap.size 31 #[.int .i64 1, .int .i64 x.queue, .int .i64 x.slot, .int .i64 x.id, .int .i64 x.qty, .bool x.top]) := Lib.hid (Blk.new _ _ _)
  have H0 := Lib.hid (h.below hbx)
  have HBB : Hid (Keeps (DF pb sb qa pd ub da A V) w (w.alloc (.cells #[.int .i64 1, .int .i64 x.queue, .int .i64 x.slot, .int .i64 x.id, .int .i64 x.qty, .bool x.top] 31))) := Lib.hid (Below.keeps hbx)
  have HLA := Lib.hid h.la
  have HRA := Lib.hid h.ra
  have HM := Lib.hid h.many
  clear h hbx
  go_enter Try.func22, Try.ntmps22
  go_wp2_with fail
  generalize (w.alloc (.cells #[.int .i64 1, .int .i64 x.queue, .int .i64 x.slot, .int .i64 x.id, .int .i64 x.qty, .bool x.top] 31)) = wb at *
  refine (la_open H0.out.la (by omega)).mono ?_
  rintro e w1 ⟨rfl, ⟨qb, hqb, hl1⟩, hk1⟩
  have HR1 := Lib.hid (keep_doc H0.out.la H0.out.ra hk1)
  have HB1 : Hid (Keeps (DF pb sb qa pd ub da A V) w w1) := Lib.hid (HBB.out.trans (hk1.more fun _ x => .inl x))
  have HL1 := Lib.hid hl1
  have HQ := Lib.hid hqb
  have hb0 := H0.out.base
  have hz1 := hk1.size
  clear hk1 hqb hl1
  go_wp2_with fail
  refine (dopen_any HR1.out (by omega) (by omega)).mono ?_
  rintro e w2 ⟨rfl, ⟨qb', qk', hr2⟩, hk2⟩
  have hq : ∀ g, LF pb sb (some ⟨qb, 0, none⟩) g → B ≤ g := by
    rintro g (hg | hg | hg)
    · exact H0.out.ge g (.inl hg)
    · exact H0.out.ge g (.inr (.inl hg))
    · rcases HQ.out with h | h
      · exact H0.out.ge g (.inr (.inr (by rw [h, hg])))
      · injection hg with hg; injection hg with hg; omega
  have HL2 := Lib.hid (keep_code HL1.out HR1.out hk2)
  have HB2 : Hid (Keeps (DF pb sb qa pd ub da A V) w w2) := Lib.hid (HB1.out.trans (hk2.more fun _ x => .inr x))
  have hz2 := hk2.size
  have HR2 := Lib.hid hr2
  clear hk2 hr2
  go_wp2_with fail
  go_ret
  exact ⟨by trivial, ⟨_, _, _, _, _, by simp, H0.out.next HL2.out HR2.out hq (by omega) (by simp; omega)⟩, HB2.out⟩
set_option maxRecDepth 100000 in
set_option maxHeartbeats 4000000 in
theorem do_push (h : Two w B pb sb qa room A pd ub da dk V) (x : AskR) (hmany : A.length ≤ 999) :
    Calls Try.prog 22 #[.pointer (some ⟨pb, 0, none⟩), .pointer (some ⟨pd, 0, none⟩), .agg #[.int .i64 2, .int .i64 x.queue, .int .i64 x.slot, .int .i64 x.id, .int .i64 x.qty, .bool x.top]] w fun e w' => e = .returned (.bool true) ∧ (∃ qa' A' da' dk' V', A'.length ≤ A.length + 1 ∧ Two w' B pb sb qa' room A' pd ub da' dk' V') ∧ Keeps (DF pb sb qa pd ub da A V) w w' := by
  have hroom := h.la.small
  have HFIT := Lib.hid (h.la.fit (by have := h.many; omega))
  have HSL := Lib.hid h.la.slots
  have hbx : Below w.heap.size w (w.alloc (.cells #[.int .i64 2, .int .i64 x.queue, .int .i64 x.slot, .int .i64 x.id, .int .i64 x.qty, .bool x.top] 31)) := (Below.refl _ _).alloc (Nat.le_refl _) _
  have HB : Hid (Blk (w.alloc (.cells #[.int .i64 2, .int .i64 x.queue, .int .i64 x.slot, .int .i64 x.id, .int .i64 x.qty, .bool x.top] 31)) w.heap.size 31 #[.int .i64 2, .int .i64 x.queue, .int .i64 x.slot, .int .i64 x.id, .int .i64 x.qty, .bool x.top]) := Lib.hid (Blk.new _ _ _)
  have H0 := Lib.hid (h.below hbx)
  have HBB : Hid (Keeps (DF pb sb qa pd ub da A V) w (w.alloc (.cells #[.int .i64 2, .int .i64 x.queue, .int .i64 x.slot, .int .i64 x.id, .int .i64 x.qty, .bool x.top] 31))) := Lib.hid (Below.keeps hbx)
  have HLA := Lib.hid h.la
  have HRA := Lib.hid h.ra
  have HM := Lib.hid h.many
  clear h hbx
  go_enter Try.func22, Try.ntmps22
  go_wp2_with fail
  generalize (w.alloc (.cells #[.int .i64 2, .int .i64 x.queue, .int .i64 x.slot, .int .i64 x.id, .int .i64 x.qty, .bool x.top] 31)) = wb at *
  refine (la_push H0.out.la x.queue x.id x.qty x.top).mono ?_
  have hlen := push_len room A x.queue x.id x.qty x.top
  rintro e w1 ⟨rfl, hl1, hk1⟩
  have HR1 := Lib.hid (keep_doc H0.out.la H0.out.ra hk1)
  have HB1 : Hid (Keeps (DF pb sb qa pd ub da A V) w w1) := Lib.hid (HBB.out.trans (hk1.more fun _ x => .inl x))
  have hB1 := far_code HB.out HLA.out (Nat.le_refl _) hk1
  obtain ⟨x1, x3, x4, x5⟩ : w1.cell? ⟨w.heap.size, 1, none⟩ = some (.int .i64 x.queue) ∧ w1.cell? ⟨w.heap.size, 3, none⟩ = some (.int .i64 x.id) ∧ w1.cell? ⟨w.heap.size, 4, none⟩ = some (.int .i64 x.qty) ∧ w1.cell? ⟨w.heap.size, 5, none⟩ = some (.bool x.top) := by
    refine ⟨?_, ?_, ?_, ?_⟩ <;> (rw [(hB1).cell]; rfl)
  have hb0 := H0.out.base
  have hz1 := hk1.size
  have HL1 := Lib.hid hl1
  have HD := dpush_any HR1.out HFIT.out x.queue x.id x.qty x.top hroom.2 (by omega)
  clear hk1 hl1 hB1
  generalize pushA room A x.queue x.id x.qty x.top = P at *
  obtain ⟨A', sN, fz⟩ := P
  go_wp2_with fail
  refine HD.mono ?_
  rintro e w2 ⟨rfl, ⟨V', hr2⟩, hk2⟩
  have HL2 := Lib.hid (keep_code HL1.out HR1.out hk2)
  have HB2 : Hid (Keeps (DF pb sb qa pd ub da A V) w w2) := Lib.hid (HB1.out.trans (hk2.more fun _ x => .inr x))
  have hz2 := hk2.size
  have HR2 := Lib.hid hr2
  clear hk2 hr2 HD x1 x3 x4 x5
  go_wp2_with fail
  go_ret
  exact ⟨by trivial, ⟨_, _, _, _, _, by have : A'.length = A.length := hlen; omega, H0.out.next HL2.out HR2.out H0.out.ge (by omega) (by have : A'.length = A.length := hlen; omega)⟩, HB2.out⟩
set_option maxRecDepth 100000 in
set_option maxHeartbeats 4000000 in
theorem do_take (h : Two w B pb sb qa room A pd ub da dk V) (x : AskR) (hmany : A.length ≤ 999) :
    Calls Try.prog 22 #[.pointer (some ⟨pb, 0, none⟩), .pointer (some ⟨pd, 0, none⟩), .agg #[.int .i64 3, .int .i64 x.queue, .int .i64 x.slot, .int .i64 x.id, .int .i64 x.qty, .bool x.top]] w fun e w' => e = .returned (.bool true) ∧ (∃ qa' A' da' dk' V', A'.length ≤ A.length + 1 ∧ Two w' B pb sb qa' room A' pd ub da' dk' V') ∧ Keeps (DF pb sb qa pd ub da A V) w w' := by
  have hroom := h.la.small
  have HFIT := Lib.hid (h.la.fit (by have := h.many; omega))
  have HSL := Lib.hid h.la.slots
  have hbx : Below w.heap.size w (w.alloc (.cells #[.int .i64 3, .int .i64 x.queue, .int .i64 x.slot, .int .i64 x.id, .int .i64 x.qty, .bool x.top] 31)) := (Below.refl _ _).alloc (Nat.le_refl _) _
  have HB : Hid (Blk (w.alloc (.cells #[.int .i64 3, .int .i64 x.queue, .int .i64 x.slot, .int .i64 x.id, .int .i64 x.qty, .bool x.top] 31)) w.heap.size 31 #[.int .i64 3, .int .i64 x.queue, .int .i64 x.slot, .int .i64 x.id, .int .i64 x.qty, .bool x.top]) := Lib.hid (Blk.new _ _ _)
  have H0 := Lib.hid (h.below hbx)
  have HBB : Hid (Keeps (DF pb sb qa pd ub da A V) w (w.alloc (.cells #[.int .i64 3, .int .i64 x.queue, .int .i64 x.slot, .int .i64 x.id, .int .i64 x.qty, .bool x.top] 31))) := Lib.hid (Below.keeps hbx)
  have HLA := Lib.hid h.la
  have HRA := Lib.hid h.ra
  have HM := Lib.hid h.many
  clear h hbx
  go_enter Try.func22, Try.ntmps22
  go_wp2_with fail
  generalize (w.alloc (.cells #[.int .i64 3, .int .i64 x.queue, .int .i64 x.slot, .int .i64 x.id, .int .i64 x.qty, .bool x.top] 31)) = wb at *
  have hlen := take_len A x.slot x.qty
  have s0 : wb.drew.cell? ⟨w.heap.size, 2, none⟩ = some (.int .i64 x.slot) ∧ wb.drew.cell? ⟨w.heap.size, 4, none⟩ = some (.int .i64 x.qty) := ⟨by rw [(HB.out.drew).cell]; rfl, by rw [(HB.out.drew).cell]; rfl⟩
  have HD0 : Hid (Two wb.drew B pb sb qa room A pd ub da dk V) := Lib.hid (H0.out.below (Below.drewN_of wb 1))
  have HW0 : Hid (Keeps (DF pb sb qa pd ub da A V) w wb.drew) := Lib.hid HBB.out.drew
  have HBD : Hid (Blk wb.drew w.heap.size 31 #[.int .i64 3, .int .i64 x.queue, .int .i64 x.slot, .int .i64 x.id, .int .i64 x.qty, .bool x.top]) := Lib.hid HB.out.drew
  have hb0 : B ≤ wb.drew.heap.size := H0.out.base
  have HP : Hid (takeA A x.slot x.qty = (takeA A x.slot x.qty)) := Lib.hid rfl
  have HCA := Lib.hid fun wz (hl : LA wz pb sb qa room A) => la_take hl x.slot x.qty
  have HDA := Lib.hid fun wz (V0 : Nat → Option Addr × Nat) (hr : RA wz B pd ub da dk room A A V0) (hb : B ≤ wz.heap.size) => dtake_any hr HFIT.out HSL.out hb x.slot x.qty
  clear HP
  generalize takeA A x.slot x.qty = P at *
  obtain ⟨A', fz⟩ := P
  replace hlen : A'.length = A.length := hlen
  go_region_held3 (fun w' => w'.cell? ⟨w.heap.size, 2, none⟩ = some (.int .i64 x.slot) ∧ w'.cell? ⟨w.heap.size, 4, none⟩ = some (.int .i64 x.qty))
    (first | assumption | go_keep)
    (first
      | (go_at_call 31; refine (HDA.out w1 V HR1.out hz1).mono ?_; rintro e w2 ⟨rfl, ⟨V', hr2⟩, hk2⟩; have HR2 := Lib.hid hr2; have HL2 := Lib.hid (keep_code HL1.out HR1.out hk2); have HB2 : Hid (Keeps (DF pb sb qa pd ub da A V) w w2) := Lib.hid (HB1.out.trans (hk2.more fun _ x => .inr x)); have s2 : w2.cell? ⟨w.heap.size, 2, none⟩ = some (.int .i64 x.slot) ∧ w2.cell? ⟨w.heap.size, 4, none⟩ = some (.int .i64 x.qty) := ⟨by rw [(far_doc HX1.out HRA.out (Nat.le_refl _) hk2).cell]; rfl, by rw [(far_doc HX1.out HRA.out (Nat.le_refl _) hk2).cell]; rfl⟩; have hz2 := hk2.size; clear hk2 hr2)
      | (go_at_call 12; refine (HCA.out w1 HL1.out).mono ?_; rintro e w2 ⟨rfl, hl2, hk2⟩; have HL2 := Lib.hid hl2; have HR2 := Lib.hid (keep_doc HL1.out HR1.out hk2); have HB2 : Hid (Keeps (DF pb sb qa pd ub da A V) w w2) := Lib.hid (HB1.out.trans (hk2.more fun _ x => .inl x)); have s2 : w2.cell? ⟨w.heap.size, 2, none⟩ = some (.int .i64 x.slot) ∧ w2.cell? ⟨w.heap.size, 4, none⟩ = some (.int .i64 x.qty) := ⟨by rw [(far_code HX1.out HLA.out (Nat.le_refl _) hk2).cell]; rfl, by rw [(far_code HX1.out HLA.out (Nat.le_refl _) hk2).cell]; rfl⟩; have hz2 := hk2.size; clear hk2 hl2)
      | (go_at_call 12; refine (HCA.out _ HD0.out.la).mono ?_; rintro e w1 ⟨rfl, hl1, hk1⟩; have HL1 := Lib.hid hl1; have HR1 := Lib.hid (keep_doc HD0.out.la HD0.out.ra hk1); have HB1 : Hid (Keeps (DF pb sb qa pd ub da A V) w w1) := Lib.hid (HW0.out.trans (hk1.more fun _ x => .inl x)); have HX1 := Lib.hid (far_code HBD.out HLA.out (Nat.le_refl _) hk1); have s1 : w1.cell? ⟨w.heap.size, 2, none⟩ = some (.int .i64 x.slot) ∧ w1.cell? ⟨w.heap.size, 4, none⟩ = some (.int .i64 x.qty) := ⟨by rw [(HX1.out).cell]; rfl, by rw [(HX1.out).cell]; rfl⟩; have hz1 : B ≤ w1.heap.size := (by have := hk1.size; omega); clear hk1 hl1)
      | (go_at_call 31; refine (HDA.out _ V HD0.out.ra hb0).mono ?_; rintro e w1 ⟨rfl, ⟨V', hr1⟩, hk1⟩; have HR1 := Lib.hid hr1; have HL1 := Lib.hid (keep_code HD0.out.la HD0.out.ra hk1); have HB1 : Hid (Keeps (DF pb sb qa pd ub da A V) w w1) := Lib.hid (HW0.out.trans (hk1.more fun _ x => .inr x)); have HX1 := Lib.hid (far_doc HBD.out HRA.out (Nat.le_refl _) hk1); have s1 : w1.cell? ⟨w.heap.size, 2, none⟩ = some (.int .i64 x.slot) ∧ w1.cell? ⟨w.heap.size, 4, none⟩ = some (.int .i64 x.qty) := ⟨by rw [(HX1.out).cell]; rfl, by rw [(HX1.out).cell]; rfl⟩; have hz1 : B ≤ w1.heap.size := (by have := hk1.size; omega); clear hk1 hr1))
  all_goals
    go_wp2_with fail
    go_ret
    exact ⟨by trivial, ⟨_, _, _, _, _, by omega, HL2.out, HR2.out, H0.out.ge, by omega, by have := HM.out; omega⟩, HB2.out⟩
set_option maxRecDepth 100000 in
set_option maxHeartbeats 4000000 in
theorem do_top (h : Two w B pb sb qa room A pd ub da dk V) (x : AskR) (hx1 : (x.kind == 1) = false) (hx2 : (x.kind == 2) = false) (hx3 : (x.kind == 3) = false) (hmany : A.length ≤ 999) :
    Calls Try.prog 22 #[.pointer (some ⟨pb, 0, none⟩), .pointer (some ⟨pd, 0, none⟩), .agg #[.int .i64 x.kind, .int .i64 x.queue, .int .i64 x.slot, .int .i64 x.id, .int .i64 x.qty, .bool x.top]] w fun e w' => e = .returned (.bool true) ∧ (∃ qa' A' da' dk' V', A'.length ≤ A.length + 1 ∧ Two w' B pb sb qa' room A' pd ub da' dk' V') ∧ Keeps (DF pb sb qa pd ub da A V) w w' := by
  have hroom := h.la.small
  have HFIT := Lib.hid (h.la.fit (by have := h.many; omega))
  have HSL := Lib.hid h.la.slots
  have hbx : Below w.heap.size w (w.alloc (.cells #[.int .i64 x.kind, .int .i64 x.queue, .int .i64 x.slot, .int .i64 x.id, .int .i64 x.qty, .bool x.top] 31)) := (Below.refl _ _).alloc (Nat.le_refl _) _
  have HB : Hid (Blk (w.alloc (.cells #[.int .i64 x.kind, .int .i64 x.queue, .int .i64 x.slot, .int .i64 x.id, .int .i64 x.qty, .bool x.top] 31)) w.heap.size 31 #[.int .i64 x.kind, .int .i64 x.queue, .int .i64 x.slot, .int .i64 x.id, .int .i64 x.qty, .bool x.top]) := Lib.hid (Blk.new _ _ _)
  have H0 := Lib.hid (h.below hbx)
  have HBB : Hid (Keeps (DF pb sb qa pd ub da A V) w (w.alloc (.cells #[.int .i64 x.kind, .int .i64 x.queue, .int .i64 x.slot, .int .i64 x.id, .int .i64 x.qty, .bool x.top] 31))) := Lib.hid (Below.keeps hbx)
  have HLA := Lib.hid h.la
  have HRA := Lib.hid h.ra
  have HM := Lib.hid h.many
  clear h hbx
  go_enter Try.func22, Try.ntmps22
  go_wp2_with fail
  generalize (w.alloc (.cells #[.int .i64 x.kind, .int .i64 x.queue, .int .i64 x.slot, .int .i64 x.id, .int .i64 x.qty, .bool x.top] 31)) = wb at *
  have hlen := top_len A x.slot x.top
  have s0 : wb.drew.cell? ⟨w.heap.size, 2, none⟩ = some (.int .i64 x.slot) ∧ wb.drew.cell? ⟨w.heap.size, 5, none⟩ = some (.bool x.top) := ⟨by rw [(HB.out.drew).cell]; rfl, by rw [(HB.out.drew).cell]; rfl⟩
  have HD0 : Hid (Two wb.drew B pb sb qa room A pd ub da dk V) := Lib.hid (H0.out.below (Below.drewN_of wb 1))
  have HW0 : Hid (Keeps (DF pb sb qa pd ub da A V) w wb.drew) := Lib.hid HBB.out.drew
  have HBD : Hid (Blk wb.drew w.heap.size 31 #[.int .i64 x.kind, .int .i64 x.queue, .int .i64 x.slot, .int .i64 x.id, .int .i64 x.qty, .bool x.top]) := Lib.hid HB.out.drew
  have hb0 : B ≤ wb.drew.heap.size := H0.out.base
  have HP : Hid (topA A x.slot x.top = (topA A x.slot x.top)) := Lib.hid rfl
  have HCA := Lib.hid fun wz (hl : LA wz pb sb qa room A) => la_top hl x.slot x.top
  have HDA := Lib.hid fun wz (V0 : Nat → Option Addr × Nat) (hr : RA wz B pd ub da dk room A A V0) (hb : B ≤ wz.heap.size) => dtop_ex hr HFIT.out x.slot x.top
  clear HP
  generalize topA A x.slot x.top = P at *
  obtain ⟨A', fz⟩ := P
  replace hlen : A'.length = A.length := hlen
  go_region_held3 (fun w' => w'.cell? ⟨w.heap.size, 2, none⟩ = some (.int .i64 x.slot) ∧ w'.cell? ⟨w.heap.size, 5, none⟩ = some (.bool x.top))
    (first | assumption | go_keep)
    (first
      | (go_at_call 32; refine (HDA.out w1 V HR1.out hz1).mono ?_; rintro e w2 ⟨rfl, ⟨V', hr2⟩, hk2⟩; have HR2 := Lib.hid hr2; have HL2 := Lib.hid (keep_code HL1.out HR1.out hk2); have HB2 : Hid (Keeps (DF pb sb qa pd ub da A V) w w2) := Lib.hid (HB1.out.trans (hk2.more fun _ x => .inr x)); have s2 : w2.cell? ⟨w.heap.size, 2, none⟩ = some (.int .i64 x.slot) ∧ w2.cell? ⟨w.heap.size, 5, none⟩ = some (.bool x.top) := ⟨by rw [(far_doc HX1.out HRA.out (Nat.le_refl _) hk2).cell]; rfl, by rw [(far_doc HX1.out HRA.out (Nat.le_refl _) hk2).cell]; rfl⟩; have hz2 := hk2.size; clear hk2 hr2)
      | (go_at_call 18; refine (HCA.out w1 HL1.out).mono ?_; rintro e w2 ⟨rfl, hl2, hk2⟩; have HL2 := Lib.hid hl2; have HR2 := Lib.hid (keep_doc HL1.out HR1.out hk2); have HB2 : Hid (Keeps (DF pb sb qa pd ub da A V) w w2) := Lib.hid (HB1.out.trans (hk2.more fun _ x => .inl x)); have s2 : w2.cell? ⟨w.heap.size, 2, none⟩ = some (.int .i64 x.slot) ∧ w2.cell? ⟨w.heap.size, 5, none⟩ = some (.bool x.top) := ⟨by rw [(far_code HX1.out HLA.out (Nat.le_refl _) hk2).cell]; rfl, by rw [(far_code HX1.out HLA.out (Nat.le_refl _) hk2).cell]; rfl⟩; have hz2 := hk2.size; clear hk2 hl2)
      | (go_at_call 18; refine (HCA.out _ HD0.out.la).mono ?_; rintro e w1 ⟨rfl, hl1, hk1⟩; have HL1 := Lib.hid hl1; have HR1 := Lib.hid (keep_doc HD0.out.la HD0.out.ra hk1); have HB1 : Hid (Keeps (DF pb sb qa pd ub da A V) w w1) := Lib.hid (HW0.out.trans (hk1.more fun _ x => .inl x)); have HX1 := Lib.hid (far_code HBD.out HLA.out (Nat.le_refl _) hk1); have s1 : w1.cell? ⟨w.heap.size, 2, none⟩ = some (.int .i64 x.slot) ∧ w1.cell? ⟨w.heap.size, 5, none⟩ = some (.bool x.top) := ⟨by rw [(HX1.out).cell]; rfl, by rw [(HX1.out).cell]; rfl⟩; have hz1 : B ≤ w1.heap.size := (by have := hk1.size; omega); clear hk1 hl1)
      | (go_at_call 32; refine (HDA.out _ V HD0.out.ra hb0).mono ?_; rintro e w1 ⟨rfl, ⟨V', hr1⟩, hk1⟩; have HR1 := Lib.hid hr1; have HL1 := Lib.hid (keep_code HD0.out.la HD0.out.ra hk1); have HB1 : Hid (Keeps (DF pb sb qa pd ub da A V) w w1) := Lib.hid (HW0.out.trans (hk1.more fun _ x => .inr x)); have HX1 := Lib.hid (far_doc HBD.out HRA.out (Nat.le_refl _) hk1); have s1 : w1.cell? ⟨w.heap.size, 2, none⟩ = some (.int .i64 x.slot) ∧ w1.cell? ⟨w.heap.size, 5, none⟩ = some (.bool x.top) := ⟨by rw [(HX1.out).cell]; rfl, by rw [(HX1.out).cell]; rfl⟩; have hz1 : B ≤ w1.heap.size := (by have := hk1.size; omega); clear hk1 hr1))
  all_goals
    go_wp2_with fail
    go_ret
    exact ⟨by trivial, ⟨_, _, _, _, _, by omega, HL2.out, HR2.out, H0.out.ge, by omega, by have := HM.out; omega⟩, HB2.out⟩
theorem do_any (h : Two w B pb sb qa room A pd ub da dk V) (x : AskR) (hmany : A.length ≤ 999) :
    Calls Try.prog 22 #[.pointer (some ⟨pb, 0, none⟩), .pointer (some ⟨pd, 0, none⟩), x.agg] w fun e w' => e = .returned (.bool true) ∧ (∃ qa' A' da' dk' V', A'.length ≤ A.length + 1 ∧ Two w' B pb sb qa' room A' pd ub da' dk' V') ∧ Keeps (DF pb sb qa pd ub da A V) w w' := by
  unfold AskR.agg
  have hways : x.kind = 1 ∨ x.kind = 2 ∨ x.kind = 3 ∨ ((x.kind == 1) = false ∧ (x.kind == 2) = false ∧ (x.kind == 3) = false) := by
    simp only [beq_eq_false_iff_ne]; omega
  rcases hways with hk | hk | hk | ⟨h1, h2, h3⟩
  · rw [hk]; exact do_open h x hmany
  · rw [hk]; exact do_push h x hmany
  · rw [hk]; exact do_take h x hmany
  · exact do_top h x h1 h2 h3 hmany
/-- what a round of both leaves alone -/
theorem Two.bel (h : Two w B pb sb qa room A pd ub da dk V) (hk : Keeps (DF pb sb qa pd ub da A V) w w1) : Below B w w1 :=
  hk.below (fun g hg => by rcases hg with hg | hg; exact h.ge g hg; exact h.ra.ge g hg) h.base
theorem Two.not_mine (h : Two w B pb sb qa room A pd ub da dk V) {g : Nat} {t : TypeId} (ht : Tyd w g t) (h1 : ¬ LTy t) (h2 : ¬ RTy t) : ¬ DF pb sb qa pd ub da A V g := by
  obtain ⟨cs, hg⟩ := ht
  rintro (hx | hx)
  · obtain ⟨t', ⟨cs', hg'⟩, h3⟩ := h.la.ty g hx
    rw [hg] at hg'
    injection hg' with hg'
    injection hg' with _ hg'
    exact h1 (by rw [hg']; exact h3)
  · obtain ⟨t', ⟨cs', hg'⟩, h3⟩ := h.ra.ty g hx
    rw [hg] at hg'
    injection hg' with hg'
    injection hg' with _ hg'
    exact h2 (by rw [hg']; exact h3)
end
end Go.Proofs.Ytbpmoomklknkkaa
