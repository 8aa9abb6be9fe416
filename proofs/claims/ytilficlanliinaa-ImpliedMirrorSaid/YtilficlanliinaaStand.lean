/- Where a walk stands that has products in blocks. -/
import Derived.Test.YtilficlanliinaaShort
namespace Go.Proofs.Ytilficlanliinaa
open Go.RowKit

theorem PC.of5 {w : World} {g : Nat} {p : Prod} (hb : Blk w g 25 p.cells) : PC w g p := by
  have h : ∀ i, w.cell? ⟨g, i, none⟩ = p.cells[i]? := fun i => hb.cell i
  exact ⟨h 0, h 1, h 2, h 3, h 4, h 5, h 6, h 7, h 8, h 9, h 10⟩
/-- what the law asks of its product -/
theorem PIn.below {w w' : World} {p : Prod} (h : PIn w p) (hb : Below w.heap.size w w') : PIn w' p :=
  ⟨h.code, h.mon.below hb, h.set_.below hb, h.mlen, h.slen, h.tick, h.low, h.high, h.wide, h.rule, h.top, h.least, h.part⟩
theorem short_pv {w : World} {p : Prod} (hp : PIn w p) : PV w (shortP p) :=
  ⟨Nat.le_trans (headS_le p.code 20) (by omega), hp.mon.take 8, hp.set_.take 8, by show (p.months.take 8).length ≤ 1000000; rw [List.length_take]; omega, by show (p.settle.take 8).length ≤ 1000000; rw [List.length_take]; omega, hp.tick, hp.low, hp.high, hp.wide⟩
theorem short_px {w : World} {p : Prod} (hp : PIn w p) : PX (shortP p) :=
  ⟨by show (p.months.take 8).length ≤ 9223372036854775807; rw [List.length_take]; omega, hp.tick, hp.wide, hp.rule, hp.top, hp.least, hp.part⟩
/-- where a walk stands that has two products in blocks -/
structure Two (w w1 : World) (gx gp : Nat) (x p : Prod) : Prop where
  bel : Below w.heap.size w w1
  xc : PC w1 gx x
  pc : PC w1 gp p
  xv : PV w1 x
  pv : PV w1 p
  xlt : gx < w1.heap.size
  plt : gp < w1.heap.size
theorem Two.next {w w1 w2 : World} {gx gp : Nat} {x p : Prod} (h : Two w w1 gx gp x p) (hb : Below w1.heap.size w1 w2) : Two w w2 gx gp x p :=
  ⟨h.bel.trans (hb.mono h.bel.size), h.xc.below hb h.xlt, h.pc.below hb h.plt, h.xv.below hb, h.pv.below hb, Nat.lt_of_lt_of_le h.xlt hb.size, Nat.lt_of_lt_of_le h.plt hb.size⟩
theorem Blk.below {w w' : World} {g : Nat} {t : TypeId} {cs : Array Value} (h : Blk w g t cs) (hb : Below w.heap.size w w') : Blk w' g t cs := h.keeps (Below.keeps (F := fun _ => False) hb) (fun x => x)

/-- where a walk stands that has a product in a block -/
structure One (w w1 : World) (g : Nat) (p : Prod) : Prop where
  bel : Below w.heap.size w w1
  pc : PC w1 g p
  pv : PV w1 p
  lt : g < w1.heap.size
theorem One.next {w w1 w2 : World} {g : Nat} {p : Prod} (h : One w w1 g p) (hb : Below w1.heap.size w1 w2) : One w w2 g p :=
  ⟨h.bel.trans (hb.mono h.bel.size), h.pc.below hb h.lt, h.pv.below hb, Nat.lt_of_lt_of_le h.lt hb.size⟩
def zeroP : Prod := ⟨⟨#[]⟩, none, [], 0, 0, 0, 0, 0, 0, 0, 0, 0, none, [], 0⟩
theorem zero_prod : prodB ⟨#[]⟩ = false := by decide +kernel
theorem zero_check : checkP zeroP = 12 := by
  unfold checkP
  rw [show prodB zeroP.code = false from zero_prod, if_pos rfl]
theorem zero_pv (w : World) : PV w zeroP := ⟨by show 0 ≤ 1000; omega, (fun j x h => by simp [zeroP] at h), (fun j x h => by simp [zeroP] at h), Nat.zero_le _, Nat.zero_le _, by decide, by decide, by decide, by decide⟩
end Go.Proofs.Ytilficlanliinaa
