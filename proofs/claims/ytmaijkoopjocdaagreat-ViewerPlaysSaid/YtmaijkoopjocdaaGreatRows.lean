/-
  No cell of these rows narrows 'for every input' (looked for: loops, veiled, ifaces, maps, wideKeys, modest, calm, conditions, laid).
  DERIVED. THE GIVEN ROWS OF THIS SEAT. 5 by the template 'for every input the law returns true; each argument reads behind the call as it read before'; 0 by the template 'total and deterministic' (their statements: YtmaijkoopjocdaaGreatTotals.lean).
  GIVEN WITH THE SEED: the statements are not yours to turn. If you find one false, say at which input.
  Laid BY PROGRAM, IN A SANDBOX (cutbox-rows.mjs): the forced cells as the released guide's own fill.sh prints them over the translation 68589338bf86ef0a… (all of the seat's roots in one cut). By AI agents, Wed Nov 11 2026. No macro, syntax, notation, axiom, sorry.
-/
import Derived.Test.YtmaijkoopjocdaaGreatChecked
import GoSem.Claim
import GoSem.ClaimJoined
import GoSem.ClaimMapViews
import Derived.JoinedTies
import Derived.KernelRfl
namespace Go.Proofs.YtmaijkoopjocdaaGreat
/- THE CELL 'sum', in the pinned program and in every row, IS THE sha256 OF THE DUMP (.gsa) THAT YtmaijkoopjocdaaGreatProg.lean LOADS. Nothing in Lean hashes anything: it is a label: what it is worth is what the hold of that sum in a sandbox is worth. -/
noncomputable def Tryz.pinned : Pinned := { name := "ytmaijkoopjocdaagreat", sum := "68589338bf86ef0a8ca618a6734eb26fd5c2ce78c7c458142e379fa095a18e65", checked := Tryz.checked }
namespace Rows
def none {H : Type} : Left H := { results := [], args := [] }

/-- 'cornhilllaw21.ViewerTwice': WHATEVER THE INPUT: true; the input reads as it did. -/
def viewerTwiceSpec : ChangeSpec := { name := "viewerTwice", fn := fun _ => fun
  | [d1, d2, d3] => { results := [.lit (.bool true)], args := [d1, d2, d3] }
  | _ => none }
def viewerTwiceRow : OpenClaim := { program := "ytmaijkoopjocdaagreat", sum := "68589338bf86ef0a8ca618a6734eb26fd5c2ce78c7c458142e379fa095a18e65", func := "cornhill/cornhilllaw21.ViewerTwice", spec := "viewerTwice", inPlace := ["slices.overlaps[cornhill/book.Level]", "slices.overlaps[cornhill/api.Msg]"], unfollowed := true, recurses := true, apart := false }
def ViewerTwiceSaid : Prop := viewerTwiceRow.holds Tryz.pinned (OpenSpec.ofChange viewerTwiceSpec)

/-- ITS FALSE NEIGHBOUR: 'it returns false'. Refute it at one input. -/
def viewerTwiceWrong : ChangeSpec := { name := "viewerTwice", fn := fun _ => fun
  | [d1, d2, d3] => { results := [.lit (.bool false)], args := [d1, d2, d3] }
  | _ => none }
def ViewerTwiceWrongFalsely : Prop := viewerTwiceRow.holds Tryz.pinned (OpenSpec.ofChange viewerTwiceWrong)

/-- 'cornhilllaw21.ViewerHeld': WHATEVER THE INPUT: true; the input reads as it did. -/
def viewerHeldSpec : ChangeSpec := { name := "viewerHeld", fn := fun _ => fun
  | [d1, d2, d3] => { results := [.lit (.bool true)], args := [d1, d2, d3] }
  | _ => none }
def viewerHeldRow : OpenClaim := { program := "ytmaijkoopjocdaagreat", sum := "68589338bf86ef0a8ca618a6734eb26fd5c2ce78c7c458142e379fa095a18e65", func := "cornhill/cornhilllaw21.ViewerHeld", spec := "viewerHeld", inPlace := ["slices.overlaps[cornhill/book.Level]", "slices.overlaps[cornhill/api.Msg]"], unfollowed := true, recurses := true, apart := false }
def ViewerHeldSaid : Prop := viewerHeldRow.holds Tryz.pinned (OpenSpec.ofChange viewerHeldSpec)

/-- ITS FALSE NEIGHBOUR: 'it returns false'. Refute it at one input. -/
def viewerHeldWrong : ChangeSpec := { name := "viewerHeld", fn := fun _ => fun
  | [d1, d2, d3] => { results := [.lit (.bool false)], args := [d1, d2, d3] }
  | _ => none }
def ViewerHeldWrongFalsely : Prop := viewerHeldRow.holds Tryz.pinned (OpenSpec.ofChange viewerHeldWrong)

/-- 'cornhilllaw21.ViewerSnaps': WHATEVER THE INPUT: true; the input reads as it did. -/
def viewerSnapsSpec : ChangeSpec := { name := "viewerSnaps", fn := fun _ => fun
  | [d1, d2, d3] => { results := [.lit (.bool true)], args := [d1, d2, d3] }
  | _ => none }
def viewerSnapsRow : OpenClaim := { program := "ytmaijkoopjocdaagreat", sum := "68589338bf86ef0a8ca618a6734eb26fd5c2ce78c7c458142e379fa095a18e65", func := "cornhill/cornhilllaw21.ViewerSnaps", spec := "viewerSnaps", inPlace := ["slices.overlaps[cornhill/book.Level]", "slices.overlaps[cornhill/api.Msg]"], unfollowed := true, recurses := true, apart := false }
def ViewerSnapsSaid : Prop := viewerSnapsRow.holds Tryz.pinned (OpenSpec.ofChange viewerSnapsSpec)

/-- ITS FALSE NEIGHBOUR: 'it returns false'. Refute it at one input. -/
def viewerSnapsWrong : ChangeSpec := { name := "viewerSnaps", fn := fun _ => fun
  | [d1, d2, d3] => { results := [.lit (.bool false)], args := [d1, d2, d3] }
  | _ => none }
def ViewerSnapsWrongFalsely : Prop := viewerSnapsRow.holds Tryz.pinned (OpenSpec.ofChange viewerSnapsWrong)

/-- 'cornhilllaw21.ViewerPlays': WHATEVER THE INPUT: true; the input reads as it did. -/
def viewerPlaysSpec : ChangeSpec := { name := "viewerPlays", fn := fun _ => fun
  | [d1, d2, d3, d4] => { results := [.lit (.bool true)], args := [d1, d2, d3, d4] }
  | _ => none }
def viewerPlaysRow : OpenClaim := { program := "ytmaijkoopjocdaagreat", sum := "68589338bf86ef0a8ca618a6734eb26fd5c2ce78c7c458142e379fa095a18e65", func := "cornhill/cornhilllaw21.ViewerPlays", spec := "viewerPlays", inPlace := ["slices.overlaps[cornhill/book.Level]", "slices.overlaps[cornhill/api.Msg]"], unfollowed := true, recurses := true, apart := false }
def ViewerPlaysSaid : Prop := viewerPlaysRow.holds Tryz.pinned (OpenSpec.ofChange viewerPlaysSpec)

/-- ITS FALSE NEIGHBOUR: 'it returns false'. Refute it at one input. -/
def viewerPlaysWrong : ChangeSpec := { name := "viewerPlays", fn := fun _ => fun
  | [d1, d2, d3, d4] => { results := [.lit (.bool false)], args := [d1, d2, d3, d4] }
  | _ => none }
def ViewerPlaysWrongFalsely : Prop := viewerPlaysRow.holds Tryz.pinned (OpenSpec.ofChange viewerPlaysWrong)

/-- 'cornhilllaw21.ViewerSees': WHATEVER THE INPUT: true; the input reads as it did. -/
def viewerSeesSpec : ChangeSpec := { name := "viewerSees", fn := fun _ => fun
  | [d1, d2, d3, d4] => { results := [.lit (.bool true)], args := [d1, d2, d3, d4] }
  | _ => none }
def viewerSeesRow : OpenClaim := { program := "ytmaijkoopjocdaagreat", sum := "68589338bf86ef0a8ca618a6734eb26fd5c2ce78c7c458142e379fa095a18e65", func := "cornhill/cornhilllaw21.ViewerSees", spec := "viewerSees", inPlace := ["slices.overlaps[cornhill/book.Level]", "slices.overlaps[cornhill/api.Msg]"], unfollowed := true, recurses := true, apart := false }
def ViewerSeesSaid : Prop := viewerSeesRow.holds Tryz.pinned (OpenSpec.ofChange viewerSeesSpec)

/-- ITS FALSE NEIGHBOUR: 'it returns false'. Refute it at one input. -/
def viewerSeesWrong : ChangeSpec := { name := "viewerSees", fn := fun _ => fun
  | [d1, d2, d3, d4] => { results := [.lit (.bool false)], args := [d1, d2, d3, d4] }
  | _ => none }
def ViewerSeesWrongFalsely : Prop := viewerSeesRow.holds Tryz.pinned (OpenSpec.ofChange viewerSeesWrong)

/- THE SECOND FORM. 'bulk': how many values and letters a reading holds, each counted each time it is reached (what is shared counts as often as it is met; a slice's spare places count too). A statement '..UptoSaid' is the law's where the arguments, and the package variables that the reading takes, are together of bulk at most 1048576: NARROWER than '..Said'. Prove '..Said' where nothing that the law and all that it calls make is longer than what came in: it says more and counts as full. Else prove '..UptoSaid'. A law counts once. -/
mutual
def uptoBulk {H : Type} : DataW H → Nat
  | .lit (.string bytes) => bytes.length + 1
  | .lit _ => 1
  | .nil => 1
  | .ptr d => uptoBulk d + 1
  | .slice elems spare => uptoBulkAll elems + uptoBulkAll spare + 1
  | .agg parts => uptoBulkAll parts + 1
  | .iface _ d => uptoBulk d + 1
  | .map entries => uptoBulkEntries entries + 1
  | .held _ => 1
def uptoBulkAll {H : Type} : List (DataW H) → Nat
  | [] => 0
  | d :: r => uptoBulk d + uptoBulkAll r
def uptoBulkEntries {H : Type} : List (Lit × DataW H) → Nat
  | [] => 0
  | x :: r => uptoBulkEntry x + uptoBulkEntries r
def uptoBulkEntry {H : Type} : Lit × DataW H → Nat
  | (.string bytes, d) => bytes.length + uptoBulk d + 1
  | (_, d) => uptoBulk d + 1
 end
def uptoSmall : (H : Type) → List (DataW H) → Bool := fun _ ds => decide (uptoBulkAll ds ≤ 1048576)
def OpenSpec.upto (s : _root_.Go.ChangeSpec) : _root_.Go.OpenSpec := { _root_.Go.OpenSpec.ofChange s with cond := some uptoSmall }

/-- 'cornhilllaw21.ViewerTwice', WHERE WHAT IT READS IS OF BULK AT MOST 1048576: true; the input reads as it did. -/
def viewerTwiceUptoRow : OpenClaim := { program := "ytmaijkoopjocdaagreat", sum := "68589338bf86ef0a8ca618a6734eb26fd5c2ce78c7c458142e379fa095a18e65", func := "cornhill/cornhilllaw21.ViewerTwice", spec := "viewerTwice", inPlace := ["slices.overlaps[cornhill/book.Level]", "slices.overlaps[cornhill/api.Msg]"], unfollowed := true, recurses := true, apart := false, narrowed := true }
def ViewerTwiceUptoSaid : Prop := viewerTwiceUptoRow.holds Tryz.pinned (OpenSpec.upto viewerTwiceSpec)

/-- 'cornhilllaw21.ViewerHeld', WHERE WHAT IT READS IS OF BULK AT MOST 1048576: true; the input reads as it did. -/
def viewerHeldUptoRow : OpenClaim := { program := "ytmaijkoopjocdaagreat", sum := "68589338bf86ef0a8ca618a6734eb26fd5c2ce78c7c458142e379fa095a18e65", func := "cornhill/cornhilllaw21.ViewerHeld", spec := "viewerHeld", inPlace := ["slices.overlaps[cornhill/book.Level]", "slices.overlaps[cornhill/api.Msg]"], unfollowed := true, recurses := true, apart := false, narrowed := true }
def ViewerHeldUptoSaid : Prop := viewerHeldUptoRow.holds Tryz.pinned (OpenSpec.upto viewerHeldSpec)

/-- 'cornhilllaw21.ViewerSnaps', WHERE WHAT IT READS IS OF BULK AT MOST 1048576: true; the input reads as it did. -/
def viewerSnapsUptoRow : OpenClaim := { program := "ytmaijkoopjocdaagreat", sum := "68589338bf86ef0a8ca618a6734eb26fd5c2ce78c7c458142e379fa095a18e65", func := "cornhill/cornhilllaw21.ViewerSnaps", spec := "viewerSnaps", inPlace := ["slices.overlaps[cornhill/book.Level]", "slices.overlaps[cornhill/api.Msg]"], unfollowed := true, recurses := true, apart := false, narrowed := true }
def ViewerSnapsUptoSaid : Prop := viewerSnapsUptoRow.holds Tryz.pinned (OpenSpec.upto viewerSnapsSpec)

/-- 'cornhilllaw21.ViewerPlays', WHERE WHAT IT READS IS OF BULK AT MOST 1048576: true; the input reads as it did. -/
def viewerPlaysUptoRow : OpenClaim := { program := "ytmaijkoopjocdaagreat", sum := "68589338bf86ef0a8ca618a6734eb26fd5c2ce78c7c458142e379fa095a18e65", func := "cornhill/cornhilllaw21.ViewerPlays", spec := "viewerPlays", inPlace := ["slices.overlaps[cornhill/book.Level]", "slices.overlaps[cornhill/api.Msg]"], unfollowed := true, recurses := true, apart := false, narrowed := true }
def ViewerPlaysUptoSaid : Prop := viewerPlaysUptoRow.holds Tryz.pinned (OpenSpec.upto viewerPlaysSpec)

/-- 'cornhilllaw21.ViewerSees', WHERE WHAT IT READS IS OF BULK AT MOST 1048576: true; the input reads as it did. -/
def viewerSeesUptoRow : OpenClaim := { program := "ytmaijkoopjocdaagreat", sum := "68589338bf86ef0a8ca618a6734eb26fd5c2ce78c7c458142e379fa095a18e65", func := "cornhill/cornhilllaw21.ViewerSees", spec := "viewerSees", inPlace := ["slices.overlaps[cornhill/book.Level]", "slices.overlaps[cornhill/api.Msg]"], unfollowed := true, recurses := true, apart := false, narrowed := true }
def ViewerSeesUptoSaid : Prop := viewerSeesUptoRow.holds Tryz.pinned (OpenSpec.upto viewerSeesSpec)

end Rows
end Go.Proofs.YtmaijkoopjocdaaGreat
