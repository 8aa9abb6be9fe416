/- The walks of BookPlays and BookSmall, whole. -/
import Derived.Test.YtmhljdkhekjfmaaR97
import Derived.Test.YtmhljdkhekjfmaaBPlays
import Derived.Test.YtmhljdkhekjfmaaBSmall
namespace Go.Proofs.Ytmhljdkhekjfmaa
open Go.RowKit

theorem plays9_all (q : Option Addr) (c : Nat) (l : List Ak) (W : World) (hR : AK.Rd W q l) (_ : ∀ x ∈ l, x.ok) :
    Calls Try.prog 7 #[.slice q l.length c] W fun e w' => e = .returned (.bool true) ∧ Below W.heap.size W w' := plays9 add_ref_all q c l W hR
theorem small9_all (q : Option Addr) (c : Nat) (l : List Ak) (W : World) (hR : AK.Rd W q l) (hok : ∀ x ∈ l, x.ok) :
    Calls Try.prog 8 #[.slice q l.length c] W fun e w' => e = .returned (.bool true) ∧ Below W.heap.size W w' := small9 add_ref_all q c l W hR hok
end Go.Proofs.Ytmhljdkhekjfmaa
