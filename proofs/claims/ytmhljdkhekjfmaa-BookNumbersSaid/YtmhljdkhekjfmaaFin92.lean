/- The walk of BookNumbers, whole. -/
import Derived.Test.YtmhljdkhekjfmaaR97
import Derived.Test.YtmhljdkhekjfmaaNum9
namespace Go.Proofs.Ytmhljdkhekjfmaa
open Go.RowKit

theorem numbers9_all (W : World) :
    Calls Try.prog 6 #[] W fun e w' => e = .returned (.bool true) ∧ Below W.heap.size W w' := numbers9 add_ref_all W
end Go.Proofs.Ytmhljdkhekjfmaa
