/- A quote is as itself: how the model holds two structs with an array in them against one another. -/
import Derived.Test.YtilficlanliinaaImp
namespace Go.Proofs.Ytilficlanliinaa
open Go.RowKit

theorem leg_self (d : Nat) (a b : Int) (w : World) : (Op.equalIn (d + 2) 35 (.agg #[.int .i64 a, .int .i64 b]) (.agg #[.int .i64 a, .int .i64 b])).run Try.prog w = .ok true w := by
  go_simp
theorem legs_self (d : Nat) (a b c e : Int) (w : World) : (Op.equalIn (d + 3) 36 (.agg #[.int .i64 a, .int .i64 b, .int .i64 c, .int .i64 e]) (.agg #[.int .i64 a, .int .i64 b, .int .i64 c, .int .i64 e])).run Try.prog w = .ok true w := by
  have h1 := leg_self d a b
  have h2 := leg_self d c e
  unfold Op.equalIn
  simp only [Sem.run_bind, run_underlying Try.underlying36, Result.andThen_ok]
  go_simp
  rw [show List.range' 0 2 = [0, 1] from rfl]
  simp only [List.forIn_cons, List.forIn_nil]
  go_simp
theorem quote_self (d : Nat) (q : Qt) (w : World) : (Op.equalIn (d + 4) 38 (.agg q.cells.toArray) (.agg q.cells.toArray)).run Try.prog w = .ok true w := by
  have h := legs_self
  unfold Qt.cells
  go_simp
end Go.Proofs.Ytilficlanliinaa
