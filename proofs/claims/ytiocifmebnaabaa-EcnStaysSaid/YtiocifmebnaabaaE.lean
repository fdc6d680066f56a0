/-
  '==' on two arrays of three numbers.
-/
import Derived.Test.YtiocifmebnaabaaA
import Derived.ChangeKeysEq
namespace Go.Proofs.Ytiocifmebnaabaa
open Go.RowKit
set_option linter.unusedVariables false

theorem int_info : ∃ i, Try.prog.info? 3 = some i := by
  have : (Try.prog.info? 3).isSome = true := by kernel_rfl
  exact Option.isSome_iff_exists.1 this
theorem cells3 : Try.prog.cellsOf 3 = 1 := by kernel_rfl
theorem eql_three (a b c x y z : Int) (w : World) : (binOp .eql 22 (.agg #[.int .i64 a, .int .i64 b, .int .i64 c]) (.agg #[.int .i64 x, .int .i64 y, .int .i64 z])).run Try.prog w = .ok (.bool (a == x && (b == y && c == z))) w := by
  obtain ⟨i, hi⟩ := int_info
  rw [run_eql_struct]
  rw [run_equalIn_array w 9999 _ _ Try.underlying22 hi, cells3]
  have e : List.range 3 = [0, 1, 2] := rfl
  rw [e]
  have hu := Try.underlying3
  simp only [Op.eqItems, Sem.run_bind]
  simp [part, isAgg, run_underlying hu, run_equalIn_int w 9998 3 .i64 .i64 _ _ hu]
  by_cases p : a = x <;> by_cases q : b = y <;> by_cases r : c = z <;> simp [p, q, r]
end Go.Proofs.Ytiocifmebnaabaa
