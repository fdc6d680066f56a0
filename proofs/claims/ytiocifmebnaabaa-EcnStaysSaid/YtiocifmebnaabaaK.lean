/-
  '==' and '!=' on counts.
-/
import Derived.Test.YtiocifmebnaabaaE
namespace Go.Proofs.Ytiocifmebnaabaa
open Go.RowKit
set_option linter.unusedVariables false

theorem eqin_three (a b c x y z : Int) (w : World) : (Op.equalIn 9999 22 (.agg #[.int .i64 a, .int .i64 b, .int .i64 c]) (.agg #[.int .i64 x, .int .i64 y, .int .i64 z])).run Try.prog w = .ok (a == x && (b == y && c == z)) w := by
  obtain ⟨i, hi⟩ := int_info
  rw [run_equalIn_array w 9998 _ _ Try.underlying22 hi, cells3]
  have e : List.range 3 = [0, 1, 2] := rfl
  rw [e]
  have hu := Try.underlying3
  simp only [Op.eqItems, Sem.run_bind]
  simp [part, isAgg, run_underlying hu, run_equalIn_int w 9997 3 .i64 .i64 _ _ hu]
  by_cases p : a = x <;> by_cases q : b = y <;> by_cases r : c = z <;> simp [p, q, r]

def sameC (n a b c : Int) (f : Bool) (m x y z : Int) (g : Bool) : Bool := n == m && ((a == x && (b == y && c == z)) && f == g)
theorem fields24 : (Try.prog.fieldsOf 24).toList = [{ name := "Sent", type := 3, offset := 0, embedded := false, tag := "", pkgPath := "", byteOffset := 0 }, { name := "Seen", type := 22, offset := 1, embedded := false, tag := "", pkgPath := "", byteOffset := 8 }, { name := "Failed", type := 4, offset := 4, embedded := false, tag := "", pkgPath := "", byteOffset := 32 }] := by kernel_rfl
theorem fields31 : (Try.prog.fieldsOf 31).toList = [{ name := "Sent", type := 3, offset := 0, embedded := false, tag := "", pkgPath := "", byteOffset := 0 }, { name := "Seen", type := 22, offset := 1, embedded := false, tag := "", pkgPath := "", byteOffset := 8 }, { name := "Failed", type := 4, offset := 4, embedded := false, tag := "", pkgPath := "", byteOffset := 32 }] := by kernel_rfl
theorem part_three (n a b c : Int) (f : Bool) (w : World) : (part 22 #[.int .i64 n, .int .i64 a, .int .i64 b, .int .i64 c, .bool f] 1).run Try.prog w = .ok (.agg #[.int .i64 a, .int .i64 b, .int .i64 c]) w := by kernel_rfl
theorem fields_run (n a b c : Int) (f : Bool) (m x y z : Int) (g : Bool) (w : World) :
    (Op.eqFields 9999 #[.int .i64 n, .int .i64 a, .int .i64 b, .int .i64 c, .bool f] #[.int .i64 m, .int .i64 x, .int .i64 y, .int .i64 z, .bool g] [{ name := "Sent", type := 3, offset := 0, embedded := false, tag := "", pkgPath := "", byteOffset := 0 }, { name := "Seen", type := 22, offset := 1, embedded := false, tag := "", pkgPath := "", byteOffset := 8 }, { name := "Failed", type := 4, offset := 4, embedded := false, tag := "", pkgPath := "", byteOffset := 32 }]).run Try.prog w = .ok (sameC n a b c f m x y z g) w := by
  have hu := Try.underlying3
  have hb := Try.underlying4
  simp only [Op.eqFields]
  simp [part, isAgg, run_underlying hu, run_underlying hb, run_equalIn_int w 9998 3 .i64 .i64 _ _ hu, run_equalIn_bool' w 9998 4 _ _ hb, eqin_three, sameC]
  by_cases p : n = m <;> by_cases q : a = x <;> by_cases r : b = y <;> by_cases s : c = z <;> cases f <;> cases g <;> simp [p, q, r, s]
theorem eql_24 (n a b c : Int) (f : Bool) (m x y z : Int) (g : Bool) (w : World) : (binOp .eql 24 (.agg #[.int .i64 n, .int .i64 a, .int .i64 b, .int .i64 c, .bool f]) (.agg #[.int .i64 m, .int .i64 x, .int .i64 y, .int .i64 z, .bool g])).run Try.prog w = .ok (.bool (sameC n a b c f m x y z g)) w := by
  rw [run_eql_struct, run_equalIn_struct w 9999 24 _ _ Try.underlying24 (by kernel_rfl), fields24, fields_run]; rfl
theorem neq_24 (n a b c : Int) (f : Bool) (m x y z : Int) (g : Bool) (w : World) : (binOp .neq 24 (.agg #[.int .i64 n, .int .i64 a, .int .i64 b, .int .i64 c, .bool f]) (.agg #[.int .i64 m, .int .i64 x, .int .i64 y, .int .i64 z, .bool g])).run Try.prog w = .ok (.bool (!sameC n a b c f m x y z g)) w := by
  rw [run_neq_struct, run_equalIn_struct w 9999 24 _ _ Try.underlying24 (by kernel_rfl), fields24, fields_run]; rfl
theorem eql_31 (n a b c : Int) (f : Bool) (m x y z : Int) (g : Bool) (w : World) : (binOp .eql 31 (.agg #[.int .i64 n, .int .i64 a, .int .i64 b, .int .i64 c, .bool f]) (.agg #[.int .i64 m, .int .i64 x, .int .i64 y, .int .i64 z, .bool g])).run Try.prog w = .ok (.bool (sameC n a b c f m x y z g)) w := by
  rw [run_eql_struct, run_equalIn_struct w 9999 31 _ _ Try.underlying31 (by kernel_rfl), fields31, fields_run]; rfl
theorem neq_three (a b c x y z : Int) (w : World) : (binOp .neq 22 (.agg #[.int .i64 a, .int .i64 b, .int .i64 c]) (.agg #[.int .i64 x, .int .i64 y, .int .i64 z])).run Try.prog w = .ok (.bool (!(a == x && (b == y && c == z)))) w := by
  obtain ⟨i, hi⟩ := int_info
  rw [run_neq_struct]
  rw [run_equalIn_array w 9999 _ _ Try.underlying22 hi, cells3]
  have e : List.range 3 = [0, 1, 2] := rfl
  rw [e]
  have hu := Try.underlying3
  simp only [Op.eqItems, Sem.run_bind]
  simp [part, isAgg, run_underlying hu, run_equalIn_int w 9998 3 .i64 .i64 _ _ hu]
  by_cases p : a = x <;> by_cases q : b = y <;> by_cases r : c = z <;> simp [p, q, r]
theorem sameC_self (n a b c : Int) (f : Bool) : sameC n a b c f n a b c f = true := by simp [sameC]
end Go.Proofs.Ytiocifmebnaabaa
