/-
  step at all things; '==' on windows; rows of things.
-/
import Derived.Test.YtcjhankepchioaaK
import Derived.Test.YtcjhankepchioaaM
import Derived.ChangeKeysEq
namespace Go.Proofs.Ytcjhankepchioaa
open Go.RowKit (wrap32 wrap64)
open Go.RowKit
set_option linter.unusedVariables false
set_option linter.unusedSimpArgs false

theorem step_any (x : Win) (hx : Ok x) (ki ti no si : Int) (fu : Bool) : ∃ y : Win, Ok y ∧ y.d = x.d ∧ y.m = x.m ∧ ∀ w : World,
    Calls Try.prog 12 #[.agg #[.int .i64 x.d, .int .i64 x.m, .int .i64 x.c, .int .i64 x.t, .int .i64 x.s, .int .i64 x.g], .agg #[.int .i64 ki, .int .i64 ti, .int .i64 no, .int .i64 si, .bool fu]] w fun e w' => e = .returned (.tuple #[.agg #[.int .i64 y.d, .int .i64 y.m, .int .i64 y.c, .int .i64 y.t, .int .i64 y.s, .int .i64 y.g], .bool true]) ∧ Below w.heap.size w w' := by
  obtain ⟨k, HK, k0, k1⟩ := name_mod ki 8 (by omega)
  obtain ⟨t, HT, t0, t1⟩ := name_mod ti 9007199254740992 (by omega)
  obtain ⟨n, HN, n0, n1⟩ := name_mod no 9007199254740992 (by omega)
  obtain ⟨s, HS, s0, s1⟩ := name_mod si 65535 (by omega)
  by_cases h5 : k = 5
  · subst h5
    exact ⟨bad x t n, bad_ok hx t n ⟨n0, by omega⟩, (bad_d x t n).1, (bad_d x t n).2, fun w => step_bad5 x hx ki ti no si fu _ t n s w HK HT HN HS t0 t1 n0 n1 s0 s1 (Lib.hid rfl)⟩
  by_cases h6 : k = 6
  · subst h6
    exact ⟨bad x t n, bad_ok hx t n ⟨n0, by omega⟩, (bad_d x t n).1, (bad_d x t n).2, fun w => step_bad6 x hx ki ti no si fu _ t n s w HK HT HN HS t0 t1 n0 n1 s0 s1 (Lib.hid rfl)⟩
  by_cases h7 : k = 7
  · subst h7
    exact ⟨collapse x, collapse_ok hx, rfl, rfl, fun w => step_col x hx ki ti no si fu _ t n s w HK HT HN HS t0 t1 n0 n1 s0 s1 (Lib.hid rfl)⟩
  · exact ⟨acked x t (1 + s) fu, acked_ok hx t (1 + s) fu (by omega), (acked_d x t (1 + s) fu).1, (acked_d x t (1 + s) fu).2.1, fun w => step_ack x hx ki ti no si fu _ k t n s w HK HT HN HS k0 k1 t0 t1 n0 n1 s0 s1 (by omega) (Lib.hid rfl)⟩

theorem fields26 : (Try.prog.fieldsOf 26).toList = [{ name := "Datagram", type := 3, offset := 0, embedded := false, tag := "", pkgPath := "", byteOffset := 0 }, { name := "Most", type := 3, offset := 1, embedded := false, tag := "", pkgPath := "", byteOffset := 8 }, { name := "Cwnd", type := 3, offset := 2, embedded := false, tag := "", pkgPath := "", byteOffset := 16 }, { name := "Thresh", type := 3, offset := 3, embedded := false, tag := "", pkgPath := "", byteOffset := 24 }, { name := "Start", type := 3, offset := 4, embedded := false, tag := "", pkgPath := "", byteOffset := 32 }, { name := "Got", type := 3, offset := 5, embedded := false, tag := "", pkgPath := "", byteOffset := 40 }] := by kernel_rfl
theorem fields_self (d m c t s g : Int) (w : World) : (Op.eqFields 9999 #[.int .i64 d, .int .i64 m, .int .i64 c, .int .i64 t, .int .i64 s, .int .i64 g] #[.int .i64 d, .int .i64 m, .int .i64 c, .int .i64 t, .int .i64 s, .int .i64 g] [{ name := "Datagram", type := 3, offset := 0, embedded := false, tag := "", pkgPath := "", byteOffset := 0 }, { name := "Most", type := 3, offset := 1, embedded := false, tag := "", pkgPath := "", byteOffset := 8 }, { name := "Cwnd", type := 3, offset := 2, embedded := false, tag := "", pkgPath := "", byteOffset := 16 }, { name := "Thresh", type := 3, offset := 3, embedded := false, tag := "", pkgPath := "", byteOffset := 24 }, { name := "Start", type := 3, offset := 4, embedded := false, tag := "", pkgPath := "", byteOffset := 32 }, { name := "Got", type := 3, offset := 5, embedded := false, tag := "", pkgPath := "", byteOffset := 40 }]).run Try.prog w = .ok true w := by
  have hu := Try.underlying3
  simp only [Op.eqFields]
  simp [part, isAgg, run_underlying hu, run_equalIn_int w 9998 3 .i64 .i64 _ _ hu]
theorem eql_26 (d m c t s g : Int) (w : World) : (binOp .eql 26 (.agg #[.int .i64 d, .int .i64 m, .int .i64 c, .int .i64 t, .int .i64 s, .int .i64 g]) (.agg #[.int .i64 d, .int .i64 m, .int .i64 c, .int .i64 t, .int .i64 s, .int .i64 g])).run Try.prog w = .ok (.bool true) w := by
  rw [run_eql_struct, run_equalIn_struct w 9999 26 _ _ Try.underlying26 (by kernel_rfl), fields26, fields_self]; rfl
theorem neq_26 (d m c t s g : Int) (w : World) : (binOp .neq 26 (.agg #[.int .i64 d, .int .i64 m, .int .i64 c, .int .i64 t, .int .i64 s, .int .i64 g]) (.agg #[.int .i64 d, .int .i64 m, .int .i64 c, .int .i64 t, .int .i64 s, .int .i64 g])).run Try.prog w = .ok (.bool false) w := by
  rw [run_neq_struct, run_equalIn_struct w 9999 26 _ _ Try.underlying26 (by kernel_rfl), fields26, fields_self]; rfl

/-- A row of things that came in. -/
def Dos (w : World) (A : Option Addr) (n : Nat) : Prop := ∀ i, i < n → ∃ (b off : Nat) (ki ti no si : Int) (fu : Bool), A = some ⟨b, off, none⟩ ∧ b < w.heap.size ∧
  w.cell? ⟨b, off + i * 5, none⟩ = some (.int .i64 ki) ∧ w.cell? ⟨b, off + i * 5 + 1, none⟩ = some (.int .i64 ti) ∧ w.cell? ⟨b, off + i * 5 + 2, none⟩ = some (.int .i64 no) ∧ w.cell? ⟨b, off + i * 5 + 3, none⟩ = some (.int .i64 si) ∧ w.cell? ⟨b, off + i * 5 + 4, none⟩ = some (.bool fu)
/-- One cell of a box of a caller's, for whatever world behind. -/
theorem bset {B W : World} {n : Nat} (h : Below n B W) (q : Nat) (hq : n ≤ q) (v0 v1 v2 v3 v4 v5 : Value) :
    Below n B ((((((W.setCell ⟨q, 0, none⟩ v0).setCell ⟨q, 1, none⟩ v1).setCell ⟨q, 2, none⟩ v2).setCell ⟨q, 3, none⟩ v3).setCell ⟨q, 4, none⟩ v4).setCell ⟨q, 5, none⟩ v5) := bSet6 h q hq v0 v1 v2 v3 v4 v5
end Go.Proofs.Ytcjhankepchioaa
