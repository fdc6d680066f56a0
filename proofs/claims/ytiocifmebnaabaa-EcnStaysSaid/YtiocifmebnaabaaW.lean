/-
  The walk of EcnFails, kind by kind.
-/
import Derived.Test.YtiocifmebnaabaaV
namespace Go.Proofs.Ytiocifmebnaabaa
open Go.RowKit (wrap32 wrap64)
open Go.RowKit
set_option linter.unusedVariables false
set_option linter.unusedSimpArgs false

/-- A frame that fails. -/
def Fails (a b : Int) (m : Bool) (e0 e1 e2 nw : Int) : Prop := akR (a + b + 10) a 0 b false m e0 e1 e2 nw = ⟨a + b + 10, a, 0, b, true, false, 0⟩
theorem fails_of (a b : Int) (m : Bool) (e0 e1 e2 nw : Int) (ha : 0 ≤ a) (ha' : a < 1048576) (hb : 0 ≤ b) (hb' : b < 1048576) (h0 : 0 ≤ e0 ∧ e0 ≤ 9007199254740991) (h1 : 0 ≤ e1 ∧ e1 ≤ 9007199254740991) (h2 : 0 ≤ e2 ∧ e2 ≤ 9007199254740991) (hn : 0 ≤ nw ∧ nw ≤ 9007199254740991)
    (h : if m = true then (e0 < a ∨ e1 ≠ 0 ∨ e2 < b ∨ a + b + 10 < e0 + e2 ∨ e0 + e2 - (a + b) < nw) else 0 < nw) : Fails a b m e0 e1 e2 nw := by
  unfold Fails
  have g : OkC (a + b + 10) a 0 b := by unfold OkC Num; omega
  have g' : Num nw ∧ Num e0 ∧ Num e1 ∧ Num e2 := ⟨hn, h0, h1, h2⟩
  have hF : bad (a + b + 10) a 0 b m e0 e1 e2 nw = true := by
    unfold bad
    cases m
    · simpa using h
    · simp only [if_true] at h ⊢
      unfold failsB
      simp only [Bool.or_eq_true, decide_eq_true_eq, bne_iff_ne]
      omega
  rw [akR, if_pos g, if_pos g', if_neg (by decide), if_pos hF]
theorem failed_stays (n a b c : Int) (m : Bool) (e0 e1 e2 nw : Int) (g : OkC n a b c) (g' : Num nw ∧ Num e0 ∧ Num e1 ∧ Num e2) : akR n a b c true m e0 e1 e2 nw = ⟨n, a, b, c, true, false, 0⟩ := by
  rw [akR, if_pos g, if_pos g', if_pos rfl]
theorem f_base (w : World) (o1 o2 o3 o4 : Obj) (nq : Nat) : Below w.heap.size w (((((w.alloc o1).drewN nq).alloc o2).alloc o3).alloc o4) :=
  ((((belowDrewN ((Below.refl _ w).alloc (Nat.le_refl _) o1) nq).alloc (by simp) o2).alloc (by simp <;> omega) o3).alloc (by simp <;> omega) o4)
theorem f_at (w : World) (o1 o3 o4 : Obj) (nq : Nat) (n a b c : Int) (f : Bool) : At (((((w.alloc o1).drewN nq).alloc (.cells #[.int .i64 n, .int .i64 a, .int .i64 b, .int .i64 c, .bool f] 24)).alloc o3).alloc o4) (w.heap.size + 1) n a b c f := by
  have := ((At.new ((w.alloc o1).drewN nq) n a b c f 24).alloc o3).alloc o4
  simpa using this
theorem belowDrewN2 {B : Nat} {a w : World} (h : Below B a w) (n : Nat) : Below B a (w.drewN n) := ⟨h.os, h.tape, h.output, h.size, h.block⟩
end Go.Proofs.Ytiocifmebnaabaa
