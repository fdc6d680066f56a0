/-
  The contract of the reference's fails.
-/
import Derived.Test.YtiocifmebnaabaaC
namespace Go.Proofs.Ytiocifmebnaabaa
open Go.RowKit (wrap32 wrap64)
open Go.RowKit
set_option linter.unusedVariables false

theorem rfails_plain (n a b c : Int) (f : Bool) (d : Int) (A : Option Addr) (l k : Nat) (e0 e1 e2 newly : Int) (w : World) :
    Calls Try.prog 23 #[.agg #[.int .i64 n, .int .i64 a, .int .i64 b, .int .i64 c, .bool f], .agg #[.int .i64 d, .slice A l k, .bool false, .int .i64 e0, .int .i64 e1, .int .i64 e2], .int .i64 newly] w fun e w' => e = .returned (.bool (decide (0 < newly))) ∧ Below w.heap.size w w' := by
  go_enter Try.func23, Try.ntmps23
  go_wp2_with fail
  go_ret
  exact ⟨rfl, by go_grown⟩

theorem belowDrewN {B : Nat} {a w : World} (h : Below B a w) (n : Nat) : Below B a (w.drewN n) := ⟨h.os, h.tape, h.output, h.size, h.block⟩
set_option maxHeartbeats 1000000 in
theorem rfails_0 (n a b c : Int) (f : Bool) (d : Int) (A : Option Addr) (l k : Nat) (e0 e1 e2 newly : Int) (w : World) (h0 : e0 < a) :
    Calls Try.prog 23 #[.agg #[.int .i64 n, .int .i64 a, .int .i64 b, .int .i64 c, .bool f], .agg #[.int .i64 d, .slice A l k, .bool true, .int .i64 e0, .int .i64 e1, .int .i64 e2], .int .i64 newly] w fun e w' => e = .returned (.bool true) ∧ Below w.heap.size w w' := by
  go_enter Try.func23, Try.ntmps23
  go_wp2_with fail
  refine wp_loop_rounds 4 ?_
  rw [rounds_succ]
  go_wp2_with fail
  go_quiet (fail)
  go_wp2_with fail
  go_ret
  exact ⟨rfl, (by (repeat (with_reducible refine belowDrewN ?_ _)); go_grown)⟩
set_option maxHeartbeats 1000000 in
theorem rfails_1 (n a b c : Int) (f : Bool) (d : Int) (A : Option Addr) (l k : Nat) (e0 e1 e2 newly : Int) (w : World) (h0 : a ≤ e0) (h1 : e1 < b) :
    Calls Try.prog 23 #[.agg #[.int .i64 n, .int .i64 a, .int .i64 b, .int .i64 c, .bool f], .agg #[.int .i64 d, .slice A l k, .bool true, .int .i64 e0, .int .i64 e1, .int .i64 e2], .int .i64 newly] w fun e w' => e = .returned (.bool true) ∧ Below w.heap.size w w' := by
  go_enter Try.func23, Try.ntmps23
  go_wp2_with fail
  refine wp_loop_rounds 4 ?_
  rw [rounds_succ]
  go_wp2_with fail
  go_quiet (fail)
  go_wp2_with fail
  rw [rounds_succ]
  go_wp2_with fail
  go_quiet (fail)
  go_wp2_with fail
  go_ret
  exact ⟨rfl, (by (repeat (with_reducible refine belowDrewN ?_ _)); go_grown)⟩
set_option maxHeartbeats 1000000 in
theorem rfails_2 (n a b c : Int) (f : Bool) (d : Int) (A : Option Addr) (l k : Nat) (e0 e1 e2 newly : Int) (w : World) (h0 : a ≤ e0) (h1 : b ≤ e1) (h2 : e2 < c) :
    Calls Try.prog 23 #[.agg #[.int .i64 n, .int .i64 a, .int .i64 b, .int .i64 c, .bool f], .agg #[.int .i64 d, .slice A l k, .bool true, .int .i64 e0, .int .i64 e1, .int .i64 e2], .int .i64 newly] w fun e w' => e = .returned (.bool true) ∧ Below w.heap.size w w' := by
  go_enter Try.func23, Try.ntmps23
  go_wp2_with fail
  refine wp_loop_rounds 4 ?_
  rw [rounds_succ]
  go_wp2_with fail
  go_quiet (fail)
  go_wp2_with fail
  rw [rounds_succ]
  go_wp2_with fail
  go_quiet (fail)
  go_wp2_with fail
  rw [rounds_succ]
  go_wp2_with fail
  go_quiet (fail)
  go_wp2_with fail
  go_ret
  exact ⟨rfl, (by (repeat (with_reducible refine belowDrewN ?_ _)); go_grown)⟩
set_option maxHeartbeats 1000000 in
theorem rfails_3 (n a b c : Int) (f : Bool) (d : Int) (A : Option Addr) (l k : Nat) (e0 e1 e2 newly : Int) (w : World) (hn : Num n) (ha : Num a) (hc : Num c) (g0 : Num e0) (g2 : Num e2) (hw : Num newly) (h0 : a ≤ e0) (h1 : b ≤ e1) (h2 : c ≤ e2) :
    Calls Try.prog 23 #[.agg #[.int .i64 n, .int .i64 a, .int .i64 b, .int .i64 c, .bool f], .agg #[.int .i64 d, .slice A l k, .bool true, .int .i64 e0, .int .i64 e1, .int .i64 e2], .int .i64 newly] w fun e w' => e = .returned (.bool (decide (b < e1) || decide (n < e0 + e2) || decide (e0 + e2 - a - c < newly))) ∧ Below w.heap.size w w' := by
  obtain ⟨n0, n1⟩ := hn
  obtain ⟨a0, a1⟩ := ha
  obtain ⟨c0, c1⟩ := hc
  obtain ⟨p0, p1⟩ := g0
  obtain ⟨q0, q1⟩ := g2
  obtain ⟨w0, w1⟩ := hw
  go_enter Try.func23, Try.ntmps23
  go_wp2_with fail
  refine wp_loop_rounds 4 ?_
  rw [rounds_succ]
  go_wp2_with fail
  go_quiet (fail)
  go_wp2_with fail
  rw [rounds_succ]
  go_wp2_with fail
  go_quiet (fail)
  go_wp2_with fail
  rw [rounds_succ]
  go_wp2_with fail
  go_quiet (fail)
  go_wp2_with fail
  rw [rounds_succ]
  go_wp2_with fail
  all_goals
    go_ret
    refine ⟨?_, (by (repeat (with_reducible refine belowDrewN ?_ _)); go_grown)⟩
    simp [*]

/-- The reference's words come to the program's. -/
theorem fails_ref (n a b c e0 e1 e2 newly : Int) (h0 : a ≤ e0) (h1 : b ≤ e1) (h2 : c ≤ e2) : (decide (b < e1) || decide (n < e0 + e2) || decide (e0 + e2 - a - c < newly)) = failsB n a b c e0 e1 e2 newly := by
  unfold failsB
  have x0 : decide (e0 < a) = false := by rw [decide_eq_false_iff_not]; omega
  have x2 : decide (e2 < c) = false := by rw [decide_eq_false_iff_not]; omega
  have x1 : (e1 != b) = decide (b < e1) := by
    by_cases h : e1 = b
    · subst h; simp
    · have h' : b < e1 := by omega
      simp [h, h']
  have x3 : decide (e0 + e2 - a - c < newly) = decide (e0 + e2 - (a + c) < newly) := by
    congr 1
    rw [show e0 + e2 - a - c = e0 + e2 - (a + c) by omega]
  rw [x0, x1, x2, x3]
  simp
theorem rfails_any (n a b c : Int) (f : Bool) (d : Int) (A : Option Addr) (l k : Nat) (m : Bool) (e0 e1 e2 newly : Int) (w : World) (hn : Num n) (ha : Num a) (hc : Num c) (g0 : Num e0) (g2 : Num e2) (hw : Num newly) :
    Calls Try.prog 23 #[.agg #[.int .i64 n, .int .i64 a, .int .i64 b, .int .i64 c, .bool f], .agg #[.int .i64 d, .slice A l k, .bool m, .int .i64 e0, .int .i64 e1, .int .i64 e2], .int .i64 newly] w fun e w' => e = .returned (.bool (if m then failsB n a b c e0 e1 e2 newly else decide (0 < newly))) ∧ Below w.heap.size w w' := by
  cases m
  · exact rfails_plain n a b c f d A l k e0 e1 e2 newly w
  · simp only [if_true]
    by_cases h0 : e0 < a
    · rw [show failsB n a b c e0 e1 e2 newly = true by simp [failsB, h0]]
      exact rfails_0 n a b c f d A l k e0 e1 e2 newly w h0
    · by_cases h1 : e1 < b
      · rw [show failsB n a b c e0 e1 e2 newly = true by
          have : (e1 != b) = true := by rw [bne_iff_ne]; omega
          simp [failsB, this]]
        exact rfails_1 n a b c f d A l k e0 e1 e2 newly w (by omega) h1
      · by_cases h2 : e2 < c
        · rw [show failsB n a b c e0 e1 e2 newly = true by simp [failsB, h2]]
          exact rfails_2 n a b c f d A l k e0 e1 e2 newly w (by omega) (by omega) h2
        · rw [← fails_ref n a b c e0 e1 e2 newly (by omega) (by omega) (by omega)]
          exact rfails_3 n a b c f d A l k e0 e1 e2 newly w hn ha hc g0 g2 hw (by omega) (by omega) (by omega)
end Go.Proofs.Ytiocifmebnaabaa
