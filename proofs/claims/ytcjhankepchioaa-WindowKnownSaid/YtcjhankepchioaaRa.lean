/-
  The reference's Check.
-/
import Derived.Test.YtcjhankepchioaaH
namespace Go.Proofs.Ytcjhankepchioaa
open Go.RowKit (wrap32 wrap64)
open Go.RowKit
set_option linter.unusedVariables false
set_option linter.unusedSimpArgs false

theorem rtime_is (n : Int) (b : Bool) (w : World) (h : Hid ((decide (0 ≤ n) && decide (n ≤ 9007199254740991)) = b)) : Calls Try.prog 37 #[.int .i64 n] w fun e w' => e = .returned (.bool b) ∧ w = w' := by
  have h' := h.out
  subst h'
  exact rtime_any n w

set_option maxHeartbeats 1000000 in
theorem rck_d0 (d m c t s g : Int) (w : World)  (x : d < 1200) :
    Calls Try.prog 24 #[.agg #[.int .i64 d, .int .i64 m, .int .i64 c, .int .i64 t, .int .i64 s, .int .i64 g]] w fun e w' => e = .returned (.int .i64 2) ∧ Below w.heap.size w w' := by
  have hd0 : decide (d < 1200) = true := by rw [decide_eq_true_eq]; omega
  go_enter Try.func24, Try.ntmps24
  go_wp2_with (first | (go_at_call 37; refine (rtime_is _ _ _ HTS).mono ?_; rintro e w' ⟨rfl, rfl⟩))
  go_ret
  exact ⟨rfl, by go_grown⟩

set_option maxHeartbeats 1000000 in
theorem rck_d1 (d m c t s g : Int) (w : World) (x1 : 1200 ≤ d) (x : 65527 < d) :
    Calls Try.prog 24 #[.agg #[.int .i64 d, .int .i64 m, .int .i64 c, .int .i64 t, .int .i64 s, .int .i64 g]] w fun e w' => e = .returned (.int .i64 2) ∧ Below w.heap.size w w' := by
  have hd0 : decide (d < 1200) = false := by rw [decide_eq_false_iff_not]; omega
  have hd1 : decide (65527 < d) = true := by rw [decide_eq_true_eq]; omega
  go_enter Try.func24, Try.ntmps24
  go_wp2_with (first | (go_at_call 37; refine (rtime_is _ _ _ HTS).mono ?_; rintro e w' ⟨rfl, rfl⟩))
  go_ret
  exact ⟨rfl, by go_grown⟩

set_option maxHeartbeats 1000000 in
theorem rck_m0 (d m c t s g : Int) (w : World) (x1 : 1200 ≤ d) (x2 : d ≤ 65527) (x : m < 2 * d) :
    Calls Try.prog 24 #[.agg #[.int .i64 d, .int .i64 m, .int .i64 c, .int .i64 t, .int .i64 s, .int .i64 g]] w fun e w' => e = .returned (.int .i64 2) ∧ Below w.heap.size w w' := by
  have f0 : IntKind.i64.wrap (2 * d) = 2 * d := IntWalk.i64_in _ (by omega)
  have hd0 : decide (d < 1200) = false := by rw [decide_eq_false_iff_not]; omega
  have hd1 : decide (65527 < d) = false := by rw [decide_eq_false_iff_not]; omega
  have hm0 : decide (m < 2 * d) = true := by rw [decide_eq_true_eq]; omega
  go_enter Try.func24, Try.ntmps24
  go_wp2_with (first | (go_at_call 37; refine (rtime_is _ _ _ HTS).mono ?_; rintro e w' ⟨rfl, rfl⟩))
  go_ret
  exact ⟨rfl, by go_grown⟩

set_option maxHeartbeats 1000000 in
theorem rck_m1 (d m c t s g : Int) (w : World) (x1 : 1200 ≤ d) (x2 : d ≤ 65527) (x3 : 2 * d ≤ m) (x : 1099511627776 < m) :
    Calls Try.prog 24 #[.agg #[.int .i64 d, .int .i64 m, .int .i64 c, .int .i64 t, .int .i64 s, .int .i64 g]] w fun e w' => e = .returned (.int .i64 2) ∧ Below w.heap.size w w' := by
  have f0 : IntKind.i64.wrap (2 * d) = 2 * d := IntWalk.i64_in _ (by omega)
  have hd0 : decide (d < 1200) = false := by rw [decide_eq_false_iff_not]; omega
  have hd1 : decide (65527 < d) = false := by rw [decide_eq_false_iff_not]; omega
  have hm0 : decide (m < 2 * d) = false := by rw [decide_eq_false_iff_not]; omega
  have hm1 : decide (1099511627776 < m) = true := by rw [decide_eq_true_eq]; omega
  go_enter Try.func24, Try.ntmps24
  go_wp2_with (first | (go_at_call 37; refine (rtime_is _ _ _ HTS).mono ?_; rintro e w' ⟨rfl, rfl⟩))
  go_ret
  exact ⟨rfl, by go_grown⟩

set_option maxHeartbeats 1000000 in
theorem rck_c0 (d m c t s g : Int) (w : World) (x1 : 1200 ≤ d) (x2 : d ≤ 65527) (x3 : 2 * d ≤ m) (x4 : m ≤ 1099511627776) (x : c < 2 * d) :
    Calls Try.prog 24 #[.agg #[.int .i64 d, .int .i64 m, .int .i64 c, .int .i64 t, .int .i64 s, .int .i64 g]] w fun e w' => e = .returned (.int .i64 2) ∧ Below w.heap.size w w' := by
  have f0 : IntKind.i64.wrap (2 * d) = 2 * d := IntWalk.i64_in _ (by omega)
  have hd0 : decide (d < 1200) = false := by rw [decide_eq_false_iff_not]; omega
  have hd1 : decide (65527 < d) = false := by rw [decide_eq_false_iff_not]; omega
  have hm0 : decide (m < 2 * d) = false := by rw [decide_eq_false_iff_not]; omega
  have hm1 : decide (1099511627776 < m) = false := by rw [decide_eq_false_iff_not]; omega
  have hc0 : decide (c < 2 * d) = true := by rw [decide_eq_true_eq]; omega
  go_enter Try.func24, Try.ntmps24
  go_wp2_with (first | (go_at_call 37; refine (rtime_is _ _ _ HTS).mono ?_; rintro e w' ⟨rfl, rfl⟩))
  go_ret
  exact ⟨rfl, by go_grown⟩

set_option maxHeartbeats 1000000 in
theorem rck_c1 (d m c t s g : Int) (w : World) (x1 : 1200 ≤ d) (x2 : d ≤ 65527) (x3 : 2 * d ≤ m) (x4 : m ≤ 1099511627776) (x5 : 2 * d ≤ c) (x : m < c) :
    Calls Try.prog 24 #[.agg #[.int .i64 d, .int .i64 m, .int .i64 c, .int .i64 t, .int .i64 s, .int .i64 g]] w fun e w' => e = .returned (.int .i64 2) ∧ Below w.heap.size w w' := by
  have f0 : IntKind.i64.wrap (2 * d) = 2 * d := IntWalk.i64_in _ (by omega)
  have hd0 : decide (d < 1200) = false := by rw [decide_eq_false_iff_not]; omega
  have hd1 : decide (65527 < d) = false := by rw [decide_eq_false_iff_not]; omega
  have hm0 : decide (m < 2 * d) = false := by rw [decide_eq_false_iff_not]; omega
  have hm1 : decide (1099511627776 < m) = false := by rw [decide_eq_false_iff_not]; omega
  have hc0 : decide (c < 2 * d) = false := by rw [decide_eq_false_iff_not]; omega
  have hc1 : decide (m < c) = true := by rw [decide_eq_true_eq]; omega
  go_enter Try.func24, Try.ntmps24
  go_wp2_with (first | (go_at_call 37; refine (rtime_is _ _ _ HTS).mono ?_; rintro e w' ⟨rfl, rfl⟩))
  go_ret
  exact ⟨rfl, by go_grown⟩

set_option maxHeartbeats 1000000 in
theorem rck_tf0 (d m c t s g : Int) (w : World) (x1 : 1200 ≤ d) (x2 : d ≤ 65527) (x3 : 2 * d ≤ m) (x4 : m ≤ 1099511627776) (x5 : 2 * d ≤ c) (x6 : c ≤ m) (y1 : t ≠ -1) (y2 : t < d) :
    Calls Try.prog 24 #[.agg #[.int .i64 d, .int .i64 m, .int .i64 c, .int .i64 t, .int .i64 s, .int .i64 g]] w fun e w' => e = .returned (.int .i64 2) ∧ Below w.heap.size w w' := by
  have f0 : IntKind.i64.wrap (2 * d) = 2 * d := IntWalk.i64_in _ (by omega)
  have hd0 : decide (d < 1200) = false := by rw [decide_eq_false_iff_not]; omega
  have hd1 : decide (65527 < d) = false := by rw [decide_eq_false_iff_not]; omega
  have hm0 : decide (m < 2 * d) = false := by rw [decide_eq_false_iff_not]; omega
  have hm1 : decide (1099511627776 < m) = false := by rw [decide_eq_false_iff_not]; omega
  have hc0 : decide (c < 2 * d) = false := by rw [decide_eq_false_iff_not]; omega
  have hc1 : decide (m < c) = false := by rw [decide_eq_false_iff_not]; omega
  have e1 : (t != -1) = true := bne_iff_ne.2 y1
  have e2 : decide (t < d) = true := decide_eq_true y2
  have HTS : Hid ((decide ((0 : Int) ≤ 0) && decide ((0 : Int) ≤ 9007199254740991)) = true) := by show _ = _; decide
  go_enter Try.func24, Try.ntmps24
  go_wp2_with (first | (go_at_call 37; refine (rtime_is _ _ _ HTS).mono ?_; rintro e w' ⟨rfl, rfl⟩))
  go_ret
  exact ⟨rfl, by go_grown⟩

set_option maxHeartbeats 1000000 in
theorem rck_tf1 (d m c t s g : Int) (w : World) (x1 : 1200 ≤ d) (x2 : d ≤ 65527) (x3 : 2 * d ≤ m) (x4 : m ≤ 1099511627776) (x5 : 2 * d ≤ c) (x6 : c ≤ m) (y1 : t ≠ -1) (y2 : d ≤ t) (y3 : m < t) :
    Calls Try.prog 24 #[.agg #[.int .i64 d, .int .i64 m, .int .i64 c, .int .i64 t, .int .i64 s, .int .i64 g]] w fun e w' => e = .returned (.int .i64 2) ∧ Below w.heap.size w w' := by
  have f0 : IntKind.i64.wrap (2 * d) = 2 * d := IntWalk.i64_in _ (by omega)
  have hd0 : decide (d < 1200) = false := by rw [decide_eq_false_iff_not]; omega
  have hd1 : decide (65527 < d) = false := by rw [decide_eq_false_iff_not]; omega
  have hm0 : decide (m < 2 * d) = false := by rw [decide_eq_false_iff_not]; omega
  have hm1 : decide (1099511627776 < m) = false := by rw [decide_eq_false_iff_not]; omega
  have hc0 : decide (c < 2 * d) = false := by rw [decide_eq_false_iff_not]; omega
  have hc1 : decide (m < c) = false := by rw [decide_eq_false_iff_not]; omega
  have e1 : (t != -1) = true := bne_iff_ne.2 y1
  have e2 : decide (t < d) = false := by rw [decide_eq_false_iff_not]; omega
  have e3 : decide (m < t) = true := decide_eq_true y3
  have HTS : Hid ((decide ((0 : Int) ≤ 0) && decide ((0 : Int) ≤ 9007199254740991)) = true) := by show _ = _; decide
  go_enter Try.func24, Try.ntmps24
  go_wp2_with (first | (go_at_call 37; refine (rtime_is _ _ _ HTS).mono ?_; rintro e w' ⟨rfl, rfl⟩))
  go_ret
  exact ⟨rfl, by go_grown⟩

set_option maxHeartbeats 1000000 in
theorem rck_n_sf (d m c t s g : Int) (w : World) (x1 : 1200 ≤ d) (x2 : d ≤ 65527) (x3 : 2 * d ≤ m) (x4 : m ≤ 1099511627776) (x5 : 2 * d ≤ c) (x6 : c ≤ m) (y1 : t = -1) (z1 : s ≠ -1) (HTS : Hid ((decide (0 ≤ s) && decide (s ≤ 9007199254740991)) = false)) :
    Calls Try.prog 24 #[.agg #[.int .i64 d, .int .i64 m, .int .i64 c, .int .i64 t, .int .i64 s, .int .i64 g]] w fun e w' => e = .returned (.int .i64 2) ∧ Below w.heap.size w w' := by
  have f0 : IntKind.i64.wrap (2 * d) = 2 * d := IntWalk.i64_in _ (by omega)
  have hd0 : decide (d < 1200) = false := by rw [decide_eq_false_iff_not]; omega
  have hd1 : decide (65527 < d) = false := by rw [decide_eq_false_iff_not]; omega
  have hm0 : decide (m < 2 * d) = false := by rw [decide_eq_false_iff_not]; omega
  have hm1 : decide (1099511627776 < m) = false := by rw [decide_eq_false_iff_not]; omega
  have hc0 : decide (c < 2 * d) = false := by rw [decide_eq_false_iff_not]; omega
  have hc1 : decide (m < c) = false := by rw [decide_eq_false_iff_not]; omega
  subst y1
  have e4 : (s != -1) = true := bne_iff_ne.2 z1
  go_enter Try.func24, Try.ntmps24
  go_wp2_with (first | (go_at_call 37; refine (rtime_is _ _ _ HTS).mono ?_; rintro e w' ⟨rfl, rfl⟩))
  go_ret
  exact ⟨rfl, by go_grown⟩

set_option maxHeartbeats 1000000 in
theorem rck_nn_f0 (d m c t s g : Int) (w : World) (x1 : 1200 ≤ d) (x2 : d ≤ 65527) (x3 : 2 * d ≤ m) (x4 : m ≤ 1099511627776) (x5 : 2 * d ≤ c) (x6 : c ≤ m) (y1 : t = -1) (z1 : s = -1) (u1 : g < 0) :
    Calls Try.prog 24 #[.agg #[.int .i64 d, .int .i64 m, .int .i64 c, .int .i64 t, .int .i64 s, .int .i64 g]] w fun e w' => e = .returned (.int .i64 2) ∧ Below w.heap.size w w' := by
  have f0 : IntKind.i64.wrap (2 * d) = 2 * d := IntWalk.i64_in _ (by omega)
  have hd0 : decide (d < 1200) = false := by rw [decide_eq_false_iff_not]; omega
  have hd1 : decide (65527 < d) = false := by rw [decide_eq_false_iff_not]; omega
  have hm0 : decide (m < 2 * d) = false := by rw [decide_eq_false_iff_not]; omega
  have hm1 : decide (1099511627776 < m) = false := by rw [decide_eq_false_iff_not]; omega
  have hc0 : decide (c < 2 * d) = false := by rw [decide_eq_false_iff_not]; omega
  have hc1 : decide (m < c) = false := by rw [decide_eq_false_iff_not]; omega
  subst y1
  subst z1
  have e5 : decide (g < 0) = true := decide_eq_true u1
  have HTS : Hid ((decide ((0 : Int) ≤ 0) && decide ((0 : Int) ≤ 9007199254740991)) = true) := by show _ = _; decide
  go_enter Try.func24, Try.ntmps24
  go_wp2_with (first | (go_at_call 37; refine (rtime_is _ _ _ HTS).mono ?_; rintro e w' ⟨rfl, rfl⟩))
  go_ret
  exact ⟨rfl, by go_grown⟩

set_option maxHeartbeats 1000000 in
theorem rck_nn_f1 (d m c t s g : Int) (w : World) (x1 : 1200 ≤ d) (x2 : d ≤ 65527) (x3 : 2 * d ≤ m) (x4 : m ≤ 1099511627776) (x5 : 2 * d ≤ c) (x6 : c ≤ m) (y1 : t = -1) (z1 : s = -1) (u1 : 0 ≤ g) (u2 : c ≤ g) :
    Calls Try.prog 24 #[.agg #[.int .i64 d, .int .i64 m, .int .i64 c, .int .i64 t, .int .i64 s, .int .i64 g]] w fun e w' => e = .returned (.int .i64 2) ∧ Below w.heap.size w w' := by
  have f0 : IntKind.i64.wrap (2 * d) = 2 * d := IntWalk.i64_in _ (by omega)
  have hd0 : decide (d < 1200) = false := by rw [decide_eq_false_iff_not]; omega
  have hd1 : decide (65527 < d) = false := by rw [decide_eq_false_iff_not]; omega
  have hm0 : decide (m < 2 * d) = false := by rw [decide_eq_false_iff_not]; omega
  have hm1 : decide (1099511627776 < m) = false := by rw [decide_eq_false_iff_not]; omega
  have hc0 : decide (c < 2 * d) = false := by rw [decide_eq_false_iff_not]; omega
  have hc1 : decide (m < c) = false := by rw [decide_eq_false_iff_not]; omega
  subst y1
  subst z1
  have e5 : decide (g < 0) = false := by rw [decide_eq_false_iff_not]; omega
  have e6 : decide (c ≤ g) = true := decide_eq_true u2
  have HTS : Hid ((decide ((0 : Int) ≤ 0) && decide ((0 : Int) ≤ 9007199254740991)) = true) := by show _ = _; decide
  go_enter Try.func24, Try.ntmps24
  go_wp2_with (first | (go_at_call 37; refine (rtime_is _ _ _ HTS).mono ?_; rintro e w' ⟨rfl, rfl⟩))
  go_ret
  exact ⟨rfl, by go_grown⟩

set_option maxHeartbeats 1000000 in
theorem rck_nn_k (d m c t s g : Int) (w : World) (x1 : 1200 ≤ d) (x2 : d ≤ 65527) (x3 : 2 * d ≤ m) (x4 : m ≤ 1099511627776) (x5 : 2 * d ≤ c) (x6 : c ≤ m) (y1 : t = -1) (z1 : s = -1) (u1 : 0 ≤ g) (u2 : g < c) :
    Calls Try.prog 24 #[.agg #[.int .i64 d, .int .i64 m, .int .i64 c, .int .i64 t, .int .i64 s, .int .i64 g]] w fun e w' => e = .returned (.int .i64 0) ∧ Below w.heap.size w w' := by
  have f0 : IntKind.i64.wrap (2 * d) = 2 * d := IntWalk.i64_in _ (by omega)
  have hd0 : decide (d < 1200) = false := by rw [decide_eq_false_iff_not]; omega
  have hd1 : decide (65527 < d) = false := by rw [decide_eq_false_iff_not]; omega
  have hm0 : decide (m < 2 * d) = false := by rw [decide_eq_false_iff_not]; omega
  have hm1 : decide (1099511627776 < m) = false := by rw [decide_eq_false_iff_not]; omega
  have hc0 : decide (c < 2 * d) = false := by rw [decide_eq_false_iff_not]; omega
  have hc1 : decide (m < c) = false := by rw [decide_eq_false_iff_not]; omega
  subst y1
  subst z1
  have e5 : decide (g < 0) = false := by rw [decide_eq_false_iff_not]; omega
  have e6 : decide (c ≤ g) = false := by rw [decide_eq_false_iff_not]; omega
  have HTS : Hid ((decide ((0 : Int) ≤ 0) && decide ((0 : Int) ≤ 9007199254740991)) = true) := by show _ = _; decide
  go_enter Try.func24, Try.ntmps24
  go_wp2_with (first | (go_at_call 37; refine (rtime_is _ _ _ HTS).mono ?_; rintro e w' ⟨rfl, rfl⟩))
  go_ret
  exact ⟨rfl, by go_grown⟩

set_option maxHeartbeats 1000000 in
theorem rck_ny_f0 (d m c t s g : Int) (w : World) (x1 : 1200 ≤ d) (x2 : d ≤ 65527) (x3 : 2 * d ≤ m) (x4 : m ≤ 1099511627776) (x5 : 2 * d ≤ c) (x6 : c ≤ m) (y1 : t = -1) (z1 : s ≠ -1) (HTS : Hid ((decide (0 ≤ s) && decide (s ≤ 9007199254740991)) = true)) (u1 : g < 0) :
    Calls Try.prog 24 #[.agg #[.int .i64 d, .int .i64 m, .int .i64 c, .int .i64 t, .int .i64 s, .int .i64 g]] w fun e w' => e = .returned (.int .i64 2) ∧ Below w.heap.size w w' := by
  have f0 : IntKind.i64.wrap (2 * d) = 2 * d := IntWalk.i64_in _ (by omega)
  have hd0 : decide (d < 1200) = false := by rw [decide_eq_false_iff_not]; omega
  have hd1 : decide (65527 < d) = false := by rw [decide_eq_false_iff_not]; omega
  have hm0 : decide (m < 2 * d) = false := by rw [decide_eq_false_iff_not]; omega
  have hm1 : decide (1099511627776 < m) = false := by rw [decide_eq_false_iff_not]; omega
  have hc0 : decide (c < 2 * d) = false := by rw [decide_eq_false_iff_not]; omega
  have hc1 : decide (m < c) = false := by rw [decide_eq_false_iff_not]; omega
  subst y1
  have e4 : (s != -1) = true := bne_iff_ne.2 z1
  have e5 : decide (g < 0) = true := decide_eq_true u1
  go_enter Try.func24, Try.ntmps24
  go_wp2_with (first | (go_at_call 37; refine (rtime_is _ _ _ HTS).mono ?_; rintro e w' ⟨rfl, rfl⟩))
  go_ret
  exact ⟨rfl, by go_grown⟩

set_option maxHeartbeats 1000000 in
theorem rck_ny_f1 (d m c t s g : Int) (w : World) (x1 : 1200 ≤ d) (x2 : d ≤ 65527) (x3 : 2 * d ≤ m) (x4 : m ≤ 1099511627776) (x5 : 2 * d ≤ c) (x6 : c ≤ m) (y1 : t = -1) (z1 : s ≠ -1) (HTS : Hid ((decide (0 ≤ s) && decide (s ≤ 9007199254740991)) = true)) (u1 : 0 ≤ g) (u2 : c ≤ g) :
    Calls Try.prog 24 #[.agg #[.int .i64 d, .int .i64 m, .int .i64 c, .int .i64 t, .int .i64 s, .int .i64 g]] w fun e w' => e = .returned (.int .i64 2) ∧ Below w.heap.size w w' := by
  have f0 : IntKind.i64.wrap (2 * d) = 2 * d := IntWalk.i64_in _ (by omega)
  have hd0 : decide (d < 1200) = false := by rw [decide_eq_false_iff_not]; omega
  have hd1 : decide (65527 < d) = false := by rw [decide_eq_false_iff_not]; omega
  have hm0 : decide (m < 2 * d) = false := by rw [decide_eq_false_iff_not]; omega
  have hm1 : decide (1099511627776 < m) = false := by rw [decide_eq_false_iff_not]; omega
  have hc0 : decide (c < 2 * d) = false := by rw [decide_eq_false_iff_not]; omega
  have hc1 : decide (m < c) = false := by rw [decide_eq_false_iff_not]; omega
  subst y1
  have e4 : (s != -1) = true := bne_iff_ne.2 z1
  have e5 : decide (g < 0) = false := by rw [decide_eq_false_iff_not]; omega
  have e6 : decide (c ≤ g) = true := decide_eq_true u2
  go_enter Try.func24, Try.ntmps24
  go_wp2_with (first | (go_at_call 37; refine (rtime_is _ _ _ HTS).mono ?_; rintro e w' ⟨rfl, rfl⟩))
  go_ret
  exact ⟨rfl, by go_grown⟩

set_option maxHeartbeats 1000000 in
theorem rck_ny_k (d m c t s g : Int) (w : World) (x1 : 1200 ≤ d) (x2 : d ≤ 65527) (x3 : 2 * d ≤ m) (x4 : m ≤ 1099511627776) (x5 : 2 * d ≤ c) (x6 : c ≤ m) (y1 : t = -1) (z1 : s ≠ -1) (HTS : Hid ((decide (0 ≤ s) && decide (s ≤ 9007199254740991)) = true)) (u1 : 0 ≤ g) (u2 : g < c) :
    Calls Try.prog 24 #[.agg #[.int .i64 d, .int .i64 m, .int .i64 c, .int .i64 t, .int .i64 s, .int .i64 g]] w fun e w' => e = .returned (.int .i64 0) ∧ Below w.heap.size w w' := by
  have f0 : IntKind.i64.wrap (2 * d) = 2 * d := IntWalk.i64_in _ (by omega)
  have hd0 : decide (d < 1200) = false := by rw [decide_eq_false_iff_not]; omega
  have hd1 : decide (65527 < d) = false := by rw [decide_eq_false_iff_not]; omega
  have hm0 : decide (m < 2 * d) = false := by rw [decide_eq_false_iff_not]; omega
  have hm1 : decide (1099511627776 < m) = false := by rw [decide_eq_false_iff_not]; omega
  have hc0 : decide (c < 2 * d) = false := by rw [decide_eq_false_iff_not]; omega
  have hc1 : decide (m < c) = false := by rw [decide_eq_false_iff_not]; omega
  subst y1
  have e4 : (s != -1) = true := bne_iff_ne.2 z1
  have e5 : decide (g < 0) = false := by rw [decide_eq_false_iff_not]; omega
  have e6 : decide (c ≤ g) = false := by rw [decide_eq_false_iff_not]; omega
  go_enter Try.func24, Try.ntmps24
  go_wp2_with (first | (go_at_call 37; refine (rtime_is _ _ _ HTS).mono ?_; rintro e w' ⟨rfl, rfl⟩))
  go_ret
  exact ⟨rfl, by go_grown⟩

set_option maxHeartbeats 1000000 in
theorem rck_t_sf (d m c t s g : Int) (w : World) (x1 : 1200 ≤ d) (x2 : d ≤ 65527) (x3 : 2 * d ≤ m) (x4 : m ≤ 1099511627776) (x5 : 2 * d ≤ c) (x6 : c ≤ m) (y1 : t ≠ -1) (y2 : d ≤ t) (y3 : t ≤ m) (z1 : s ≠ -1) (HTS : Hid ((decide (0 ≤ s) && decide (s ≤ 9007199254740991)) = false)) :
    Calls Try.prog 24 #[.agg #[.int .i64 d, .int .i64 m, .int .i64 c, .int .i64 t, .int .i64 s, .int .i64 g]] w fun e w' => e = .returned (.int .i64 2) ∧ Below w.heap.size w w' := by
  have f0 : IntKind.i64.wrap (2 * d) = 2 * d := IntWalk.i64_in _ (by omega)
  have hd0 : decide (d < 1200) = false := by rw [decide_eq_false_iff_not]; omega
  have hd1 : decide (65527 < d) = false := by rw [decide_eq_false_iff_not]; omega
  have hm0 : decide (m < 2 * d) = false := by rw [decide_eq_false_iff_not]; omega
  have hm1 : decide (1099511627776 < m) = false := by rw [decide_eq_false_iff_not]; omega
  have hc0 : decide (c < 2 * d) = false := by rw [decide_eq_false_iff_not]; omega
  have hc1 : decide (m < c) = false := by rw [decide_eq_false_iff_not]; omega
  have e1 : (t != -1) = true := bne_iff_ne.2 y1
  have e2 : decide (t < d) = false := by rw [decide_eq_false_iff_not]; omega
  have e3 : decide (m < t) = false := by rw [decide_eq_false_iff_not]; omega
  have e4 : (s != -1) = true := bne_iff_ne.2 z1
  go_enter Try.func24, Try.ntmps24
  go_wp2_with (first | (go_at_call 37; refine (rtime_is _ _ _ HTS).mono ?_; rintro e w' ⟨rfl, rfl⟩))
  go_ret
  exact ⟨rfl, by go_grown⟩

set_option maxHeartbeats 1000000 in
theorem rck_tn_f0 (d m c t s g : Int) (w : World) (x1 : 1200 ≤ d) (x2 : d ≤ 65527) (x3 : 2 * d ≤ m) (x4 : m ≤ 1099511627776) (x5 : 2 * d ≤ c) (x6 : c ≤ m) (y1 : t ≠ -1) (y2 : d ≤ t) (y3 : t ≤ m) (z1 : s = -1) (u1 : g < 0) :
    Calls Try.prog 24 #[.agg #[.int .i64 d, .int .i64 m, .int .i64 c, .int .i64 t, .int .i64 s, .int .i64 g]] w fun e w' => e = .returned (.int .i64 2) ∧ Below w.heap.size w w' := by
  have f0 : IntKind.i64.wrap (2 * d) = 2 * d := IntWalk.i64_in _ (by omega)
  have hd0 : decide (d < 1200) = false := by rw [decide_eq_false_iff_not]; omega
  have hd1 : decide (65527 < d) = false := by rw [decide_eq_false_iff_not]; omega
  have hm0 : decide (m < 2 * d) = false := by rw [decide_eq_false_iff_not]; omega
  have hm1 : decide (1099511627776 < m) = false := by rw [decide_eq_false_iff_not]; omega
  have hc0 : decide (c < 2 * d) = false := by rw [decide_eq_false_iff_not]; omega
  have hc1 : decide (m < c) = false := by rw [decide_eq_false_iff_not]; omega
  have e1 : (t != -1) = true := bne_iff_ne.2 y1
  have e2 : decide (t < d) = false := by rw [decide_eq_false_iff_not]; omega
  have e3 : decide (m < t) = false := by rw [decide_eq_false_iff_not]; omega
  subst z1
  have e5 : decide (g < 0) = true := decide_eq_true u1
  have HTS : Hid ((decide ((0 : Int) ≤ 0) && decide ((0 : Int) ≤ 9007199254740991)) = true) := by show _ = _; decide
  go_enter Try.func24, Try.ntmps24
  go_wp2_with (first | (go_at_call 37; refine (rtime_is _ _ _ HTS).mono ?_; rintro e w' ⟨rfl, rfl⟩))
  go_ret
  exact ⟨rfl, by go_grown⟩

set_option maxHeartbeats 1000000 in
theorem rck_tn_f1 (d m c t s g : Int) (w : World) (x1 : 1200 ≤ d) (x2 : d ≤ 65527) (x3 : 2 * d ≤ m) (x4 : m ≤ 1099511627776) (x5 : 2 * d ≤ c) (x6 : c ≤ m) (y1 : t ≠ -1) (y2 : d ≤ t) (y3 : t ≤ m) (z1 : s = -1) (u1 : 0 ≤ g) (u2 : c ≤ g) :
    Calls Try.prog 24 #[.agg #[.int .i64 d, .int .i64 m, .int .i64 c, .int .i64 t, .int .i64 s, .int .i64 g]] w fun e w' => e = .returned (.int .i64 2) ∧ Below w.heap.size w w' := by
  have f0 : IntKind.i64.wrap (2 * d) = 2 * d := IntWalk.i64_in _ (by omega)
  have hd0 : decide (d < 1200) = false := by rw [decide_eq_false_iff_not]; omega
  have hd1 : decide (65527 < d) = false := by rw [decide_eq_false_iff_not]; omega
  have hm0 : decide (m < 2 * d) = false := by rw [decide_eq_false_iff_not]; omega
  have hm1 : decide (1099511627776 < m) = false := by rw [decide_eq_false_iff_not]; omega
  have hc0 : decide (c < 2 * d) = false := by rw [decide_eq_false_iff_not]; omega
  have hc1 : decide (m < c) = false := by rw [decide_eq_false_iff_not]; omega
  have e1 : (t != -1) = true := bne_iff_ne.2 y1
  have e2 : decide (t < d) = false := by rw [decide_eq_false_iff_not]; omega
  have e3 : decide (m < t) = false := by rw [decide_eq_false_iff_not]; omega
  subst z1
  have e5 : decide (g < 0) = false := by rw [decide_eq_false_iff_not]; omega
  have e6 : decide (c ≤ g) = true := decide_eq_true u2
  have HTS : Hid ((decide ((0 : Int) ≤ 0) && decide ((0 : Int) ≤ 9007199254740991)) = true) := by show _ = _; decide
  go_enter Try.func24, Try.ntmps24
  go_wp2_with (first | (go_at_call 37; refine (rtime_is _ _ _ HTS).mono ?_; rintro e w' ⟨rfl, rfl⟩))
  go_ret
  exact ⟨rfl, by go_grown⟩

set_option maxHeartbeats 1000000 in
theorem rck_tn_k (d m c t s g : Int) (w : World) (x1 : 1200 ≤ d) (x2 : d ≤ 65527) (x3 : 2 * d ≤ m) (x4 : m ≤ 1099511627776) (x5 : 2 * d ≤ c) (x6 : c ≤ m) (y1 : t ≠ -1) (y2 : d ≤ t) (y3 : t ≤ m) (z1 : s = -1) (u1 : 0 ≤ g) (u2 : g < c) :
    Calls Try.prog 24 #[.agg #[.int .i64 d, .int .i64 m, .int .i64 c, .int .i64 t, .int .i64 s, .int .i64 g]] w fun e w' => e = .returned (.int .i64 0) ∧ Below w.heap.size w w' := by
  have f0 : IntKind.i64.wrap (2 * d) = 2 * d := IntWalk.i64_in _ (by omega)
  have hd0 : decide (d < 1200) = false := by rw [decide_eq_false_iff_not]; omega
  have hd1 : decide (65527 < d) = false := by rw [decide_eq_false_iff_not]; omega
  have hm0 : decide (m < 2 * d) = false := by rw [decide_eq_false_iff_not]; omega
  have hm1 : decide (1099511627776 < m) = false := by rw [decide_eq_false_iff_not]; omega
  have hc0 : decide (c < 2 * d) = false := by rw [decide_eq_false_iff_not]; omega
  have hc1 : decide (m < c) = false := by rw [decide_eq_false_iff_not]; omega
  have e1 : (t != -1) = true := bne_iff_ne.2 y1
  have e2 : decide (t < d) = false := by rw [decide_eq_false_iff_not]; omega
  have e3 : decide (m < t) = false := by rw [decide_eq_false_iff_not]; omega
  subst z1
  have e5 : decide (g < 0) = false := by rw [decide_eq_false_iff_not]; omega
  have e6 : decide (c ≤ g) = false := by rw [decide_eq_false_iff_not]; omega
  have HTS : Hid ((decide ((0 : Int) ≤ 0) && decide ((0 : Int) ≤ 9007199254740991)) = true) := by show _ = _; decide
  go_enter Try.func24, Try.ntmps24
  go_wp2_with (first | (go_at_call 37; refine (rtime_is _ _ _ HTS).mono ?_; rintro e w' ⟨rfl, rfl⟩))
  go_ret
  exact ⟨rfl, by go_grown⟩

set_option maxHeartbeats 1000000 in
theorem rck_ty_f0 (d m c t s g : Int) (w : World) (x1 : 1200 ≤ d) (x2 : d ≤ 65527) (x3 : 2 * d ≤ m) (x4 : m ≤ 1099511627776) (x5 : 2 * d ≤ c) (x6 : c ≤ m) (y1 : t ≠ -1) (y2 : d ≤ t) (y3 : t ≤ m) (z1 : s ≠ -1) (HTS : Hid ((decide (0 ≤ s) && decide (s ≤ 9007199254740991)) = true)) (u1 : g < 0) :
    Calls Try.prog 24 #[.agg #[.int .i64 d, .int .i64 m, .int .i64 c, .int .i64 t, .int .i64 s, .int .i64 g]] w fun e w' => e = .returned (.int .i64 2) ∧ Below w.heap.size w w' := by
  have f0 : IntKind.i64.wrap (2 * d) = 2 * d := IntWalk.i64_in _ (by omega)
  have hd0 : decide (d < 1200) = false := by rw [decide_eq_false_iff_not]; omega
  have hd1 : decide (65527 < d) = false := by rw [decide_eq_false_iff_not]; omega
  have hm0 : decide (m < 2 * d) = false := by rw [decide_eq_false_iff_not]; omega
  have hm1 : decide (1099511627776 < m) = false := by rw [decide_eq_false_iff_not]; omega
  have hc0 : decide (c < 2 * d) = false := by rw [decide_eq_false_iff_not]; omega
  have hc1 : decide (m < c) = false := by rw [decide_eq_false_iff_not]; omega
  have e1 : (t != -1) = true := bne_iff_ne.2 y1
  have e2 : decide (t < d) = false := by rw [decide_eq_false_iff_not]; omega
  have e3 : decide (m < t) = false := by rw [decide_eq_false_iff_not]; omega
  have e4 : (s != -1) = true := bne_iff_ne.2 z1
  have e5 : decide (g < 0) = true := decide_eq_true u1
  go_enter Try.func24, Try.ntmps24
  go_wp2_with (first | (go_at_call 37; refine (rtime_is _ _ _ HTS).mono ?_; rintro e w' ⟨rfl, rfl⟩))
  go_ret
  exact ⟨rfl, by go_grown⟩

set_option maxHeartbeats 1000000 in
theorem rck_ty_f1 (d m c t s g : Int) (w : World) (x1 : 1200 ≤ d) (x2 : d ≤ 65527) (x3 : 2 * d ≤ m) (x4 : m ≤ 1099511627776) (x5 : 2 * d ≤ c) (x6 : c ≤ m) (y1 : t ≠ -1) (y2 : d ≤ t) (y3 : t ≤ m) (z1 : s ≠ -1) (HTS : Hid ((decide (0 ≤ s) && decide (s ≤ 9007199254740991)) = true)) (u1 : 0 ≤ g) (u2 : c ≤ g) :
    Calls Try.prog 24 #[.agg #[.int .i64 d, .int .i64 m, .int .i64 c, .int .i64 t, .int .i64 s, .int .i64 g]] w fun e w' => e = .returned (.int .i64 2) ∧ Below w.heap.size w w' := by
  have f0 : IntKind.i64.wrap (2 * d) = 2 * d := IntWalk.i64_in _ (by omega)
  have hd0 : decide (d < 1200) = false := by rw [decide_eq_false_iff_not]; omega
  have hd1 : decide (65527 < d) = false := by rw [decide_eq_false_iff_not]; omega
  have hm0 : decide (m < 2 * d) = false := by rw [decide_eq_false_iff_not]; omega
  have hm1 : decide (1099511627776 < m) = false := by rw [decide_eq_false_iff_not]; omega
  have hc0 : decide (c < 2 * d) = false := by rw [decide_eq_false_iff_not]; omega
  have hc1 : decide (m < c) = false := by rw [decide_eq_false_iff_not]; omega
  have e1 : (t != -1) = true := bne_iff_ne.2 y1
  have e2 : decide (t < d) = false := by rw [decide_eq_false_iff_not]; omega
  have e3 : decide (m < t) = false := by rw [decide_eq_false_iff_not]; omega
  have e4 : (s != -1) = true := bne_iff_ne.2 z1
  have e5 : decide (g < 0) = false := by rw [decide_eq_false_iff_not]; omega
  have e6 : decide (c ≤ g) = true := decide_eq_true u2
  go_enter Try.func24, Try.ntmps24
  go_wp2_with (first | (go_at_call 37; refine (rtime_is _ _ _ HTS).mono ?_; rintro e w' ⟨rfl, rfl⟩))
  go_ret
  exact ⟨rfl, by go_grown⟩

set_option maxHeartbeats 1000000 in
theorem rck_ty_k (d m c t s g : Int) (w : World) (x1 : 1200 ≤ d) (x2 : d ≤ 65527) (x3 : 2 * d ≤ m) (x4 : m ≤ 1099511627776) (x5 : 2 * d ≤ c) (x6 : c ≤ m) (y1 : t ≠ -1) (y2 : d ≤ t) (y3 : t ≤ m) (z1 : s ≠ -1) (HTS : Hid ((decide (0 ≤ s) && decide (s ≤ 9007199254740991)) = true)) (u1 : 0 ≤ g) (u2 : g < c) :
    Calls Try.prog 24 #[.agg #[.int .i64 d, .int .i64 m, .int .i64 c, .int .i64 t, .int .i64 s, .int .i64 g]] w fun e w' => e = .returned (.int .i64 0) ∧ Below w.heap.size w w' := by
  have f0 : IntKind.i64.wrap (2 * d) = 2 * d := IntWalk.i64_in _ (by omega)
  have hd0 : decide (d < 1200) = false := by rw [decide_eq_false_iff_not]; omega
  have hd1 : decide (65527 < d) = false := by rw [decide_eq_false_iff_not]; omega
  have hm0 : decide (m < 2 * d) = false := by rw [decide_eq_false_iff_not]; omega
  have hm1 : decide (1099511627776 < m) = false := by rw [decide_eq_false_iff_not]; omega
  have hc0 : decide (c < 2 * d) = false := by rw [decide_eq_false_iff_not]; omega
  have hc1 : decide (m < c) = false := by rw [decide_eq_false_iff_not]; omega
  have e1 : (t != -1) = true := bne_iff_ne.2 y1
  have e2 : decide (t < d) = false := by rw [decide_eq_false_iff_not]; omega
  have e3 : decide (m < t) = false := by rw [decide_eq_false_iff_not]; omega
  have e4 : (s != -1) = true := bne_iff_ne.2 z1
  have e5 : decide (g < 0) = false := by rw [decide_eq_false_iff_not]; omega
  have e6 : decide (c ≤ g) = false := by rw [decide_eq_false_iff_not]; omega
  go_enter Try.func24, Try.ntmps24
  go_wp2_with (first | (go_at_call 37; refine (rtime_is _ _ _ HTS).mono ?_; rintro e w' ⟨rfl, rfl⟩))
  go_ret
  exact ⟨rfl, by go_grown⟩

theorem rcheck_any (x : Win) (w : World) :
    Calls Try.prog 24 #[.agg #[.int .i64 x.d, .int .i64 x.m, .int .i64 x.c, .int .i64 x.t, .int .i64 x.s, .int .i64 x.g]] w fun e w' => e = .returned (.int .i64 (if Ok x then 0 else 2)) ∧ Below w.heap.size w w' := by
  by_cases x1 : 1200 ≤ x.d
  rotate_left; · rw [if_neg (fun k : Ok x => x1 k.d0)]; exact rck_d0 _ _ _ _ _ _ w (by omega)
  by_cases x2 : x.d ≤ 65527
  rotate_left; · rw [if_neg (fun k : Ok x => x2 k.d1)]; exact rck_d1 _ _ _ _ _ _ w x1 (by omega)
  by_cases x3 : 2 * x.d ≤ x.m
  rotate_left; · rw [if_neg (fun k : Ok x => x3 (Int.le_trans k.c0 k.c1))]; exact rck_m0 _ _ _ _ _ _ w x1 x2 (by omega)
  by_cases x4 : x.m ≤ 1099511627776
  rotate_left; · rw [if_neg (fun k : Ok x => x4 k.m1)]; exact rck_m1 _ _ _ _ _ _ w x1 x2 x3 (by omega)
  by_cases x5 : 2 * x.d ≤ x.c
  rotate_left; · rw [if_neg (fun k : Ok x => x5 k.c0)]; exact rck_c0 _ _ _ _ _ _ w x1 x2 x3 x4 (by omega)
  by_cases x6 : x.c ≤ x.m
  rotate_left; · rw [if_neg (fun k : Ok x => x6 k.c1)]; exact rck_c1 _ _ _ _ _ _ w x1 x2 x3 x4 x5 (by omega)
  have ht : x.t = -1 ∨ (x.t ≠ -1 ∧ x.t < x.d) ∨ (x.t ≠ -1 ∧ x.d ≤ x.t ∧ x.m < x.t) ∨ (x.t ≠ -1 ∧ x.d ≤ x.t ∧ x.t ≤ x.m) := by omega
  have hs : x.s = -1 ∨ (x.s ≠ -1 ∧ ¬ (0 ≤ x.s ∧ x.s ≤ 9007199254740991)) ∨ (x.s ≠ -1 ∧ 0 ≤ x.s ∧ x.s ≤ 9007199254740991) := by omega
  have hg : x.g < 0 ∨ (0 ≤ x.g ∧ x.c ≤ x.g) ∨ (0 ≤ x.g ∧ x.g < x.c) := by omega
  have tf : ¬ (0 ≤ x.s ∧ x.s ≤ 9007199254740991) → Hid ((decide (0 ≤ x.s) && decide (x.s ≤ 9007199254740991)) = false) := fun h => by
    show _ = _
    cases hh : (decide (0 ≤ x.s) && decide (x.s ≤ 9007199254740991))
    · rfl
    · simp at hh; exact (h hh).elim
  have tt : (0 ≤ x.s ∧ x.s ≤ 9007199254740991) → Hid ((decide (0 ≤ x.s) && decide (x.s ≤ 9007199254740991)) = true) := fun h => by
    show _ = _
    simp [h.1, h.2]
  rcases ht with y1 | ⟨y1, y2⟩ | ⟨y1, y2, y3⟩ | ⟨y1, y2, y3⟩
  · rcases hs with z1 | ⟨z1, z2⟩ | ⟨z1, z2⟩
    · rcases hg with u1 | ⟨u1, u2⟩ | ⟨u1, u2⟩
      · rw [if_neg (fun k : Ok x => by have := k.g0; omega)]; exact rck_nn_f0 _ _ _ _ _ _ w x1 x2 x3 x4 x5 x6 y1 z1 u1
      · rw [if_neg (fun k : Ok x => by have := k.g1; omega)]; exact rck_nn_f1 _ _ _ _ _ _ w x1 x2 x3 x4 x5 x6 y1 z1 u1 u2
      · rw [if_pos (show Ok x from ⟨x1, x2, x4, x5, x6, Or.inl y1, Or.inl z1, u1, u2⟩)]; exact rck_nn_k _ _ _ _ _ _ w x1 x2 x3 x4 x5 x6 y1 z1 u1 u2
    · rw [if_neg (fun k : Ok x => by have := k.s0; omega)]; exact rck_n_sf _ _ _ _ _ _ w x1 x2 x3 x4 x5 x6 y1 z1 (tf z2)
    · rcases hg with u1 | ⟨u1, u2⟩ | ⟨u1, u2⟩
      · rw [if_neg (fun k : Ok x => by have := k.g0; omega)]; exact rck_ny_f0 _ _ _ _ _ _ w x1 x2 x3 x4 x5 x6 y1 z1 (tt z2) u1
      · rw [if_neg (fun k : Ok x => by have := k.g1; omega)]; exact rck_ny_f1 _ _ _ _ _ _ w x1 x2 x3 x4 x5 x6 y1 z1 (tt z2) u1 u2
      · rw [if_pos (show Ok x from ⟨x1, x2, x4, x5, x6, Or.inl y1, Or.inr z2, u1, u2⟩)]; exact rck_ny_k _ _ _ _ _ _ w x1 x2 x3 x4 x5 x6 y1 z1 (tt z2) u1 u2
  · rw [if_neg (fun k : Ok x => by have := k.t0; omega)]; exact rck_tf0 _ _ _ _ _ _ w x1 x2 x3 x4 x5 x6 y1 y2
  · rw [if_neg (fun k : Ok x => by have := k.t0; omega)]; exact rck_tf1 _ _ _ _ _ _ w x1 x2 x3 x4 x5 x6 y1 y2 y3
  · rcases hs with z1 | ⟨z1, z2⟩ | ⟨z1, z2⟩
    · rcases hg with u1 | ⟨u1, u2⟩ | ⟨u1, u2⟩
      · rw [if_neg (fun k : Ok x => by have := k.g0; omega)]; exact rck_tn_f0 _ _ _ _ _ _ w x1 x2 x3 x4 x5 x6 y1 y2 y3 z1 u1
      · rw [if_neg (fun k : Ok x => by have := k.g1; omega)]; exact rck_tn_f1 _ _ _ _ _ _ w x1 x2 x3 x4 x5 x6 y1 y2 y3 z1 u1 u2
      · rw [if_pos (show Ok x from ⟨x1, x2, x4, x5, x6, Or.inr ⟨y2, y3⟩, Or.inl z1, u1, u2⟩)]; exact rck_tn_k _ _ _ _ _ _ w x1 x2 x3 x4 x5 x6 y1 y2 y3 z1 u1 u2
    · rw [if_neg (fun k : Ok x => by have := k.s0; omega)]; exact rck_t_sf _ _ _ _ _ _ w x1 x2 x3 x4 x5 x6 y1 y2 y3 z1 (tf z2)
    · rcases hg with u1 | ⟨u1, u2⟩ | ⟨u1, u2⟩
      · rw [if_neg (fun k : Ok x => by have := k.g0; omega)]; exact rck_ty_f0 _ _ _ _ _ _ w x1 x2 x3 x4 x5 x6 y1 y2 y3 z1 (tt z2) u1
      · rw [if_neg (fun k : Ok x => by have := k.g1; omega)]; exact rck_ty_f1 _ _ _ _ _ _ w x1 x2 x3 x4 x5 x6 y1 y2 y3 z1 (tt z2) u1 u2
      · rw [if_pos (show Ok x from ⟨x1, x2, x4, x5, x6, Or.inr ⟨y2, y3⟩, Or.inr z2, u1, u2⟩)]; exact rck_ty_k _ _ _ _ _ _ w x1 x2 x3 x4 x5 x6 y1 y2 y3 z1 (tt z2) u1 u2
end Go.Proofs.Ytcjhankepchioaa
