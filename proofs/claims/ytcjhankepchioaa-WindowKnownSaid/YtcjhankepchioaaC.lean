/-
  The contract of may: whether a window may be.
-/
import Derived.Test.YtcjhankepchioaaB
namespace Go.Proofs.Ytcjhankepchioaa
open Go.RowKit (wrap32 wrap64)
open Go.RowKit
set_option linter.unusedVariables false
set_option linter.unusedSimpArgs false

set_option maxHeartbeats 1000000 in
theorem may_d0 (p : Nat) (d m c t s r : Int) (w : World) (h : Bx w p d m c t s r) (x : d < 1200) :
    Calls Try.prog 42 #[.pointer (some ⟨p, 0, none⟩)] w fun e w' => e = .returned (.bool false) ∧ Bx w' p d m c t s r ∧ Below p w w' := by
  have h' := h
  obtain ⟨hl, k0, k1, k2, k3, k4, k5, kf⟩ := h'
  go_enter Try.func42, Try.ntmps42
  go_wp2_with fail
  go_ret
  refine ⟨by simp [*] <;> omega, ?_, ?_⟩
  · first | exact h | exact h.drewN _ | exact (h.drewN _).drewN _
  · first | exact belowDrewN (Below.refl _ _) _ | exact belowDrewN (belowDrewN (Below.refl _ _) _) _ | exact Below.refl _ _

set_option maxHeartbeats 1000000 in
theorem may_d1 (p : Nat) (d m c t s r : Int) (w : World) (h : Bx w p d m c t s r) (a1 : 1200 ≤ d) (x : 65527 < d) :
    Calls Try.prog 42 #[.pointer (some ⟨p, 0, none⟩)] w fun e w' => e = .returned (.bool false) ∧ Bx w' p d m c t s r ∧ Below p w w' := by
  have h' := h
  obtain ⟨hl, k0, k1, k2, k3, k4, k5, kf⟩ := h'
  have x0 : decide (d < 1200) = false := by rw [decide_eq_false_iff_not]; omega
  have x1 : decide (65527 < d) = true := by rw [decide_eq_true_eq]; omega
  go_enter Try.func42, Try.ntmps42
  go_wp2_with fail
  go_ret
  refine ⟨by simp [*] <;> omega, ?_, ?_⟩
  · first | exact h | exact h.drewN _ | exact (h.drewN _).drewN _
  · first | exact belowDrewN (Below.refl _ _) _ | exact belowDrewN (belowDrewN (Below.refl _ _) _) _ | exact Below.refl _ _

set_option maxHeartbeats 1000000 in
theorem may_m (p : Nat) (d m c t s r : Int) (w : World) (h : Bx w p d m c t s r) (a1 : 1200 ≤ d) (a2 : d ≤ 65527) (x : 1099511627776 < m) :
    Calls Try.prog 42 #[.pointer (some ⟨p, 0, none⟩)] w fun e w' => e = .returned (.bool false) ∧ Bx w' p d m c t s r ∧ Below p w w' := by
  have h' := h
  obtain ⟨hl, k0, k1, k2, k3, k4, k5, kf⟩ := h'
  have x0 : decide (d < 1200) = false := by rw [decide_eq_false_iff_not]; omega
  have x1 : decide (65527 < d) = false := by rw [decide_eq_false_iff_not]; omega
  have x2 : decide (1099511627776 < m) = true := by rw [decide_eq_true_eq]; omega
  go_enter Try.func42, Try.ntmps42
  go_wp2_with fail
  go_ret
  refine ⟨by simp [*] <;> omega, ?_, ?_⟩
  · first | exact h | exact h.drewN _ | exact (h.drewN _).drewN _
  · first | exact belowDrewN (Below.refl _ _) _ | exact belowDrewN (belowDrewN (Below.refl _ _) _) _ | exact Below.refl _ _

set_option maxHeartbeats 1000000 in
theorem may_c0 (p : Nat) (d m c t s r : Int) (w : World) (h : Bx w p d m c t s r) (a1 : 1200 ≤ d) (a2 : d ≤ 65527) (a3 : m ≤ 1099511627776) (x : c < 2 * d) :
    Calls Try.prog 42 #[.pointer (some ⟨p, 0, none⟩)] w fun e w' => e = .returned (.bool false) ∧ Bx w' p d m c t s r ∧ Below p w w' := by
  have h' := h
  obtain ⟨hl, k0, k1, k2, k3, k4, k5, kf⟩ := h'
  have x0 : decide (d < 1200) = false := by rw [decide_eq_false_iff_not]; omega
  have x1 : decide (65527 < d) = false := by rw [decide_eq_false_iff_not]; omega
  have x2 : decide (1099511627776 < m) = false := by rw [decide_eq_false_iff_not]; omega
  have x3 : decide (c < 2 * d) = true := by rw [decide_eq_true_eq]; omega
  go_enter Try.func42, Try.ntmps42
  go_wp2_with fail
  go_quiet ((refine (least_any p d _ (by omega) (by omega) (by simp [*])).mono ?_; rintro e w' ⟨rfl, rfl⟩; exact ⟨rfl, _, rfl⟩))
  go_wp2_with fail
  go_ret
  refine ⟨by simp [*] <;> omega, ?_, ?_⟩
  · first | exact h | exact h.drewN _ | exact (h.drewN _).drewN _
  · first | exact belowDrewN (Below.refl _ _) _ | exact belowDrewN (belowDrewN (Below.refl _ _) _) _ | exact Below.refl _ _

set_option maxHeartbeats 1000000 in
theorem may_c1 (p : Nat) (d m c t s r : Int) (w : World) (h : Bx w p d m c t s r) (a1 : 1200 ≤ d) (a2 : d ≤ 65527) (a3 : m ≤ 1099511627776) (b1 : 2 * d ≤ c) (x : m < c) :
    Calls Try.prog 42 #[.pointer (some ⟨p, 0, none⟩)] w fun e w' => e = .returned (.bool false) ∧ Bx w' p d m c t s r ∧ Below p w w' := by
  have h' := h
  obtain ⟨hl, k0, k1, k2, k3, k4, k5, kf⟩ := h'
  have x0 : decide (d < 1200) = false := by rw [decide_eq_false_iff_not]; omega
  have x1 : decide (65527 < d) = false := by rw [decide_eq_false_iff_not]; omega
  have x2 : decide (1099511627776 < m) = false := by rw [decide_eq_false_iff_not]; omega
  have x3 : decide (c < 2 * d) = false := by rw [decide_eq_false_iff_not]; omega
  have x4 : decide (m < c) = true := by rw [decide_eq_true_eq]; omega
  go_enter Try.func42, Try.ntmps42
  go_wp2_with fail
  go_quiet ((refine (least_any p d _ (by omega) (by omega) (by simp [*])).mono ?_; rintro e w' ⟨rfl, rfl⟩; exact ⟨rfl, _, rfl⟩))
  go_wp2_with fail
  go_ret
  refine ⟨by simp [*] <;> omega, ?_, ?_⟩
  · first | exact h | exact h.drewN _ | exact (h.drewN _).drewN _
  · first | exact belowDrewN (Below.refl _ _) _ | exact belowDrewN (belowDrewN (Below.refl _ _) _) _ | exact Below.refl _ _

set_option maxHeartbeats 1000000 in
theorem may_r0 (p : Nat) (d m c t s r : Int) (w : World) (h : Bx w p d m c t s r) (a1 : 1200 ≤ d) (a2 : d ≤ 65527) (a3 : m ≤ 1099511627776) (b1 : 2 * d ≤ c) (b2 : c ≤ m) (x : r < 0) :
    Calls Try.prog 42 #[.pointer (some ⟨p, 0, none⟩)] w fun e w' => e = .returned (.bool false) ∧ Bx w' p d m c t s r ∧ Below p w w' := by
  have h' := h
  obtain ⟨hl, k0, k1, k2, k3, k4, k5, kf⟩ := h'
  have x0 : decide (d < 1200) = false := by rw [decide_eq_false_iff_not]; omega
  have x1 : decide (65527 < d) = false := by rw [decide_eq_false_iff_not]; omega
  have x2 : decide (1099511627776 < m) = false := by rw [decide_eq_false_iff_not]; omega
  have x3 : decide (c < 2 * d) = false := by rw [decide_eq_false_iff_not]; omega
  have x4 : decide (m < c) = false := by rw [decide_eq_false_iff_not]; omega
  have x5 : decide (r < 0) = true := by rw [decide_eq_true_eq]; omega
  go_enter Try.func42, Try.ntmps42
  go_wp2_with fail
  go_quiet ((refine (least_any p d _ (by omega) (by omega) (by simp [*])).mono ?_; rintro e w' ⟨rfl, rfl⟩; exact ⟨rfl, _, rfl⟩))
  go_wp2_with fail
  go_ret
  refine ⟨by simp [*] <;> omega, ?_, ?_⟩
  · first | exact h | exact h.drewN _ | exact (h.drewN _).drewN _
  · first | exact belowDrewN (Below.refl _ _) _ | exact belowDrewN (belowDrewN (Below.refl _ _) _) _ | exact Below.refl _ _

set_option maxHeartbeats 1000000 in
theorem may_r1 (p : Nat) (d m c t s r : Int) (w : World) (h : Bx w p d m c t s r) (a1 : 1200 ≤ d) (a2 : d ≤ 65527) (a3 : m ≤ 1099511627776) (b1 : 2 * d ≤ c) (b2 : c ≤ m) (b3 : 0 ≤ r) (x : c ≤ r) :
    Calls Try.prog 42 #[.pointer (some ⟨p, 0, none⟩)] w fun e w' => e = .returned (.bool false) ∧ Bx w' p d m c t s r ∧ Below p w w' := by
  have h' := h
  obtain ⟨hl, k0, k1, k2, k3, k4, k5, kf⟩ := h'
  have x0 : decide (d < 1200) = false := by rw [decide_eq_false_iff_not]; omega
  have x1 : decide (65527 < d) = false := by rw [decide_eq_false_iff_not]; omega
  have x2 : decide (1099511627776 < m) = false := by rw [decide_eq_false_iff_not]; omega
  have x3 : decide (c < 2 * d) = false := by rw [decide_eq_false_iff_not]; omega
  have x4 : decide (m < c) = false := by rw [decide_eq_false_iff_not]; omega
  have x5 : decide (r < 0) = false := by rw [decide_eq_false_iff_not]; omega
  have x6 : decide (c ≤ r) = true := by rw [decide_eq_true_eq]; omega
  go_enter Try.func42, Try.ntmps42
  go_wp2_with fail
  go_quiet ((refine (least_any p d _ (by omega) (by omega) (by simp [*])).mono ?_; rintro e w' ⟨rfl, rfl⟩; exact ⟨rfl, _, rfl⟩))
  go_wp2_with fail
  go_ret
  refine ⟨by simp [*] <;> omega, ?_, ?_⟩
  · first | exact h | exact h.drewN _ | exact (h.drewN _).drewN _
  · first | exact belowDrewN (Below.refl _ _) _ | exact belowDrewN (belowDrewN (Below.refl _ _) _) _ | exact Below.refl _ _

set_option maxHeartbeats 1000000 in
theorem may_t0 (p : Nat) (d m c t s r : Int) (w : World) (h : Bx w p d m c t s r) (a1 : 1200 ≤ d) (a2 : d ≤ 65527) (a3 : m ≤ 1099511627776) (b1 : 2 * d ≤ c) (b2 : c ≤ m) (b3 : 0 ≤ r) (b4 : r < c) (y1 : t ≠ -1) (x : t < d) :
    Calls Try.prog 42 #[.pointer (some ⟨p, 0, none⟩)] w fun e w' => e = .returned (.bool false) ∧ Bx w' p d m c t s r ∧ Below p w w' := by
  have h' := h
  obtain ⟨hl, k0, k1, k2, k3, k4, k5, kf⟩ := h'
  have x0 : decide (d < 1200) = false := by rw [decide_eq_false_iff_not]; omega
  have x1 : decide (65527 < d) = false := by rw [decide_eq_false_iff_not]; omega
  have x2 : decide (1099511627776 < m) = false := by rw [decide_eq_false_iff_not]; omega
  have x3 : decide (c < 2 * d) = false := by rw [decide_eq_false_iff_not]; omega
  have x4 : decide (m < c) = false := by rw [decide_eq_false_iff_not]; omega
  have x5 : decide (r < 0) = false := by rw [decide_eq_false_iff_not]; omega
  have x6 : decide (c ≤ r) = false := by rw [decide_eq_false_iff_not]; omega
  have x7 : decide (t < d) = true := by rw [decide_eq_true_eq]; omega
  have ey : (t == -1) = false := beq_eq_false_iff_ne.2 y1
  have ey2 : (t != -1) = true := bne_iff_ne.2 y1
  go_enter Try.func42, Try.ntmps42
  go_wp2_with fail
  go_quiet ((refine (least_any p d _ (by omega) (by omega) (by simp [*])).mono ?_; rintro e w' ⟨rfl, rfl⟩; exact ⟨rfl, _, rfl⟩))
  go_wp2_with fail
  go_quiet (fail)
  go_wp2_with fail
  go_ret
  refine ⟨by simp [*] <;> omega, ?_, ?_⟩
  · first | exact h | exact h.drewN _ | exact (h.drewN _).drewN _
  · first | exact belowDrewN (Below.refl _ _) _ | exact belowDrewN (belowDrewN (Below.refl _ _) _) _ | exact Below.refl _ _

set_option maxHeartbeats 1000000 in
theorem may_t1 (p : Nat) (d m c t s r : Int) (w : World) (h : Bx w p d m c t s r) (a1 : 1200 ≤ d) (a2 : d ≤ 65527) (a3 : m ≤ 1099511627776) (b1 : 2 * d ≤ c) (b2 : c ≤ m) (b3 : 0 ≤ r) (b4 : r < c) (y1 : t ≠ -1) (y2 : d ≤ t) (x : m < t) :
    Calls Try.prog 42 #[.pointer (some ⟨p, 0, none⟩)] w fun e w' => e = .returned (.bool false) ∧ Bx w' p d m c t s r ∧ Below p w w' := by
  have h' := h
  obtain ⟨hl, k0, k1, k2, k3, k4, k5, kf⟩ := h'
  have x0 : decide (d < 1200) = false := by rw [decide_eq_false_iff_not]; omega
  have x1 : decide (65527 < d) = false := by rw [decide_eq_false_iff_not]; omega
  have x2 : decide (1099511627776 < m) = false := by rw [decide_eq_false_iff_not]; omega
  have x3 : decide (c < 2 * d) = false := by rw [decide_eq_false_iff_not]; omega
  have x4 : decide (m < c) = false := by rw [decide_eq_false_iff_not]; omega
  have x5 : decide (r < 0) = false := by rw [decide_eq_false_iff_not]; omega
  have x6 : decide (c ≤ r) = false := by rw [decide_eq_false_iff_not]; omega
  have x7 : decide (t < d) = false := by rw [decide_eq_false_iff_not]; omega
  have x8 : decide (m < t) = true := by rw [decide_eq_true_eq]; omega
  have ey : (t == -1) = false := beq_eq_false_iff_ne.2 y1
  have ey2 : (t != -1) = true := bne_iff_ne.2 y1
  go_enter Try.func42, Try.ntmps42
  go_wp2_with fail
  go_quiet ((refine (least_any p d _ (by omega) (by omega) (by simp [*])).mono ?_; rintro e w' ⟨rfl, rfl⟩; exact ⟨rfl, _, rfl⟩))
  go_wp2_with fail
  go_quiet (fail)
  go_wp2_with fail
  go_ret
  refine ⟨by simp [*] <;> omega, ?_, ?_⟩
  · first | exact h | exact h.drewN _ | exact (h.drewN _).drewN _
  · first | exact belowDrewN (Below.refl _ _) _ | exact belowDrewN (belowDrewN (Below.refl _ _) _) _ | exact Below.refl _ _

set_option maxHeartbeats 1000000 in
theorem may_s_t (p : Nat) (d m c t s r : Int) (w : World) (h : Bx w p d m c t s r) (a1 : 1200 ≤ d) (a2 : d ≤ 65527) (a3 : m ≤ 1099511627776) (b1 : 2 * d ≤ c) (b2 : c ≤ m) (b3 : 0 ≤ r) (b4 : r < c) (y1 : t ≠ -1) (y2 : d ≤ t) (y3 : t ≤ m) (y4 : s = -1) :
    Calls Try.prog 42 #[.pointer (some ⟨p, 0, none⟩)] w fun e w' => e = .returned (.bool true) ∧ Bx w' p d m c t s r ∧ Below p w w' := by
  have h' := h
  obtain ⟨hl, k0, k1, k2, k3, k4, k5, kf⟩ := h'
  have x0 : decide (d < 1200) = false := by rw [decide_eq_false_iff_not]; omega
  have x1 : decide (65527 < d) = false := by rw [decide_eq_false_iff_not]; omega
  have x2 : decide (1099511627776 < m) = false := by rw [decide_eq_false_iff_not]; omega
  have x3 : decide (c < 2 * d) = false := by rw [decide_eq_false_iff_not]; omega
  have x4 : decide (m < c) = false := by rw [decide_eq_false_iff_not]; omega
  have x5 : decide (r < 0) = false := by rw [decide_eq_false_iff_not]; omega
  have x6 : decide (c ≤ r) = false := by rw [decide_eq_false_iff_not]; omega
  have x7 : decide (t < d) = false := by rw [decide_eq_false_iff_not]; omega
  have x8 : decide (m < t) = false := by rw [decide_eq_false_iff_not]; omega
  have ey : (t == -1) = false := beq_eq_false_iff_ne.2 y1
  have ey2 : (t != -1) = true := bne_iff_ne.2 y1
  subst y4
  go_enter Try.func42, Try.ntmps42
  go_wp2_with fail
  go_quiet ((refine (least_any p d _ (by omega) (by omega) (by simp [*])).mono ?_; rintro e w' ⟨rfl, rfl⟩; exact ⟨rfl, _, rfl⟩))
  go_wp2_with fail
  go_quiet (fail)
  go_wp2_with (first | (go_at_call 30; refine (isTime_any _ _).mono ?_; rintro e w' ⟨rfl, rfl⟩))
  go_ret
  refine ⟨by simp [*] <;> omega, ?_, ?_⟩
  · first | exact h | exact h.drewN _ | exact (h.drewN _).drewN _
  · first | exact belowDrewN (Below.refl _ _) _ | exact belowDrewN (belowDrewN (Below.refl _ _) _) _ | exact Below.refl _ _

set_option maxHeartbeats 1000000 in
theorem may_y_t (p : Nat) (d m c t s r : Int) (w : World) (h : Bx w p d m c t s r) (a1 : 1200 ≤ d) (a2 : d ≤ 65527) (a3 : m ≤ 1099511627776) (b1 : 2 * d ≤ c) (b2 : c ≤ m) (b3 : 0 ≤ r) (b4 : r < c) (y1 : t ≠ -1) (y2 : d ≤ t) (y3 : t ≤ m) (z1 : s ≠ -1) (z2 : 0 ≤ s) (z3 : s ≤ 9007199254740991) :
    Calls Try.prog 42 #[.pointer (some ⟨p, 0, none⟩)] w fun e w' => e = .returned (.bool true) ∧ Bx w' p d m c t s r ∧ Below p w w' := by
  have h' := h
  obtain ⟨hl, k0, k1, k2, k3, k4, k5, kf⟩ := h'
  have x0 : decide (d < 1200) = false := by rw [decide_eq_false_iff_not]; omega
  have x1 : decide (65527 < d) = false := by rw [decide_eq_false_iff_not]; omega
  have x2 : decide (1099511627776 < m) = false := by rw [decide_eq_false_iff_not]; omega
  have x3 : decide (c < 2 * d) = false := by rw [decide_eq_false_iff_not]; omega
  have x4 : decide (m < c) = false := by rw [decide_eq_false_iff_not]; omega
  have x5 : decide (r < 0) = false := by rw [decide_eq_false_iff_not]; omega
  have x6 : decide (c ≤ r) = false := by rw [decide_eq_false_iff_not]; omega
  have x7 : decide (t < d) = false := by rw [decide_eq_false_iff_not]; omega
  have x8 : decide (m < t) = false := by rw [decide_eq_false_iff_not]; omega
  have ey : (t == -1) = false := beq_eq_false_iff_ne.2 y1
  have ey2 : (t != -1) = true := bne_iff_ne.2 y1
  have ez : (s == -1) = false := beq_eq_false_iff_ne.2 z1
  go_enter Try.func42, Try.ntmps42
  go_wp2_with fail
  go_quiet ((refine (least_any p d _ (by omega) (by omega) (by simp [*])).mono ?_; rintro e w' ⟨rfl, rfl⟩; exact ⟨rfl, _, rfl⟩))
  go_wp2_with fail
  go_quiet (fail)
  go_wp2_with (first | (go_at_call 30; refine (isTime_any _ _).mono ?_; rintro e w' ⟨rfl, rfl⟩))
  go_ret
  refine ⟨by simp [*] <;> omega, ?_, ?_⟩
  · first | exact h | exact h.drewN _ | exact (h.drewN _).drewN _
  · first | exact belowDrewN (Below.refl _ _) _ | exact belowDrewN (belowDrewN (Below.refl _ _) _) _ | exact Below.refl _ _

set_option maxHeartbeats 1000000 in
theorem may_x_t (p : Nat) (d m c t s r : Int) (w : World) (h : Bx w p d m c t s r) (a1 : 1200 ≤ d) (a2 : d ≤ 65527) (a3 : m ≤ 1099511627776) (b1 : 2 * d ≤ c) (b2 : c ≤ m) (b3 : 0 ≤ r) (b4 : r < c) (y1 : t ≠ -1) (y2 : d ≤ t) (y3 : t ≤ m) (z1 : s ≠ -1) (z2 : s < 0) :
    Calls Try.prog 42 #[.pointer (some ⟨p, 0, none⟩)] w fun e w' => e = .returned (.bool false) ∧ Bx w' p d m c t s r ∧ Below p w w' := by
  have h' := h
  obtain ⟨hl, k0, k1, k2, k3, k4, k5, kf⟩ := h'
  have x0 : decide (d < 1200) = false := by rw [decide_eq_false_iff_not]; omega
  have x1 : decide (65527 < d) = false := by rw [decide_eq_false_iff_not]; omega
  have x2 : decide (1099511627776 < m) = false := by rw [decide_eq_false_iff_not]; omega
  have x3 : decide (c < 2 * d) = false := by rw [decide_eq_false_iff_not]; omega
  have x4 : decide (m < c) = false := by rw [decide_eq_false_iff_not]; omega
  have x5 : decide (r < 0) = false := by rw [decide_eq_false_iff_not]; omega
  have x6 : decide (c ≤ r) = false := by rw [decide_eq_false_iff_not]; omega
  have x7 : decide (t < d) = false := by rw [decide_eq_false_iff_not]; omega
  have x8 : decide (m < t) = false := by rw [decide_eq_false_iff_not]; omega
  have ey : (t == -1) = false := beq_eq_false_iff_ne.2 y1
  have ey2 : (t != -1) = true := bne_iff_ne.2 y1
  have ez : (s == -1) = false := beq_eq_false_iff_ne.2 z1
  go_enter Try.func42, Try.ntmps42
  go_wp2_with fail
  go_quiet ((refine (least_any p d _ (by omega) (by omega) (by simp [*])).mono ?_; rintro e w' ⟨rfl, rfl⟩; exact ⟨rfl, _, rfl⟩))
  go_wp2_with fail
  go_quiet (fail)
  go_wp2_with (first | (go_at_call 30; refine (isTime_any _ _).mono ?_; rintro e w' ⟨rfl, rfl⟩))
  go_ret
  refine ⟨by simp [*] <;> omega, ?_, ?_⟩
  · first | exact h | exact h.drewN _ | exact (h.drewN _).drewN _
  · first | exact belowDrewN (Below.refl _ _) _ | exact belowDrewN (belowDrewN (Below.refl _ _) _) _ | exact Below.refl _ _

set_option maxHeartbeats 1000000 in
theorem may_z_t (p : Nat) (d m c t s r : Int) (w : World) (h : Bx w p d m c t s r) (a1 : 1200 ≤ d) (a2 : d ≤ 65527) (a3 : m ≤ 1099511627776) (b1 : 2 * d ≤ c) (b2 : c ≤ m) (b3 : 0 ≤ r) (b4 : r < c) (y1 : t ≠ -1) (y2 : d ≤ t) (y3 : t ≤ m) (z1 : s ≠ -1) (z2 : 0 ≤ s) (z3 : 9007199254740991 < s) :
    Calls Try.prog 42 #[.pointer (some ⟨p, 0, none⟩)] w fun e w' => e = .returned (.bool false) ∧ Bx w' p d m c t s r ∧ Below p w w' := by
  have h' := h
  obtain ⟨hl, k0, k1, k2, k3, k4, k5, kf⟩ := h'
  have x0 : decide (d < 1200) = false := by rw [decide_eq_false_iff_not]; omega
  have x1 : decide (65527 < d) = false := by rw [decide_eq_false_iff_not]; omega
  have x2 : decide (1099511627776 < m) = false := by rw [decide_eq_false_iff_not]; omega
  have x3 : decide (c < 2 * d) = false := by rw [decide_eq_false_iff_not]; omega
  have x4 : decide (m < c) = false := by rw [decide_eq_false_iff_not]; omega
  have x5 : decide (r < 0) = false := by rw [decide_eq_false_iff_not]; omega
  have x6 : decide (c ≤ r) = false := by rw [decide_eq_false_iff_not]; omega
  have x7 : decide (t < d) = false := by rw [decide_eq_false_iff_not]; omega
  have x8 : decide (m < t) = false := by rw [decide_eq_false_iff_not]; omega
  have ey : (t == -1) = false := beq_eq_false_iff_ne.2 y1
  have ey2 : (t != -1) = true := bne_iff_ne.2 y1
  have ez : (s == -1) = false := beq_eq_false_iff_ne.2 z1
  go_enter Try.func42, Try.ntmps42
  go_wp2_with fail
  go_quiet ((refine (least_any p d _ (by omega) (by omega) (by simp [*])).mono ?_; rintro e w' ⟨rfl, rfl⟩; exact ⟨rfl, _, rfl⟩))
  go_wp2_with fail
  go_quiet (fail)
  go_wp2_with (first | (go_at_call 30; refine (isTime_any _ _).mono ?_; rintro e w' ⟨rfl, rfl⟩))
  go_ret
  refine ⟨by simp [*] <;> omega, ?_, ?_⟩
  · first | exact h | exact h.drewN _ | exact (h.drewN _).drewN _
  · first | exact belowDrewN (Below.refl _ _) _ | exact belowDrewN (belowDrewN (Below.refl _ _) _) _ | exact Below.refl _ _

set_option maxHeartbeats 1000000 in
theorem may_s_n (p : Nat) (d m c t s r : Int) (w : World) (h : Bx w p d m c t s r) (a1 : 1200 ≤ d) (a2 : d ≤ 65527) (a3 : m ≤ 1099511627776) (b1 : 2 * d ≤ c) (b2 : c ≤ m) (b3 : 0 ≤ r) (b4 : r < c) (y1 : t = -1) (y4 : s = -1) :
    Calls Try.prog 42 #[.pointer (some ⟨p, 0, none⟩)] w fun e w' => e = .returned (.bool true) ∧ Bx w' p d m c t s r ∧ Below p w w' := by
  have h' := h
  obtain ⟨hl, k0, k1, k2, k3, k4, k5, kf⟩ := h'
  have x0 : decide (d < 1200) = false := by rw [decide_eq_false_iff_not]; omega
  have x1 : decide (65527 < d) = false := by rw [decide_eq_false_iff_not]; omega
  have x2 : decide (1099511627776 < m) = false := by rw [decide_eq_false_iff_not]; omega
  have x3 : decide (c < 2 * d) = false := by rw [decide_eq_false_iff_not]; omega
  have x4 : decide (m < c) = false := by rw [decide_eq_false_iff_not]; omega
  have x5 : decide (r < 0) = false := by rw [decide_eq_false_iff_not]; omega
  have x6 : decide (c ≤ r) = false := by rw [decide_eq_false_iff_not]; omega
  subst y1
  subst y4
  go_enter Try.func42, Try.ntmps42
  go_wp2_with fail
  go_quiet ((refine (least_any p d _ (by omega) (by omega) (by simp [*])).mono ?_; rintro e w' ⟨rfl, rfl⟩; exact ⟨rfl, _, rfl⟩))
  go_wp2_with fail
  go_quiet (fail)
  go_wp2_with (first | (go_at_call 30; refine (isTime_any _ _).mono ?_; rintro e w' ⟨rfl, rfl⟩))
  go_ret
  refine ⟨by simp [*] <;> omega, ?_, ?_⟩
  · first | exact h | exact h.drewN _ | exact (h.drewN _).drewN _
  · first | exact belowDrewN (Below.refl _ _) _ | exact belowDrewN (belowDrewN (Below.refl _ _) _) _ | exact Below.refl _ _

set_option maxHeartbeats 1000000 in
theorem may_y_n (p : Nat) (d m c t s r : Int) (w : World) (h : Bx w p d m c t s r) (a1 : 1200 ≤ d) (a2 : d ≤ 65527) (a3 : m ≤ 1099511627776) (b1 : 2 * d ≤ c) (b2 : c ≤ m) (b3 : 0 ≤ r) (b4 : r < c) (y1 : t = -1) (z1 : s ≠ -1) (z2 : 0 ≤ s) (z3 : s ≤ 9007199254740991) :
    Calls Try.prog 42 #[.pointer (some ⟨p, 0, none⟩)] w fun e w' => e = .returned (.bool true) ∧ Bx w' p d m c t s r ∧ Below p w w' := by
  have h' := h
  obtain ⟨hl, k0, k1, k2, k3, k4, k5, kf⟩ := h'
  have x0 : decide (d < 1200) = false := by rw [decide_eq_false_iff_not]; omega
  have x1 : decide (65527 < d) = false := by rw [decide_eq_false_iff_not]; omega
  have x2 : decide (1099511627776 < m) = false := by rw [decide_eq_false_iff_not]; omega
  have x3 : decide (c < 2 * d) = false := by rw [decide_eq_false_iff_not]; omega
  have x4 : decide (m < c) = false := by rw [decide_eq_false_iff_not]; omega
  have x5 : decide (r < 0) = false := by rw [decide_eq_false_iff_not]; omega
  have x6 : decide (c ≤ r) = false := by rw [decide_eq_false_iff_not]; omega
  subst y1
  have ez : (s == -1) = false := beq_eq_false_iff_ne.2 z1
  go_enter Try.func42, Try.ntmps42
  go_wp2_with fail
  go_quiet ((refine (least_any p d _ (by omega) (by omega) (by simp [*])).mono ?_; rintro e w' ⟨rfl, rfl⟩; exact ⟨rfl, _, rfl⟩))
  go_wp2_with fail
  go_quiet (fail)
  go_wp2_with (first | (go_at_call 30; refine (isTime_any _ _).mono ?_; rintro e w' ⟨rfl, rfl⟩))
  go_ret
  refine ⟨by simp [*] <;> omega, ?_, ?_⟩
  · first | exact h | exact h.drewN _ | exact (h.drewN _).drewN _
  · first | exact belowDrewN (Below.refl _ _) _ | exact belowDrewN (belowDrewN (Below.refl _ _) _) _ | exact Below.refl _ _

set_option maxHeartbeats 1000000 in
theorem may_x_n (p : Nat) (d m c t s r : Int) (w : World) (h : Bx w p d m c t s r) (a1 : 1200 ≤ d) (a2 : d ≤ 65527) (a3 : m ≤ 1099511627776) (b1 : 2 * d ≤ c) (b2 : c ≤ m) (b3 : 0 ≤ r) (b4 : r < c) (y1 : t = -1) (z1 : s ≠ -1) (z2 : s < 0) :
    Calls Try.prog 42 #[.pointer (some ⟨p, 0, none⟩)] w fun e w' => e = .returned (.bool false) ∧ Bx w' p d m c t s r ∧ Below p w w' := by
  have h' := h
  obtain ⟨hl, k0, k1, k2, k3, k4, k5, kf⟩ := h'
  have x0 : decide (d < 1200) = false := by rw [decide_eq_false_iff_not]; omega
  have x1 : decide (65527 < d) = false := by rw [decide_eq_false_iff_not]; omega
  have x2 : decide (1099511627776 < m) = false := by rw [decide_eq_false_iff_not]; omega
  have x3 : decide (c < 2 * d) = false := by rw [decide_eq_false_iff_not]; omega
  have x4 : decide (m < c) = false := by rw [decide_eq_false_iff_not]; omega
  have x5 : decide (r < 0) = false := by rw [decide_eq_false_iff_not]; omega
  have x6 : decide (c ≤ r) = false := by rw [decide_eq_false_iff_not]; omega
  subst y1
  have ez : (s == -1) = false := beq_eq_false_iff_ne.2 z1
  go_enter Try.func42, Try.ntmps42
  go_wp2_with fail
  go_quiet ((refine (least_any p d _ (by omega) (by omega) (by simp [*])).mono ?_; rintro e w' ⟨rfl, rfl⟩; exact ⟨rfl, _, rfl⟩))
  go_wp2_with fail
  go_quiet (fail)
  go_wp2_with (first | (go_at_call 30; refine (isTime_any _ _).mono ?_; rintro e w' ⟨rfl, rfl⟩))
  go_ret
  refine ⟨by simp [*] <;> omega, ?_, ?_⟩
  · first | exact h | exact h.drewN _ | exact (h.drewN _).drewN _
  · first | exact belowDrewN (Below.refl _ _) _ | exact belowDrewN (belowDrewN (Below.refl _ _) _) _ | exact Below.refl _ _

set_option maxHeartbeats 1000000 in
theorem may_z_n (p : Nat) (d m c t s r : Int) (w : World) (h : Bx w p d m c t s r) (a1 : 1200 ≤ d) (a2 : d ≤ 65527) (a3 : m ≤ 1099511627776) (b1 : 2 * d ≤ c) (b2 : c ≤ m) (b3 : 0 ≤ r) (b4 : r < c) (y1 : t = -1) (z1 : s ≠ -1) (z2 : 0 ≤ s) (z3 : 9007199254740991 < s) :
    Calls Try.prog 42 #[.pointer (some ⟨p, 0, none⟩)] w fun e w' => e = .returned (.bool false) ∧ Bx w' p d m c t s r ∧ Below p w w' := by
  have h' := h
  obtain ⟨hl, k0, k1, k2, k3, k4, k5, kf⟩ := h'
  have x0 : decide (d < 1200) = false := by rw [decide_eq_false_iff_not]; omega
  have x1 : decide (65527 < d) = false := by rw [decide_eq_false_iff_not]; omega
  have x2 : decide (1099511627776 < m) = false := by rw [decide_eq_false_iff_not]; omega
  have x3 : decide (c < 2 * d) = false := by rw [decide_eq_false_iff_not]; omega
  have x4 : decide (m < c) = false := by rw [decide_eq_false_iff_not]; omega
  have x5 : decide (r < 0) = false := by rw [decide_eq_false_iff_not]; omega
  have x6 : decide (c ≤ r) = false := by rw [decide_eq_false_iff_not]; omega
  subst y1
  have ez : (s == -1) = false := beq_eq_false_iff_ne.2 z1
  go_enter Try.func42, Try.ntmps42
  go_wp2_with fail
  go_quiet ((refine (least_any p d _ (by omega) (by omega) (by simp [*])).mono ?_; rintro e w' ⟨rfl, rfl⟩; exact ⟨rfl, _, rfl⟩))
  go_wp2_with fail
  go_quiet (fail)
  go_wp2_with (first | (go_at_call 30; refine (isTime_any _ _).mono ?_; rintro e w' ⟨rfl, rfl⟩))
  go_ret
  refine ⟨by simp [*] <;> omega, ?_, ?_⟩
  · first | exact h | exact h.drewN _ | exact (h.drewN _).drewN _
  · first | exact belowDrewN (Below.refl _ _) _ | exact belowDrewN (belowDrewN (Below.refl _ _) _) _ | exact Below.refl _ _
end Go.Proofs.Ytcjhankepchioaa
