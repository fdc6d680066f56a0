/-
  The walk of PnumBack, case by case.
-/
import Derived.Test.YtgmgbhpecnmfeaaF
namespace Go.Proofs.Ytgmgbhpecnmfeaa
open Go.RowKit (wrap32 wrap64)
open Go.RowKit
set_option linter.unusedVariables false

theorem wholeCut (full g : Int) (n : Nat) (all : Int) (hn : allV n = all) (A : Option Addr) (c : Nat) (w : World) (g0 : -1 ≤ g) (g1 : g ≤ 9007199254740991) (h : Bs w A n (bytesV full n)) (n0 : 1 ≤ n) (n1 : n ≤ 4) :
    Calls Try.prog 15 #[.int .i64 g, .slice A n c] w fun e w' => e = .returned (.tuple #[.int .i64 (wholeV g (full % all) all), .int .i64 0]) ∧ ∃ n, w.drewN n = w' := by
  have key := whole_any g A n c _ w g0 g1 h n0 n1
  have e : cutV (bytesV full n) = full % all := by
    have hn4 : n = 1 ∨ n = 2 ∨ n = 3 ∨ n = 4 := by omega
    rcases hn4 with rfl | rfl | rfl | rfl
    · subst hn; simp [cutV, bytesV, allV]
    · subst hn; simp [cutV, bytesV, allV]; omega
    · subst hn; simp [cutV, bytesV, allV]; omega
    · subst hn; simp [cutV, bytesV, allV]; omega
  rw [e, hn] at key
  exact key

set_option maxHeartbeats 1000000 in
theorem back_1AC (a0 a1 a2 full k acked r : Int) (w : World) (h0 : a0 % 9007199254740992 = full) (h1 : a1 % 2147483648 = k) (h2 : full - 1 - k = acked) (ka : -1 < acked) (f0 : 0 ≤ full) (f1 : full ≤ 9007199254740991) (k0 : 0 ≤ k) (k1 : k ≤ 2147483647)
    (n1 : full - acked ≤ 128) (hl : full + 128 - 2 ≤ 9007199254740991) (h3 : a2 % (full + 128 - 2 - acked + 1) = r) (r0 : 0 ≤ r) (r1 : r ≤ full + 128 - 2 - acked) :
    Calls Try.prog 4 #[.int .i64 a0, .int .i64 a1, .int .i64 a2] w fun e w' => e = .returned (.bool true) ∧ Below w.heap.size w w' := by
  have B1 := Lib.hid (back full acked (acked + r) 256 (by unfold Width; omega) f0 f1 (by omega) (by omega) (by omega) (by omega) (by omega) (by omega))
  have B2 := Lib.hid (back_self full acked 256 (by unfold Width; omega) f0 f1 (by omega) (by omega) (by omega))
  go_enter Try.func4, Try.ntmps4
  go_wp2_with (first
    | (go_at_call 17; refine (works_ok _).mono ?_; rintro e w1 ⟨rfl, hb1⟩; have H1 := Lib.hid hb1; clear hb1)
    | (go_at_call 18; refine (bring_any _ _ _ (by omega) (by omega)).mono ?_; rintro e w' ⟨rfl, rfl⟩)
    | (go_at_call 9; refine (len_1 _ _ _ (by omega) (by omega) (by omega) (by omega) (by omega)).mono ?_; rintro e w' ⟨rfl, rfl⟩)
    | (go_at_call 11; refine (cut_any _ 1 _ f0 f1 (by omega) (by omega)).mono ?_; rintro e w2 ⟨⟨A', c', rfl, hB, hlt⟩, hbel⟩; have HB := Lib.hid hB; have H2 := Lib.hid hbel; clear hB hlt hbel))
  refine (wholeCut full (acked + r) 1 256 rfl _ _ _ (by omega) (by omega) HB.out (by omega) (by omega)).mono ?_
  rintro e w3 ⟨rfl, k3, rfl⟩
  rw [B1.out]
  go_wp2_with fail
  refine (wholeCut full acked 1 256 rfl _ _ _ (by omega) (by omega) (show Bs (w2.drewN k3) _ _ _ from HB.out) (by omega) (by omega)).mono ?_
  rintro e w4 ⟨rfl, k4, rfl⟩
  rw [B2.out]
  go_wp2_with fail
  go_ret
  exact ⟨rfl, belowDrewN (H1.out.trans (H2.out.mono H1.out.size)) _⟩

set_option maxHeartbeats 1000000 in
theorem back_1AD (a0 a1 a2 full k acked r : Int) (w : World) (h0 : a0 % 9007199254740992 = full) (h1 : a1 % 2147483648 = k) (h2 : full - 1 - k = acked) (ka : -1 < acked) (f0 : 0 ≤ full) (f1 : full ≤ 9007199254740991) (k0 : 0 ≤ k) (k1 : k ≤ 2147483647)
    (n1 : full - acked ≤ 128) (hl : 9007199254740991 < full + 128 - 2) (h3 : a2 % (9007199254740991 - acked + 1) = r) (r0 : 0 ≤ r) (r1 : r ≤ 9007199254740991 - acked) :
    Calls Try.prog 4 #[.int .i64 a0, .int .i64 a1, .int .i64 a2] w fun e w' => e = .returned (.bool true) ∧ Below w.heap.size w w' := by
  have B1 := Lib.hid (back full acked (acked + r) 256 (by unfold Width; omega) f0 f1 (by omega) (by omega) (by omega) (by omega) (by omega) (by omega))
  have B2 := Lib.hid (back_self full acked 256 (by unfold Width; omega) f0 f1 (by omega) (by omega) (by omega))
  go_enter Try.func4, Try.ntmps4
  go_wp2_with (first
    | (go_at_call 17; refine (works_ok _).mono ?_; rintro e w1 ⟨rfl, hb1⟩; have H1 := Lib.hid hb1; clear hb1)
    | (go_at_call 18; refine (bring_any _ _ _ (by omega) (by omega)).mono ?_; rintro e w' ⟨rfl, rfl⟩)
    | (go_at_call 9; refine (len_1 _ _ _ (by omega) (by omega) (by omega) (by omega) (by omega)).mono ?_; rintro e w' ⟨rfl, rfl⟩)
    | (go_at_call 11; refine (cut_any _ 1 _ f0 f1 (by omega) (by omega)).mono ?_; rintro e w2 ⟨⟨A', c', rfl, hB, hlt⟩, hbel⟩; have HB := Lib.hid hB; have H2 := Lib.hid hbel; clear hB hlt hbel))
  refine (wholeCut full (acked + r) 1 256 rfl _ _ _ (by omega) (by omega) HB.out (by omega) (by omega)).mono ?_
  rintro e w3 ⟨rfl, k3, rfl⟩
  rw [B1.out]
  go_wp2_with fail
  refine (wholeCut full acked 1 256 rfl _ _ _ (by omega) (by omega) (show Bs (w2.drewN k3) _ _ _ from HB.out) (by omega) (by omega)).mono ?_
  rintro e w4 ⟨rfl, k4, rfl⟩
  rw [B2.out]
  go_wp2_with fail
  go_ret
  exact ⟨rfl, belowDrewN (H1.out.trans (H2.out.mono H1.out.size)) _⟩

set_option maxHeartbeats 1000000 in
theorem back_1BC (a0 a1 a2 full k r : Int) (w : World) (h0 : a0 % 9007199254740992 = full) (h1 : a1 % 2147483648 = k) (x : Int) (h2 : full - 1 - k = x) (ka : x ≤ -1) (f0 : 0 ≤ full) (f1 : full ≤ 9007199254740991) (k0 : 0 ≤ k) (k1 : k ≤ 2147483647)
    (n1 : full - (-1) ≤ 128) (hl : full + 128 - 2 ≤ 9007199254740991) (h3 : a2 % (full + 128 - 2 + 1 + 1) = r) (r0 : 0 ≤ r) (r1 : r ≤ full + 128 - 2 + 1) :
    Calls Try.prog 4 #[.int .i64 a0, .int .i64 a1, .int .i64 a2] w fun e w' => e = .returned (.bool true) ∧ Below w.heap.size w w' := by
  have B1 := Lib.hid (back full (-1) (-1 + r) 256 (by unfold Width; omega) f0 f1 (by omega) (by omega) (by omega) (by omega) (by omega) (by omega))
  have B2 := Lib.hid (back_self full (-1) 256 (by unfold Width; omega) f0 f1 (by omega) (by omega) (by omega))
  go_enter Try.func4, Try.ntmps4
  go_wp2_with (first
    | (go_at_call 17; refine (works_ok _).mono ?_; rintro e w1 ⟨rfl, hb1⟩; have H1 := Lib.hid hb1; clear hb1)
    | (go_at_call 18; refine (bring_any _ _ _ (by omega) (by omega)).mono ?_; rintro e w' ⟨rfl, rfl⟩)
    | (go_at_call 9; refine (len_1 _ _ _ (by omega) (by omega) (by omega) (by omega) (by omega)).mono ?_; rintro e w' ⟨rfl, rfl⟩)
    | (go_at_call 11; refine (cut_any _ 1 _ f0 f1 (by omega) (by omega)).mono ?_; rintro e w2 ⟨⟨A', c', rfl, hB, hlt⟩, hbel⟩; have HB := Lib.hid hB; have H2 := Lib.hid hbel; clear hB hlt hbel))
  refine (wholeCut full (-1 + r) 1 256 rfl _ _ _ (by omega) (by omega) HB.out (by omega) (by omega)).mono ?_
  rintro e w3 ⟨rfl, k3, rfl⟩
  rw [B1.out]
  go_wp2_with fail
  refine (wholeCut full (-1) 1 256 rfl _ _ _ (by omega) (by omega) (show Bs (w2.drewN k3) _ _ _ from HB.out) (by omega) (by omega)).mono ?_
  rintro e w4 ⟨rfl, k4, rfl⟩
  rw [B2.out]
  go_wp2_with fail
  go_ret
  exact ⟨rfl, belowDrewN (H1.out.trans (H2.out.mono H1.out.size)) _⟩

set_option maxHeartbeats 1000000 in
theorem back_2AC (a0 a1 a2 full k acked r : Int) (w : World) (h0 : a0 % 9007199254740992 = full) (h1 : a1 % 2147483648 = k) (h2 : full - 1 - k = acked) (ka : -1 < acked) (f0 : 0 ≤ full) (f1 : full ≤ 9007199254740991) (k0 : 0 ≤ k) (k1 : k ≤ 2147483647)
    (n0 : 128 < full - acked) (n1 : full - acked ≤ 32768) (hl : full + 32768 - 2 ≤ 9007199254740991) (h3 : a2 % (full + 32768 - 2 - acked + 1) = r) (r0 : 0 ≤ r) (r1 : r ≤ full + 32768 - 2 - acked) :
    Calls Try.prog 4 #[.int .i64 a0, .int .i64 a1, .int .i64 a2] w fun e w' => e = .returned (.bool true) ∧ Below w.heap.size w w' := by
  have B1 := Lib.hid (back full acked (acked + r) 65536 (by unfold Width; omega) f0 f1 (by omega) (by omega) (by omega) (by omega) (by omega) (by omega))
  have B2 := Lib.hid (back_self full acked 65536 (by unfold Width; omega) f0 f1 (by omega) (by omega) (by omega))
  go_enter Try.func4, Try.ntmps4
  go_wp2_with (first
    | (go_at_call 17; refine (works_ok _).mono ?_; rintro e w1 ⟨rfl, hb1⟩; have H1 := Lib.hid hb1; clear hb1)
    | (go_at_call 18; refine (bring_any _ _ _ (by omega) (by omega)).mono ?_; rintro e w' ⟨rfl, rfl⟩)
    | (go_at_call 9; refine (len_2 _ _ _ (by omega) (by omega) (by omega) (by omega) (by omega) (by omega)).mono ?_; rintro e w' ⟨rfl, rfl⟩)
    | (go_at_call 11; refine (cut_any _ 2 _ f0 f1 (by omega) (by omega)).mono ?_; rintro e w2 ⟨⟨A', c', rfl, hB, hlt⟩, hbel⟩; have HB := Lib.hid hB; have H2 := Lib.hid hbel; clear hB hlt hbel))
  refine (wholeCut full (acked + r) 2 65536 rfl _ _ _ (by omega) (by omega) HB.out (by omega) (by omega)).mono ?_
  rintro e w3 ⟨rfl, k3, rfl⟩
  rw [B1.out]
  go_wp2_with fail
  refine (wholeCut full acked 2 65536 rfl _ _ _ (by omega) (by omega) (show Bs (w2.drewN k3) _ _ _ from HB.out) (by omega) (by omega)).mono ?_
  rintro e w4 ⟨rfl, k4, rfl⟩
  rw [B2.out]
  go_wp2_with fail
  go_ret
  exact ⟨rfl, belowDrewN (H1.out.trans (H2.out.mono H1.out.size)) _⟩

set_option maxHeartbeats 1000000 in
theorem back_2AD (a0 a1 a2 full k acked r : Int) (w : World) (h0 : a0 % 9007199254740992 = full) (h1 : a1 % 2147483648 = k) (h2 : full - 1 - k = acked) (ka : -1 < acked) (f0 : 0 ≤ full) (f1 : full ≤ 9007199254740991) (k0 : 0 ≤ k) (k1 : k ≤ 2147483647)
    (n0 : 128 < full - acked) (n1 : full - acked ≤ 32768) (hl : 9007199254740991 < full + 32768 - 2) (h3 : a2 % (9007199254740991 - acked + 1) = r) (r0 : 0 ≤ r) (r1 : r ≤ 9007199254740991 - acked) :
    Calls Try.prog 4 #[.int .i64 a0, .int .i64 a1, .int .i64 a2] w fun e w' => e = .returned (.bool true) ∧ Below w.heap.size w w' := by
  have B1 := Lib.hid (back full acked (acked + r) 65536 (by unfold Width; omega) f0 f1 (by omega) (by omega) (by omega) (by omega) (by omega) (by omega))
  have B2 := Lib.hid (back_self full acked 65536 (by unfold Width; omega) f0 f1 (by omega) (by omega) (by omega))
  go_enter Try.func4, Try.ntmps4
  go_wp2_with (first
    | (go_at_call 17; refine (works_ok _).mono ?_; rintro e w1 ⟨rfl, hb1⟩; have H1 := Lib.hid hb1; clear hb1)
    | (go_at_call 18; refine (bring_any _ _ _ (by omega) (by omega)).mono ?_; rintro e w' ⟨rfl, rfl⟩)
    | (go_at_call 9; refine (len_2 _ _ _ (by omega) (by omega) (by omega) (by omega) (by omega) (by omega)).mono ?_; rintro e w' ⟨rfl, rfl⟩)
    | (go_at_call 11; refine (cut_any _ 2 _ f0 f1 (by omega) (by omega)).mono ?_; rintro e w2 ⟨⟨A', c', rfl, hB, hlt⟩, hbel⟩; have HB := Lib.hid hB; have H2 := Lib.hid hbel; clear hB hlt hbel))
  refine (wholeCut full (acked + r) 2 65536 rfl _ _ _ (by omega) (by omega) HB.out (by omega) (by omega)).mono ?_
  rintro e w3 ⟨rfl, k3, rfl⟩
  rw [B1.out]
  go_wp2_with fail
  refine (wholeCut full acked 2 65536 rfl _ _ _ (by omega) (by omega) (show Bs (w2.drewN k3) _ _ _ from HB.out) (by omega) (by omega)).mono ?_
  rintro e w4 ⟨rfl, k4, rfl⟩
  rw [B2.out]
  go_wp2_with fail
  go_ret
  exact ⟨rfl, belowDrewN (H1.out.trans (H2.out.mono H1.out.size)) _⟩

set_option maxHeartbeats 1000000 in
theorem back_2BC (a0 a1 a2 full k r : Int) (w : World) (h0 : a0 % 9007199254740992 = full) (h1 : a1 % 2147483648 = k) (x : Int) (h2 : full - 1 - k = x) (ka : x ≤ -1) (f0 : 0 ≤ full) (f1 : full ≤ 9007199254740991) (k0 : 0 ≤ k) (k1 : k ≤ 2147483647)
    (n0 : 128 < full - (-1)) (n1 : full - (-1) ≤ 32768) (hl : full + 32768 - 2 ≤ 9007199254740991) (h3 : a2 % (full + 32768 - 2 + 1 + 1) = r) (r0 : 0 ≤ r) (r1 : r ≤ full + 32768 - 2 + 1) :
    Calls Try.prog 4 #[.int .i64 a0, .int .i64 a1, .int .i64 a2] w fun e w' => e = .returned (.bool true) ∧ Below w.heap.size w w' := by
  have B1 := Lib.hid (back full (-1) (-1 + r) 65536 (by unfold Width; omega) f0 f1 (by omega) (by omega) (by omega) (by omega) (by omega) (by omega))
  have B2 := Lib.hid (back_self full (-1) 65536 (by unfold Width; omega) f0 f1 (by omega) (by omega) (by omega))
  go_enter Try.func4, Try.ntmps4
  go_wp2_with (first
    | (go_at_call 17; refine (works_ok _).mono ?_; rintro e w1 ⟨rfl, hb1⟩; have H1 := Lib.hid hb1; clear hb1)
    | (go_at_call 18; refine (bring_any _ _ _ (by omega) (by omega)).mono ?_; rintro e w' ⟨rfl, rfl⟩)
    | (go_at_call 9; refine (len_2 _ _ _ (by omega) (by omega) (by omega) (by omega) (by omega) (by omega)).mono ?_; rintro e w' ⟨rfl, rfl⟩)
    | (go_at_call 11; refine (cut_any _ 2 _ f0 f1 (by omega) (by omega)).mono ?_; rintro e w2 ⟨⟨A', c', rfl, hB, hlt⟩, hbel⟩; have HB := Lib.hid hB; have H2 := Lib.hid hbel; clear hB hlt hbel))
  refine (wholeCut full (-1 + r) 2 65536 rfl _ _ _ (by omega) (by omega) HB.out (by omega) (by omega)).mono ?_
  rintro e w3 ⟨rfl, k3, rfl⟩
  rw [B1.out]
  go_wp2_with fail
  refine (wholeCut full (-1) 2 65536 rfl _ _ _ (by omega) (by omega) (show Bs (w2.drewN k3) _ _ _ from HB.out) (by omega) (by omega)).mono ?_
  rintro e w4 ⟨rfl, k4, rfl⟩
  rw [B2.out]
  go_wp2_with fail
  go_ret
  exact ⟨rfl, belowDrewN (H1.out.trans (H2.out.mono H1.out.size)) _⟩

set_option maxHeartbeats 1000000 in
theorem back_3AC (a0 a1 a2 full k acked r : Int) (w : World) (h0 : a0 % 9007199254740992 = full) (h1 : a1 % 2147483648 = k) (h2 : full - 1 - k = acked) (ka : -1 < acked) (f0 : 0 ≤ full) (f1 : full ≤ 9007199254740991) (k0 : 0 ≤ k) (k1 : k ≤ 2147483647)
    (n0 : 32768 < full - acked) (n1 : full - acked ≤ 8388608) (hl : full + 8388608 - 2 ≤ 9007199254740991) (h3 : a2 % (full + 8388608 - 2 - acked + 1) = r) (r0 : 0 ≤ r) (r1 : r ≤ full + 8388608 - 2 - acked) :
    Calls Try.prog 4 #[.int .i64 a0, .int .i64 a1, .int .i64 a2] w fun e w' => e = .returned (.bool true) ∧ Below w.heap.size w w' := by
  have B1 := Lib.hid (back full acked (acked + r) 16777216 (by unfold Width; omega) f0 f1 (by omega) (by omega) (by omega) (by omega) (by omega) (by omega))
  have B2 := Lib.hid (back_self full acked 16777216 (by unfold Width; omega) f0 f1 (by omega) (by omega) (by omega))
  go_enter Try.func4, Try.ntmps4
  go_wp2_with (first
    | (go_at_call 17; refine (works_ok _).mono ?_; rintro e w1 ⟨rfl, hb1⟩; have H1 := Lib.hid hb1; clear hb1)
    | (go_at_call 18; refine (bring_any _ _ _ (by omega) (by omega)).mono ?_; rintro e w' ⟨rfl, rfl⟩)
    | (go_at_call 9; refine (len_3 _ _ _ (by omega) (by omega) (by omega) (by omega) (by omega) (by omega)).mono ?_; rintro e w' ⟨rfl, rfl⟩)
    | (go_at_call 11; refine (cut_any _ 3 _ f0 f1 (by omega) (by omega)).mono ?_; rintro e w2 ⟨⟨A', c', rfl, hB, hlt⟩, hbel⟩; have HB := Lib.hid hB; have H2 := Lib.hid hbel; clear hB hlt hbel))
  refine (wholeCut full (acked + r) 3 16777216 rfl _ _ _ (by omega) (by omega) HB.out (by omega) (by omega)).mono ?_
  rintro e w3 ⟨rfl, k3, rfl⟩
  rw [B1.out]
  go_wp2_with fail
  refine (wholeCut full acked 3 16777216 rfl _ _ _ (by omega) (by omega) (show Bs (w2.drewN k3) _ _ _ from HB.out) (by omega) (by omega)).mono ?_
  rintro e w4 ⟨rfl, k4, rfl⟩
  rw [B2.out]
  go_wp2_with fail
  go_ret
  exact ⟨rfl, belowDrewN (H1.out.trans (H2.out.mono H1.out.size)) _⟩

set_option maxHeartbeats 1000000 in
theorem back_3AD (a0 a1 a2 full k acked r : Int) (w : World) (h0 : a0 % 9007199254740992 = full) (h1 : a1 % 2147483648 = k) (h2 : full - 1 - k = acked) (ka : -1 < acked) (f0 : 0 ≤ full) (f1 : full ≤ 9007199254740991) (k0 : 0 ≤ k) (k1 : k ≤ 2147483647)
    (n0 : 32768 < full - acked) (n1 : full - acked ≤ 8388608) (hl : 9007199254740991 < full + 8388608 - 2) (h3 : a2 % (9007199254740991 - acked + 1) = r) (r0 : 0 ≤ r) (r1 : r ≤ 9007199254740991 - acked) :
    Calls Try.prog 4 #[.int .i64 a0, .int .i64 a1, .int .i64 a2] w fun e w' => e = .returned (.bool true) ∧ Below w.heap.size w w' := by
  have B1 := Lib.hid (back full acked (acked + r) 16777216 (by unfold Width; omega) f0 f1 (by omega) (by omega) (by omega) (by omega) (by omega) (by omega))
  have B2 := Lib.hid (back_self full acked 16777216 (by unfold Width; omega) f0 f1 (by omega) (by omega) (by omega))
  go_enter Try.func4, Try.ntmps4
  go_wp2_with (first
    | (go_at_call 17; refine (works_ok _).mono ?_; rintro e w1 ⟨rfl, hb1⟩; have H1 := Lib.hid hb1; clear hb1)
    | (go_at_call 18; refine (bring_any _ _ _ (by omega) (by omega)).mono ?_; rintro e w' ⟨rfl, rfl⟩)
    | (go_at_call 9; refine (len_3 _ _ _ (by omega) (by omega) (by omega) (by omega) (by omega) (by omega)).mono ?_; rintro e w' ⟨rfl, rfl⟩)
    | (go_at_call 11; refine (cut_any _ 3 _ f0 f1 (by omega) (by omega)).mono ?_; rintro e w2 ⟨⟨A', c', rfl, hB, hlt⟩, hbel⟩; have HB := Lib.hid hB; have H2 := Lib.hid hbel; clear hB hlt hbel))
  refine (wholeCut full (acked + r) 3 16777216 rfl _ _ _ (by omega) (by omega) HB.out (by omega) (by omega)).mono ?_
  rintro e w3 ⟨rfl, k3, rfl⟩
  rw [B1.out]
  go_wp2_with fail
  refine (wholeCut full acked 3 16777216 rfl _ _ _ (by omega) (by omega) (show Bs (w2.drewN k3) _ _ _ from HB.out) (by omega) (by omega)).mono ?_
  rintro e w4 ⟨rfl, k4, rfl⟩
  rw [B2.out]
  go_wp2_with fail
  go_ret
  exact ⟨rfl, belowDrewN (H1.out.trans (H2.out.mono H1.out.size)) _⟩

set_option maxHeartbeats 1000000 in
theorem back_3BC (a0 a1 a2 full k r : Int) (w : World) (h0 : a0 % 9007199254740992 = full) (h1 : a1 % 2147483648 = k) (x : Int) (h2 : full - 1 - k = x) (ka : x ≤ -1) (f0 : 0 ≤ full) (f1 : full ≤ 9007199254740991) (k0 : 0 ≤ k) (k1 : k ≤ 2147483647)
    (n0 : 32768 < full - (-1)) (n1 : full - (-1) ≤ 8388608) (hl : full + 8388608 - 2 ≤ 9007199254740991) (h3 : a2 % (full + 8388608 - 2 + 1 + 1) = r) (r0 : 0 ≤ r) (r1 : r ≤ full + 8388608 - 2 + 1) :
    Calls Try.prog 4 #[.int .i64 a0, .int .i64 a1, .int .i64 a2] w fun e w' => e = .returned (.bool true) ∧ Below w.heap.size w w' := by
  have B1 := Lib.hid (back full (-1) (-1 + r) 16777216 (by unfold Width; omega) f0 f1 (by omega) (by omega) (by omega) (by omega) (by omega) (by omega))
  have B2 := Lib.hid (back_self full (-1) 16777216 (by unfold Width; omega) f0 f1 (by omega) (by omega) (by omega))
  go_enter Try.func4, Try.ntmps4
  go_wp2_with (first
    | (go_at_call 17; refine (works_ok _).mono ?_; rintro e w1 ⟨rfl, hb1⟩; have H1 := Lib.hid hb1; clear hb1)
    | (go_at_call 18; refine (bring_any _ _ _ (by omega) (by omega)).mono ?_; rintro e w' ⟨rfl, rfl⟩)
    | (go_at_call 9; refine (len_3 _ _ _ (by omega) (by omega) (by omega) (by omega) (by omega) (by omega)).mono ?_; rintro e w' ⟨rfl, rfl⟩)
    | (go_at_call 11; refine (cut_any _ 3 _ f0 f1 (by omega) (by omega)).mono ?_; rintro e w2 ⟨⟨A', c', rfl, hB, hlt⟩, hbel⟩; have HB := Lib.hid hB; have H2 := Lib.hid hbel; clear hB hlt hbel))
  refine (wholeCut full (-1 + r) 3 16777216 rfl _ _ _ (by omega) (by omega) HB.out (by omega) (by omega)).mono ?_
  rintro e w3 ⟨rfl, k3, rfl⟩
  rw [B1.out]
  go_wp2_with fail
  refine (wholeCut full (-1) 3 16777216 rfl _ _ _ (by omega) (by omega) (show Bs (w2.drewN k3) _ _ _ from HB.out) (by omega) (by omega)).mono ?_
  rintro e w4 ⟨rfl, k4, rfl⟩
  rw [B2.out]
  go_wp2_with fail
  go_ret
  exact ⟨rfl, belowDrewN (H1.out.trans (H2.out.mono H1.out.size)) _⟩

set_option maxHeartbeats 1000000 in
theorem back_4AC (a0 a1 a2 full k acked r : Int) (w : World) (h0 : a0 % 9007199254740992 = full) (h1 : a1 % 2147483648 = k) (h2 : full - 1 - k = acked) (ka : -1 < acked) (f0 : 0 ≤ full) (f1 : full ≤ 9007199254740991) (k0 : 0 ≤ k) (k1 : k ≤ 2147483647)
    (n0 : 8388608 < full - acked) (n1 : full - acked ≤ 2147483648) (hl : full + 2147483648 - 2 ≤ 9007199254740991) (h3 : a2 % (full + 2147483648 - 2 - acked + 1) = r) (r0 : 0 ≤ r) (r1 : r ≤ full + 2147483648 - 2 - acked) :
    Calls Try.prog 4 #[.int .i64 a0, .int .i64 a1, .int .i64 a2] w fun e w' => e = .returned (.bool true) ∧ Below w.heap.size w w' := by
  have B1 := Lib.hid (back full acked (acked + r) 4294967296 (by unfold Width; omega) f0 f1 (by omega) (by omega) (by omega) (by omega) (by omega) (by omega))
  have B2 := Lib.hid (back_self full acked 4294967296 (by unfold Width; omega) f0 f1 (by omega) (by omega) (by omega))
  go_enter Try.func4, Try.ntmps4
  go_wp2_with (first
    | (go_at_call 17; refine (works_ok _).mono ?_; rintro e w1 ⟨rfl, hb1⟩; have H1 := Lib.hid hb1; clear hb1)
    | (go_at_call 18; refine (bring_any _ _ _ (by omega) (by omega)).mono ?_; rintro e w' ⟨rfl, rfl⟩)
    | (go_at_call 9; refine (len_4 _ _ _ (by omega) (by omega) (by omega) (by omega) (by omega) (by omega)).mono ?_; rintro e w' ⟨rfl, rfl⟩)
    | (go_at_call 11; refine (cut_any _ 4 _ f0 f1 (by omega) (by omega)).mono ?_; rintro e w2 ⟨⟨A', c', rfl, hB, hlt⟩, hbel⟩; have HB := Lib.hid hB; have H2 := Lib.hid hbel; clear hB hlt hbel))
  refine (wholeCut full (acked + r) 4 4294967296 rfl _ _ _ (by omega) (by omega) HB.out (by omega) (by omega)).mono ?_
  rintro e w3 ⟨rfl, k3, rfl⟩
  rw [B1.out]
  go_wp2_with fail
  refine (wholeCut full acked 4 4294967296 rfl _ _ _ (by omega) (by omega) (show Bs (w2.drewN k3) _ _ _ from HB.out) (by omega) (by omega)).mono ?_
  rintro e w4 ⟨rfl, k4, rfl⟩
  rw [B2.out]
  go_wp2_with fail
  go_ret
  exact ⟨rfl, belowDrewN (H1.out.trans (H2.out.mono H1.out.size)) _⟩

set_option maxHeartbeats 1000000 in
theorem back_4AD (a0 a1 a2 full k acked r : Int) (w : World) (h0 : a0 % 9007199254740992 = full) (h1 : a1 % 2147483648 = k) (h2 : full - 1 - k = acked) (ka : -1 < acked) (f0 : 0 ≤ full) (f1 : full ≤ 9007199254740991) (k0 : 0 ≤ k) (k1 : k ≤ 2147483647)
    (n0 : 8388608 < full - acked) (n1 : full - acked ≤ 2147483648) (hl : 9007199254740991 < full + 2147483648 - 2) (h3 : a2 % (9007199254740991 - acked + 1) = r) (r0 : 0 ≤ r) (r1 : r ≤ 9007199254740991 - acked) :
    Calls Try.prog 4 #[.int .i64 a0, .int .i64 a1, .int .i64 a2] w fun e w' => e = .returned (.bool true) ∧ Below w.heap.size w w' := by
  have B1 := Lib.hid (back full acked (acked + r) 4294967296 (by unfold Width; omega) f0 f1 (by omega) (by omega) (by omega) (by omega) (by omega) (by omega))
  have B2 := Lib.hid (back_self full acked 4294967296 (by unfold Width; omega) f0 f1 (by omega) (by omega) (by omega))
  go_enter Try.func4, Try.ntmps4
  go_wp2_with (first
    | (go_at_call 17; refine (works_ok _).mono ?_; rintro e w1 ⟨rfl, hb1⟩; have H1 := Lib.hid hb1; clear hb1)
    | (go_at_call 18; refine (bring_any _ _ _ (by omega) (by omega)).mono ?_; rintro e w' ⟨rfl, rfl⟩)
    | (go_at_call 9; refine (len_4 _ _ _ (by omega) (by omega) (by omega) (by omega) (by omega) (by omega)).mono ?_; rintro e w' ⟨rfl, rfl⟩)
    | (go_at_call 11; refine (cut_any _ 4 _ f0 f1 (by omega) (by omega)).mono ?_; rintro e w2 ⟨⟨A', c', rfl, hB, hlt⟩, hbel⟩; have HB := Lib.hid hB; have H2 := Lib.hid hbel; clear hB hlt hbel))
  refine (wholeCut full (acked + r) 4 4294967296 rfl _ _ _ (by omega) (by omega) HB.out (by omega) (by omega)).mono ?_
  rintro e w3 ⟨rfl, k3, rfl⟩
  rw [B1.out]
  go_wp2_with fail
  refine (wholeCut full acked 4 4294967296 rfl _ _ _ (by omega) (by omega) (show Bs (w2.drewN k3) _ _ _ from HB.out) (by omega) (by omega)).mono ?_
  rintro e w4 ⟨rfl, k4, rfl⟩
  rw [B2.out]
  go_wp2_with fail
  go_ret
  exact ⟨rfl, belowDrewN (H1.out.trans (H2.out.mono H1.out.size)) _⟩

set_option maxHeartbeats 1000000 in
theorem back_4BC (a0 a1 a2 full k r : Int) (w : World) (h0 : a0 % 9007199254740992 = full) (h1 : a1 % 2147483648 = k) (x : Int) (h2 : full - 1 - k = x) (ka : x ≤ -1) (f0 : 0 ≤ full) (f1 : full ≤ 9007199254740991) (k0 : 0 ≤ k) (k1 : k ≤ 2147483647)
    (n0 : 8388608 < full - (-1)) (n1 : full - (-1) ≤ 2147483648) (hl : full + 2147483648 - 2 ≤ 9007199254740991) (h3 : a2 % (full + 2147483648 - 2 + 1 + 1) = r) (r0 : 0 ≤ r) (r1 : r ≤ full + 2147483648 - 2 + 1) :
    Calls Try.prog 4 #[.int .i64 a0, .int .i64 a1, .int .i64 a2] w fun e w' => e = .returned (.bool true) ∧ Below w.heap.size w w' := by
  have B1 := Lib.hid (back full (-1) (-1 + r) 4294967296 (by unfold Width; omega) f0 f1 (by omega) (by omega) (by omega) (by omega) (by omega) (by omega))
  have B2 := Lib.hid (back_self full (-1) 4294967296 (by unfold Width; omega) f0 f1 (by omega) (by omega) (by omega))
  go_enter Try.func4, Try.ntmps4
  go_wp2_with (first
    | (go_at_call 17; refine (works_ok _).mono ?_; rintro e w1 ⟨rfl, hb1⟩; have H1 := Lib.hid hb1; clear hb1)
    | (go_at_call 18; refine (bring_any _ _ _ (by omega) (by omega)).mono ?_; rintro e w' ⟨rfl, rfl⟩)
    | (go_at_call 9; refine (len_4 _ _ _ (by omega) (by omega) (by omega) (by omega) (by omega) (by omega)).mono ?_; rintro e w' ⟨rfl, rfl⟩)
    | (go_at_call 11; refine (cut_any _ 4 _ f0 f1 (by omega) (by omega)).mono ?_; rintro e w2 ⟨⟨A', c', rfl, hB, hlt⟩, hbel⟩; have HB := Lib.hid hB; have H2 := Lib.hid hbel; clear hB hlt hbel))
  refine (wholeCut full (-1 + r) 4 4294967296 rfl _ _ _ (by omega) (by omega) HB.out (by omega) (by omega)).mono ?_
  rintro e w3 ⟨rfl, k3, rfl⟩
  rw [B1.out]
  go_wp2_with fail
  refine (wholeCut full (-1) 4 4294967296 rfl _ _ _ (by omega) (by omega) (show Bs (w2.drewN k3) _ _ _ from HB.out) (by omega) (by omega)).mono ?_
  rintro e w4 ⟨rfl, k4, rfl⟩
  rw [B2.out]
  go_wp2_with fail
  go_ret
  exact ⟨rfl, belowDrewN (H1.out.trans (H2.out.mono H1.out.size)) _⟩

theorem back_walk (a0 a1 a2 : Int) (w : World) : Calls Try.prog 4 #[.int .i64 a0, .int .i64 a1, .int .i64 a2] w fun e w' => e = .returned (.bool true) ∧ Below w.heap.size w w' := by
  have p0 := Int.emod_nonneg a0 (b := 9007199254740992) (by decide)
  have p1 := Int.emod_lt_of_pos a0 (b := 9007199254740992) (by decide)
  have p2 := Int.emod_nonneg a1 (b := 2147483648) (by decide)
  have p3 := Int.emod_lt_of_pos a1 (b := 2147483648) (by decide)
  obtain ⟨full, hf⟩ : ∃ full, a0 % 9007199254740992 = full := ⟨_, rfl⟩
  obtain ⟨k, hk⟩ : ∃ k, a1 % 2147483648 = k := ⟨_, rfl⟩
  rw [hf] at p0 p1
  rw [hk] at p2 p3
  have md : ∀ m : Int, 1 ≤ m → 0 ≤ a2 % m ∧ a2 % m < m := fun m hm => ⟨Int.emod_nonneg a2 (by omega), Int.emod_lt_of_pos a2 (by omega)⟩
  by_cases ha : -1 < full - 1 - k
  · obtain ⟨acked, hA⟩ : ∃ acked, full - 1 - k = acked := ⟨_, rfl⟩
    rw [hA] at ha
    by_cases c1 : full - acked ≤ 128
    · by_cases hl : full + 128 - 2 ≤ 9007199254740991
      · have m := md (full + 128 - 2 - acked + 1) (by omega)
        exact back_1AC a0 a1 a2 full k acked _ w hf hk hA ha p0 (by omega) p2 (by omega) (by omega) (by omega) rfl (by omega) (by omega)
      · have m := md (9007199254740991 - acked + 1) (by omega)
        exact back_1AD a0 a1 a2 full k acked _ w hf hk hA ha p0 (by omega) p2 (by omega) (by omega) (by omega) rfl (by omega) (by omega)
    by_cases c2 : full - acked ≤ 32768
    · by_cases hl : full + 32768 - 2 ≤ 9007199254740991
      · have m := md (full + 32768 - 2 - acked + 1) (by omega)
        exact back_2AC a0 a1 a2 full k acked _ w hf hk hA ha p0 (by omega) p2 (by omega) (by omega) (by omega) (by omega) rfl (by omega) (by omega)
      · have m := md (9007199254740991 - acked + 1) (by omega)
        exact back_2AD a0 a1 a2 full k acked _ w hf hk hA ha p0 (by omega) p2 (by omega) (by omega) (by omega) (by omega) rfl (by omega) (by omega)
    by_cases c3 : full - acked ≤ 8388608
    · by_cases hl : full + 8388608 - 2 ≤ 9007199254740991
      · have m := md (full + 8388608 - 2 - acked + 1) (by omega)
        exact back_3AC a0 a1 a2 full k acked _ w hf hk hA ha p0 (by omega) p2 (by omega) (by omega) (by omega) (by omega) rfl (by omega) (by omega)
      · have m := md (9007199254740991 - acked + 1) (by omega)
        exact back_3AD a0 a1 a2 full k acked _ w hf hk hA ha p0 (by omega) p2 (by omega) (by omega) (by omega) (by omega) rfl (by omega) (by omega)
    by_cases hl : full + 2147483648 - 2 ≤ 9007199254740991
    · have m := md (full + 2147483648 - 2 - acked + 1) (by omega)
      exact back_4AC a0 a1 a2 full k acked _ w hf hk hA ha p0 (by omega) p2 (by omega) (by omega) (by omega) (by omega) rfl (by omega) (by omega)
    · have m := md (9007199254740991 - acked + 1) (by omega)
      exact back_4AD a0 a1 a2 full k acked _ w hf hk hA ha p0 (by omega) p2 (by omega) (by omega) (by omega) (by omega) rfl (by omega) (by omega)
  · by_cases c1 : full - (-1) ≤ 128
    · have m := md (full + 128 - 2 + 1 + 1) (by omega)
      exact back_1BC a0 a1 a2 full k _ w hf hk _ rfl (by omega) p0 (by omega) p2 (by omega) (by omega) (by omega) rfl (by omega) (by omega)
    by_cases c2 : full - (-1) ≤ 32768
    · have m := md (full + 32768 - 2 + 1 + 1) (by omega)
      exact back_2BC a0 a1 a2 full k _ w hf hk _ rfl (by omega) p0 (by omega) p2 (by omega) (by omega) (by omega) (by omega) rfl (by omega) (by omega)
    by_cases c3 : full - (-1) ≤ 8388608
    · have m := md (full + 8388608 - 2 + 1 + 1) (by omega)
      exact back_3BC a0 a1 a2 full k _ w hf hk _ rfl (by omega) p0 (by omega) p2 (by omega) (by omega) (by omega) (by omega) rfl (by omega) (by omega)
    have m := md (full + 2147483648 - 2 + 1 + 1) (by omega)
    exact back_4BC a0 a1 a2 full k _ w hf hk _ rfl (by omega) p0 (by omega) p2 (by omega) (by omega) (by omega) (by omega) rfl (by omega) (by omega)
end Go.Proofs.Ytgmgbhpecnmfeaa
