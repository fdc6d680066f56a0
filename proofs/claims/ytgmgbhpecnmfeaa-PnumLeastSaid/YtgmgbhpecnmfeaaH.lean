/-
  The walk of PnumLeast, case by case.
-/
import Derived.Test.YtgmgbhpecnmfeaaG
namespace Go.Proofs.Ytgmgbhpecnmfeaa
open Go.RowKit (wrap32 wrap64)
open Go.RowKit
set_option linter.unusedVariables false

set_option maxHeartbeats 1000000 in
theorem least_1A0 (a0 a1 full k acked : Int) (w : World) (h0 : a0 % 9007199254740992 = full) (h1 : a1 % 2147483648 = k) (h2 : full - 1 - k = acked) (ka : -1 < acked) (f0 : 0 ≤ full) (f1 : full ≤ 9007199254740991) (k0 : 0 ≤ k) (k1 : k ≤ 2147483647)
    (n1 : full - acked ≤ 128)  :
    Calls Try.prog 5 #[.int .i64 a0, .int .i64 a1] w fun e w' => e = .returned (.bool true) ∧ Below w.heap.size w w' := by
  go_enter Try.func5, Try.ntmps5
  go_wp2_with (first
    | (go_at_call 17; refine (works_ok _).mono ?_; rintro e w1 ⟨rfl, hb1⟩; have H1 := Lib.hid hb1; clear hb1)
    | (go_at_call 18; refine (bring_any _ _ _ (by omega) (by omega)).mono ?_; rintro e w' ⟨rfl, rfl⟩)
    | (go_at_call 9; refine (len_1 _ _ _ (by omega) (by omega) (by omega) (by omega) (by omega)).mono ?_; rintro e w' ⟨rfl, rfl⟩))
  go_ret
  exact ⟨rfl, H1.out⟩

set_option maxHeartbeats 1000000 in
theorem least_2A1 (a0 a1 full k acked : Int) (w : World) (h0 : a0 % 9007199254740992 = full) (h1 : a1 % 2147483648 = k) (h2 : full - 1 - k = acked) (ka : -1 < acked) (f0 : 0 ≤ full) (f1 : full ≤ 9007199254740991) (k0 : 0 ≤ k) (k1 : k ≤ 2147483647)
    (n0 : 128 < full - acked) (n1 : full - acked ≤ 32768) (v : Int) (hv : wholeV acked (full % 256) 256 = v) (cv : v < full) :
    Calls Try.prog 5 #[.int .i64 a0, .int .i64 a1] w fun e w' => e = .returned (.bool true) ∧ Below w.heap.size w w' := by
  have HV := Lib.hid hv
  clear hv
  go_enter Try.func5, Try.ntmps5
  go_wp2_with (first
    | (go_at_call 17; refine (works_ok _).mono ?_; rintro e w1 ⟨rfl, hb1⟩; have H1 := Lib.hid hb1; clear hb1)
    | (go_at_call 18; refine (bring_any _ _ _ (by omega) (by omega)).mono ?_; rintro e w' ⟨rfl, rfl⟩)
    | (go_at_call 9; refine (len_2 _ _ _ (by omega) (by omega) (by omega) (by omega) (by omega) (by omega)).mono ?_; rintro e w' ⟨rfl, rfl⟩)
    | (go_at_call 11; refine (cut_any _ 1 _ f0 f1 (by omega) (by omega)).mono ?_; rintro e w2 ⟨⟨A', c', rfl, hB, hlt⟩, hbel⟩; have HB := Lib.hid hB; have H2 := Lib.hid hbel; clear hB hlt hbel))
  refine (wholeCut full acked 1 256 rfl _ _ _ (by omega) (by omega) HB.out (by omega) (by omega)).mono ?_
  rintro e w3 ⟨rfl, k3, rfl⟩
  rw [HV.out]
  go_wp2_with fail
  refine (works_ok _).mono ?_
  rintro e w4 ⟨rfl, hb⟩
  have H4 := Lib.hid ((belowDrewN H2.out k3).trans (hb.mono H2.out.size))
  clear hb
  go_wp2_with fail
  go_ret
  exact ⟨rfl, H4.out⟩

set_option maxHeartbeats 1000000 in
theorem least_2A2 (a0 a1 full k acked : Int) (w : World) (h0 : a0 % 9007199254740992 = full) (h1 : a1 % 2147483648 = k) (h2 : full - 1 - k = acked) (ka : -1 < acked) (f0 : 0 ≤ full) (f1 : full ≤ 9007199254740991) (k0 : 0 ≤ k) (k1 : k ≤ 2147483647)
    (n0 : 128 < full - acked) (n1 : full - acked ≤ 32768) (v : Int) (hv : wholeV acked (full % 256) 256 = v) (cv : full ≤ v) (ce : full - acked - 1 = 128) :
    Calls Try.prog 5 #[.int .i64 a0, .int .i64 a1] w fun e w' => e = .returned (.bool true) ∧ Below w.heap.size w w' := by
  have HV := Lib.hid hv
  clear hv
  have ce' : (full - acked - 1 == 128) = true := beq_iff_eq.2 (by omega)
  have CE := Lib.hid ce
  clear ce
  go_enter Try.func5, Try.ntmps5
  go_wp2_with (first
    | (go_at_call 17; refine (works_ok _).mono ?_; rintro e w1 ⟨rfl, hb1⟩; have H1 := Lib.hid hb1; clear hb1)
    | (go_at_call 18; refine (bring_any _ _ _ (by omega) (by omega)).mono ?_; rintro e w' ⟨rfl, rfl⟩)
    | (go_at_call 9; refine (len_2 _ _ _ (by omega) (by omega) (by omega) (by omega) (by omega) (by omega)).mono ?_; rintro e w' ⟨rfl, rfl⟩)
    | (go_at_call 11; refine (cut_any _ 1 _ f0 f1 (by omega) (by omega)).mono ?_; rintro e w2 ⟨⟨A', c', rfl, hB, hlt⟩, hbel⟩; have HB := Lib.hid hB; have H2 := Lib.hid hbel; clear hB hlt hbel))
  refine (wholeCut full acked 1 256 rfl _ _ _ (by omega) (by omega) HB.out (by omega) (by omega)).mono ?_
  rintro e w3 ⟨rfl, k3, rfl⟩
  rw [HV.out]
  go_wp2_with fail
  refine (works_ok _).mono ?_
  rintro e w4 ⟨rfl, hb⟩
  have H4 := Lib.hid ((belowDrewN H2.out k3).trans (hb.mono H2.out.size))
  clear hb
  go_wp2_with fail
  go_ret
  exact ⟨rfl, H4.out⟩

set_option maxHeartbeats 1000000 in
theorem least_2A3 (a0 a1 full k acked : Int) (w : World) (h0 : a0 % 9007199254740992 = full) (h1 : a1 % 2147483648 = k) (h2 : full - 1 - k = acked) (ka : -1 < acked) (f0 : 0 ≤ full) (f1 : full ≤ 9007199254740991) (k0 : 0 ≤ k) (k1 : k ≤ 2147483647)
    (n0 : 128 < full - acked) (n1 : full - acked ≤ 32768) (v : Int) (hv : wholeV acked (full % 256) 256 = v) (cv : full ≤ v) (ce : full - acked - 1 ≠ 128) (cl : full < 256) :
    Calls Try.prog 5 #[.int .i64 a0, .int .i64 a1] w fun e w' => e = .returned (.bool true) ∧ Below w.heap.size w w' := by
  have HV := Lib.hid hv
  clear hv
  have ce' : (full - acked - 1 == 128) = false := beq_eq_false_iff_ne.2 (by omega)
  clear ce
  go_enter Try.func5, Try.ntmps5
  go_wp2_with (first
    | (go_at_call 17; refine (works_ok _).mono ?_; rintro e w1 ⟨rfl, hb1⟩; have H1 := Lib.hid hb1; clear hb1)
    | (go_at_call 18; refine (bring_any _ _ _ (by omega) (by omega)).mono ?_; rintro e w' ⟨rfl, rfl⟩)
    | (go_at_call 9; refine (len_2 _ _ _ (by omega) (by omega) (by omega) (by omega) (by omega) (by omega)).mono ?_; rintro e w' ⟨rfl, rfl⟩)
    | (go_at_call 11; refine (cut_any _ 1 _ f0 f1 (by omega) (by omega)).mono ?_; rintro e w2 ⟨⟨A', c', rfl, hB, hlt⟩, hbel⟩; have HB := Lib.hid hB; have H2 := Lib.hid hbel; clear hB hlt hbel))
  refine (wholeCut full acked 1 256 rfl _ _ _ (by omega) (by omega) HB.out (by omega) (by omega)).mono ?_
  rintro e w3 ⟨rfl, k3, rfl⟩
  rw [HV.out]
  go_wp2_with fail
  refine (works_ok _).mono ?_
  rintro e w4 ⟨rfl, hb⟩
  have H4 := Lib.hid ((belowDrewN H2.out k3).trans (hb.mono H2.out.size))
  clear hb
  go_wp2_with fail
  go_ret
  exact ⟨rfl, H4.out⟩

set_option maxHeartbeats 1000000 in
theorem least_3A1 (a0 a1 full k acked : Int) (w : World) (h0 : a0 % 9007199254740992 = full) (h1 : a1 % 2147483648 = k) (h2 : full - 1 - k = acked) (ka : -1 < acked) (f0 : 0 ≤ full) (f1 : full ≤ 9007199254740991) (k0 : 0 ≤ k) (k1 : k ≤ 2147483647)
    (n0 : 32768 < full - acked) (n1 : full - acked ≤ 8388608) (v : Int) (hv : wholeV acked (full % 65536) 65536 = v) (cv : v < full) :
    Calls Try.prog 5 #[.int .i64 a0, .int .i64 a1] w fun e w' => e = .returned (.bool true) ∧ Below w.heap.size w w' := by
  have HV := Lib.hid hv
  clear hv
  go_enter Try.func5, Try.ntmps5
  go_wp2_with (first
    | (go_at_call 17; refine (works_ok _).mono ?_; rintro e w1 ⟨rfl, hb1⟩; have H1 := Lib.hid hb1; clear hb1)
    | (go_at_call 18; refine (bring_any _ _ _ (by omega) (by omega)).mono ?_; rintro e w' ⟨rfl, rfl⟩)
    | (go_at_call 9; refine (len_3 _ _ _ (by omega) (by omega) (by omega) (by omega) (by omega) (by omega)).mono ?_; rintro e w' ⟨rfl, rfl⟩)
    | (go_at_call 11; refine (cut_any _ 2 _ f0 f1 (by omega) (by omega)).mono ?_; rintro e w2 ⟨⟨A', c', rfl, hB, hlt⟩, hbel⟩; have HB := Lib.hid hB; have H2 := Lib.hid hbel; clear hB hlt hbel))
  refine (wholeCut full acked 2 65536 rfl _ _ _ (by omega) (by omega) HB.out (by omega) (by omega)).mono ?_
  rintro e w3 ⟨rfl, k3, rfl⟩
  rw [HV.out]
  go_wp2_with fail
  refine (works_ok _).mono ?_
  rintro e w4 ⟨rfl, hb⟩
  have H4 := Lib.hid ((belowDrewN H2.out k3).trans (hb.mono H2.out.size))
  clear hb
  go_wp2_with fail
  go_ret
  exact ⟨rfl, H4.out⟩

set_option maxHeartbeats 1000000 in
theorem least_3A2 (a0 a1 full k acked : Int) (w : World) (h0 : a0 % 9007199254740992 = full) (h1 : a1 % 2147483648 = k) (h2 : full - 1 - k = acked) (ka : -1 < acked) (f0 : 0 ≤ full) (f1 : full ≤ 9007199254740991) (k0 : 0 ≤ k) (k1 : k ≤ 2147483647)
    (n0 : 32768 < full - acked) (n1 : full - acked ≤ 8388608) (v : Int) (hv : wholeV acked (full % 65536) 65536 = v) (cv : full ≤ v) (ce : full - acked - 1 = 32768) :
    Calls Try.prog 5 #[.int .i64 a0, .int .i64 a1] w fun e w' => e = .returned (.bool true) ∧ Below w.heap.size w w' := by
  have HV := Lib.hid hv
  clear hv
  have ce' : (full - acked - 1 == 32768) = true := beq_iff_eq.2 (by omega)
  have CE := Lib.hid ce
  clear ce
  go_enter Try.func5, Try.ntmps5
  go_wp2_with (first
    | (go_at_call 17; refine (works_ok _).mono ?_; rintro e w1 ⟨rfl, hb1⟩; have H1 := Lib.hid hb1; clear hb1)
    | (go_at_call 18; refine (bring_any _ _ _ (by omega) (by omega)).mono ?_; rintro e w' ⟨rfl, rfl⟩)
    | (go_at_call 9; refine (len_3 _ _ _ (by omega) (by omega) (by omega) (by omega) (by omega) (by omega)).mono ?_; rintro e w' ⟨rfl, rfl⟩)
    | (go_at_call 11; refine (cut_any _ 2 _ f0 f1 (by omega) (by omega)).mono ?_; rintro e w2 ⟨⟨A', c', rfl, hB, hlt⟩, hbel⟩; have HB := Lib.hid hB; have H2 := Lib.hid hbel; clear hB hlt hbel))
  refine (wholeCut full acked 2 65536 rfl _ _ _ (by omega) (by omega) HB.out (by omega) (by omega)).mono ?_
  rintro e w3 ⟨rfl, k3, rfl⟩
  rw [HV.out]
  go_wp2_with fail
  refine (works_ok _).mono ?_
  rintro e w4 ⟨rfl, hb⟩
  have H4 := Lib.hid ((belowDrewN H2.out k3).trans (hb.mono H2.out.size))
  clear hb
  go_wp2_with fail
  go_ret
  exact ⟨rfl, H4.out⟩

set_option maxHeartbeats 1000000 in
theorem least_3A3 (a0 a1 full k acked : Int) (w : World) (h0 : a0 % 9007199254740992 = full) (h1 : a1 % 2147483648 = k) (h2 : full - 1 - k = acked) (ka : -1 < acked) (f0 : 0 ≤ full) (f1 : full ≤ 9007199254740991) (k0 : 0 ≤ k) (k1 : k ≤ 2147483647)
    (n0 : 32768 < full - acked) (n1 : full - acked ≤ 8388608) (v : Int) (hv : wholeV acked (full % 65536) 65536 = v) (cv : full ≤ v) (ce : full - acked - 1 ≠ 32768) (cl : full < 65536) :
    Calls Try.prog 5 #[.int .i64 a0, .int .i64 a1] w fun e w' => e = .returned (.bool true) ∧ Below w.heap.size w w' := by
  have HV := Lib.hid hv
  clear hv
  have ce' : (full - acked - 1 == 32768) = false := beq_eq_false_iff_ne.2 (by omega)
  clear ce
  go_enter Try.func5, Try.ntmps5
  go_wp2_with (first
    | (go_at_call 17; refine (works_ok _).mono ?_; rintro e w1 ⟨rfl, hb1⟩; have H1 := Lib.hid hb1; clear hb1)
    | (go_at_call 18; refine (bring_any _ _ _ (by omega) (by omega)).mono ?_; rintro e w' ⟨rfl, rfl⟩)
    | (go_at_call 9; refine (len_3 _ _ _ (by omega) (by omega) (by omega) (by omega) (by omega) (by omega)).mono ?_; rintro e w' ⟨rfl, rfl⟩)
    | (go_at_call 11; refine (cut_any _ 2 _ f0 f1 (by omega) (by omega)).mono ?_; rintro e w2 ⟨⟨A', c', rfl, hB, hlt⟩, hbel⟩; have HB := Lib.hid hB; have H2 := Lib.hid hbel; clear hB hlt hbel))
  refine (wholeCut full acked 2 65536 rfl _ _ _ (by omega) (by omega) HB.out (by omega) (by omega)).mono ?_
  rintro e w3 ⟨rfl, k3, rfl⟩
  rw [HV.out]
  go_wp2_with fail
  refine (works_ok _).mono ?_
  rintro e w4 ⟨rfl, hb⟩
  have H4 := Lib.hid ((belowDrewN H2.out k3).trans (hb.mono H2.out.size))
  clear hb
  go_wp2_with fail
  go_ret
  exact ⟨rfl, H4.out⟩

set_option maxHeartbeats 1000000 in
theorem least_4A1 (a0 a1 full k acked : Int) (w : World) (h0 : a0 % 9007199254740992 = full) (h1 : a1 % 2147483648 = k) (h2 : full - 1 - k = acked) (ka : -1 < acked) (f0 : 0 ≤ full) (f1 : full ≤ 9007199254740991) (k0 : 0 ≤ k) (k1 : k ≤ 2147483647)
    (n0 : 8388608 < full - acked) (n1 : full - acked ≤ 2147483648) (v : Int) (hv : wholeV acked (full % 16777216) 16777216 = v) (cv : v < full) :
    Calls Try.prog 5 #[.int .i64 a0, .int .i64 a1] w fun e w' => e = .returned (.bool true) ∧ Below w.heap.size w w' := by
  have HV := Lib.hid hv
  clear hv
  go_enter Try.func5, Try.ntmps5
  go_wp2_with (first
    | (go_at_call 17; refine (works_ok _).mono ?_; rintro e w1 ⟨rfl, hb1⟩; have H1 := Lib.hid hb1; clear hb1)
    | (go_at_call 18; refine (bring_any _ _ _ (by omega) (by omega)).mono ?_; rintro e w' ⟨rfl, rfl⟩)
    | (go_at_call 9; refine (len_4 _ _ _ (by omega) (by omega) (by omega) (by omega) (by omega) (by omega)).mono ?_; rintro e w' ⟨rfl, rfl⟩)
    | (go_at_call 11; refine (cut_any _ 3 _ f0 f1 (by omega) (by omega)).mono ?_; rintro e w2 ⟨⟨A', c', rfl, hB, hlt⟩, hbel⟩; have HB := Lib.hid hB; have H2 := Lib.hid hbel; clear hB hlt hbel))
  refine (wholeCut full acked 3 16777216 rfl _ _ _ (by omega) (by omega) HB.out (by omega) (by omega)).mono ?_
  rintro e w3 ⟨rfl, k3, rfl⟩
  rw [HV.out]
  go_wp2_with fail
  refine (works_ok _).mono ?_
  rintro e w4 ⟨rfl, hb⟩
  have H4 := Lib.hid ((belowDrewN H2.out k3).trans (hb.mono H2.out.size))
  clear hb
  go_wp2_with fail
  go_ret
  exact ⟨rfl, H4.out⟩

set_option maxHeartbeats 1000000 in
theorem least_4A2 (a0 a1 full k acked : Int) (w : World) (h0 : a0 % 9007199254740992 = full) (h1 : a1 % 2147483648 = k) (h2 : full - 1 - k = acked) (ka : -1 < acked) (f0 : 0 ≤ full) (f1 : full ≤ 9007199254740991) (k0 : 0 ≤ k) (k1 : k ≤ 2147483647)
    (n0 : 8388608 < full - acked) (n1 : full - acked ≤ 2147483648) (v : Int) (hv : wholeV acked (full % 16777216) 16777216 = v) (cv : full ≤ v) (ce : full - acked - 1 = 8388608) :
    Calls Try.prog 5 #[.int .i64 a0, .int .i64 a1] w fun e w' => e = .returned (.bool true) ∧ Below w.heap.size w w' := by
  have HV := Lib.hid hv
  clear hv
  have ce' : (full - acked - 1 == 8388608) = true := beq_iff_eq.2 (by omega)
  have CE := Lib.hid ce
  clear ce
  go_enter Try.func5, Try.ntmps5
  go_wp2_with (first
    | (go_at_call 17; refine (works_ok _).mono ?_; rintro e w1 ⟨rfl, hb1⟩; have H1 := Lib.hid hb1; clear hb1)
    | (go_at_call 18; refine (bring_any _ _ _ (by omega) (by omega)).mono ?_; rintro e w' ⟨rfl, rfl⟩)
    | (go_at_call 9; refine (len_4 _ _ _ (by omega) (by omega) (by omega) (by omega) (by omega) (by omega)).mono ?_; rintro e w' ⟨rfl, rfl⟩)
    | (go_at_call 11; refine (cut_any _ 3 _ f0 f1 (by omega) (by omega)).mono ?_; rintro e w2 ⟨⟨A', c', rfl, hB, hlt⟩, hbel⟩; have HB := Lib.hid hB; have H2 := Lib.hid hbel; clear hB hlt hbel))
  refine (wholeCut full acked 3 16777216 rfl _ _ _ (by omega) (by omega) HB.out (by omega) (by omega)).mono ?_
  rintro e w3 ⟨rfl, k3, rfl⟩
  rw [HV.out]
  go_wp2_with fail
  refine (works_ok _).mono ?_
  rintro e w4 ⟨rfl, hb⟩
  have H4 := Lib.hid ((belowDrewN H2.out k3).trans (hb.mono H2.out.size))
  clear hb
  go_wp2_with fail
  go_ret
  exact ⟨rfl, H4.out⟩

set_option maxHeartbeats 1000000 in
theorem least_4A3 (a0 a1 full k acked : Int) (w : World) (h0 : a0 % 9007199254740992 = full) (h1 : a1 % 2147483648 = k) (h2 : full - 1 - k = acked) (ka : -1 < acked) (f0 : 0 ≤ full) (f1 : full ≤ 9007199254740991) (k0 : 0 ≤ k) (k1 : k ≤ 2147483647)
    (n0 : 8388608 < full - acked) (n1 : full - acked ≤ 2147483648) (v : Int) (hv : wholeV acked (full % 16777216) 16777216 = v) (cv : full ≤ v) (ce : full - acked - 1 ≠ 8388608) (cl : full < 16777216) :
    Calls Try.prog 5 #[.int .i64 a0, .int .i64 a1] w fun e w' => e = .returned (.bool true) ∧ Below w.heap.size w w' := by
  have HV := Lib.hid hv
  clear hv
  have ce' : (full - acked - 1 == 8388608) = false := beq_eq_false_iff_ne.2 (by omega)
  clear ce
  go_enter Try.func5, Try.ntmps5
  go_wp2_with (first
    | (go_at_call 17; refine (works_ok _).mono ?_; rintro e w1 ⟨rfl, hb1⟩; have H1 := Lib.hid hb1; clear hb1)
    | (go_at_call 18; refine (bring_any _ _ _ (by omega) (by omega)).mono ?_; rintro e w' ⟨rfl, rfl⟩)
    | (go_at_call 9; refine (len_4 _ _ _ (by omega) (by omega) (by omega) (by omega) (by omega) (by omega)).mono ?_; rintro e w' ⟨rfl, rfl⟩)
    | (go_at_call 11; refine (cut_any _ 3 _ f0 f1 (by omega) (by omega)).mono ?_; rintro e w2 ⟨⟨A', c', rfl, hB, hlt⟩, hbel⟩; have HB := Lib.hid hB; have H2 := Lib.hid hbel; clear hB hlt hbel))
  refine (wholeCut full acked 3 16777216 rfl _ _ _ (by omega) (by omega) HB.out (by omega) (by omega)).mono ?_
  rintro e w3 ⟨rfl, k3, rfl⟩
  rw [HV.out]
  go_wp2_with fail
  refine (works_ok _).mono ?_
  rintro e w4 ⟨rfl, hb⟩
  have H4 := Lib.hid ((belowDrewN H2.out k3).trans (hb.mono H2.out.size))
  clear hb
  go_wp2_with fail
  go_ret
  exact ⟨rfl, H4.out⟩

set_option maxHeartbeats 1000000 in
theorem least_1B0 (a0 a1 full k : Int) (w : World) (h0 : a0 % 9007199254740992 = full) (h1 : a1 % 2147483648 = k) (x : Int) (h2 : full - 1 - k = x) (ka : x ≤ -1) (f0 : 0 ≤ full) (f1 : full ≤ 9007199254740991) (k0 : 0 ≤ k) (k1 : k ≤ 2147483647)
    (n1 : full - (-1) ≤ 128)  :
    Calls Try.prog 5 #[.int .i64 a0, .int .i64 a1] w fun e w' => e = .returned (.bool true) ∧ Below w.heap.size w w' := by
  go_enter Try.func5, Try.ntmps5
  go_wp2_with (first
    | (go_at_call 17; refine (works_ok _).mono ?_; rintro e w1 ⟨rfl, hb1⟩; have H1 := Lib.hid hb1; clear hb1)
    | (go_at_call 18; refine (bring_any _ _ _ (by omega) (by omega)).mono ?_; rintro e w' ⟨rfl, rfl⟩)
    | (go_at_call 9; refine (len_1 _ _ _ (by omega) (by omega) (by omega) (by omega) (by omega)).mono ?_; rintro e w' ⟨rfl, rfl⟩))
  go_ret
  exact ⟨rfl, H1.out⟩

set_option maxHeartbeats 1000000 in
theorem least_2B1 (a0 a1 full k : Int) (w : World) (h0 : a0 % 9007199254740992 = full) (h1 : a1 % 2147483648 = k) (x : Int) (h2 : full - 1 - k = x) (ka : x ≤ -1) (f0 : 0 ≤ full) (f1 : full ≤ 9007199254740991) (k0 : 0 ≤ k) (k1 : k ≤ 2147483647)
    (n0 : 128 < full - (-1)) (n1 : full - (-1) ≤ 32768) (v : Int) (hv : wholeV (-1) (full % 256) 256 = v) (cv : v < full) :
    Calls Try.prog 5 #[.int .i64 a0, .int .i64 a1] w fun e w' => e = .returned (.bool true) ∧ Below w.heap.size w w' := by
  have HV := Lib.hid hv
  clear hv
  go_enter Try.func5, Try.ntmps5
  go_wp2_with (first
    | (go_at_call 17; refine (works_ok _).mono ?_; rintro e w1 ⟨rfl, hb1⟩; have H1 := Lib.hid hb1; clear hb1)
    | (go_at_call 18; refine (bring_any _ _ _ (by omega) (by omega)).mono ?_; rintro e w' ⟨rfl, rfl⟩)
    | (go_at_call 9; refine (len_2 _ _ _ (by omega) (by omega) (by omega) (by omega) (by omega) (by omega)).mono ?_; rintro e w' ⟨rfl, rfl⟩)
    | (go_at_call 11; refine (cut_any _ 1 _ f0 f1 (by omega) (by omega)).mono ?_; rintro e w2 ⟨⟨A', c', rfl, hB, hlt⟩, hbel⟩; have HB := Lib.hid hB; have H2 := Lib.hid hbel; clear hB hlt hbel))
  refine (wholeCut full (-1) 1 256 rfl _ _ _ (by omega) (by omega) HB.out (by omega) (by omega)).mono ?_
  rintro e w3 ⟨rfl, k3, rfl⟩
  rw [HV.out]
  go_wp2_with fail
  refine (works_ok _).mono ?_
  rintro e w4 ⟨rfl, hb⟩
  have H4 := Lib.hid ((belowDrewN H2.out k3).trans (hb.mono H2.out.size))
  clear hb
  go_wp2_with fail
  go_ret
  exact ⟨rfl, H4.out⟩

set_option maxHeartbeats 1000000 in
theorem least_2B2 (a0 a1 full k : Int) (w : World) (h0 : a0 % 9007199254740992 = full) (h1 : a1 % 2147483648 = k) (x : Int) (h2 : full - 1 - k = x) (ka : x ≤ -1) (f0 : 0 ≤ full) (f1 : full ≤ 9007199254740991) (k0 : 0 ≤ k) (k1 : k ≤ 2147483647)
    (n0 : 128 < full - (-1)) (n1 : full - (-1) ≤ 32768) (v : Int) (hv : wholeV (-1) (full % 256) 256 = v) (cv : full ≤ v) (ce : full - (-1) - 1 = 128) :
    Calls Try.prog 5 #[.int .i64 a0, .int .i64 a1] w fun e w' => e = .returned (.bool true) ∧ Below w.heap.size w w' := by
  have HV := Lib.hid hv
  clear hv
  have ce' : (full == 128) = true := beq_iff_eq.2 (by omega)
  have CE := Lib.hid ce
  clear ce
  go_enter Try.func5, Try.ntmps5
  go_wp2_with (first
    | (go_at_call 17; refine (works_ok _).mono ?_; rintro e w1 ⟨rfl, hb1⟩; have H1 := Lib.hid hb1; clear hb1)
    | (go_at_call 18; refine (bring_any _ _ _ (by omega) (by omega)).mono ?_; rintro e w' ⟨rfl, rfl⟩)
    | (go_at_call 9; refine (len_2 _ _ _ (by omega) (by omega) (by omega) (by omega) (by omega) (by omega)).mono ?_; rintro e w' ⟨rfl, rfl⟩)
    | (go_at_call 11; refine (cut_any _ 1 _ f0 f1 (by omega) (by omega)).mono ?_; rintro e w2 ⟨⟨A', c', rfl, hB, hlt⟩, hbel⟩; have HB := Lib.hid hB; have H2 := Lib.hid hbel; clear hB hlt hbel))
  refine (wholeCut full (-1) 1 256 rfl _ _ _ (by omega) (by omega) HB.out (by omega) (by omega)).mono ?_
  rintro e w3 ⟨rfl, k3, rfl⟩
  rw [HV.out]
  go_wp2_with fail
  refine (works_ok _).mono ?_
  rintro e w4 ⟨rfl, hb⟩
  have H4 := Lib.hid ((belowDrewN H2.out k3).trans (hb.mono H2.out.size))
  clear hb
  go_wp2_with fail
  go_ret
  exact ⟨rfl, H4.out⟩

set_option maxHeartbeats 1000000 in
theorem least_2B3 (a0 a1 full k : Int) (w : World) (h0 : a0 % 9007199254740992 = full) (h1 : a1 % 2147483648 = k) (x : Int) (h2 : full - 1 - k = x) (ka : x ≤ -1) (f0 : 0 ≤ full) (f1 : full ≤ 9007199254740991) (k0 : 0 ≤ k) (k1 : k ≤ 2147483647)
    (n0 : 128 < full - (-1)) (n1 : full - (-1) ≤ 32768) (v : Int) (hv : wholeV (-1) (full % 256) 256 = v) (cv : full ≤ v) (ce : full - (-1) - 1 ≠ 128) (cl : full < 256) :
    Calls Try.prog 5 #[.int .i64 a0, .int .i64 a1] w fun e w' => e = .returned (.bool true) ∧ Below w.heap.size w w' := by
  have HV := Lib.hid hv
  clear hv
  have ce' : (full == 128) = false := beq_eq_false_iff_ne.2 (by omega)
  clear ce
  go_enter Try.func5, Try.ntmps5
  go_wp2_with (first
    | (go_at_call 17; refine (works_ok _).mono ?_; rintro e w1 ⟨rfl, hb1⟩; have H1 := Lib.hid hb1; clear hb1)
    | (go_at_call 18; refine (bring_any _ _ _ (by omega) (by omega)).mono ?_; rintro e w' ⟨rfl, rfl⟩)
    | (go_at_call 9; refine (len_2 _ _ _ (by omega) (by omega) (by omega) (by omega) (by omega) (by omega)).mono ?_; rintro e w' ⟨rfl, rfl⟩)
    | (go_at_call 11; refine (cut_any _ 1 _ f0 f1 (by omega) (by omega)).mono ?_; rintro e w2 ⟨⟨A', c', rfl, hB, hlt⟩, hbel⟩; have HB := Lib.hid hB; have H2 := Lib.hid hbel; clear hB hlt hbel))
  refine (wholeCut full (-1) 1 256 rfl _ _ _ (by omega) (by omega) HB.out (by omega) (by omega)).mono ?_
  rintro e w3 ⟨rfl, k3, rfl⟩
  rw [HV.out]
  go_wp2_with fail
  refine (works_ok _).mono ?_
  rintro e w4 ⟨rfl, hb⟩
  have H4 := Lib.hid ((belowDrewN H2.out k3).trans (hb.mono H2.out.size))
  clear hb
  go_wp2_with fail
  go_ret
  exact ⟨rfl, H4.out⟩

set_option maxHeartbeats 1000000 in
theorem least_3B1 (a0 a1 full k : Int) (w : World) (h0 : a0 % 9007199254740992 = full) (h1 : a1 % 2147483648 = k) (x : Int) (h2 : full - 1 - k = x) (ka : x ≤ -1) (f0 : 0 ≤ full) (f1 : full ≤ 9007199254740991) (k0 : 0 ≤ k) (k1 : k ≤ 2147483647)
    (n0 : 32768 < full - (-1)) (n1 : full - (-1) ≤ 8388608) (v : Int) (hv : wholeV (-1) (full % 65536) 65536 = v) (cv : v < full) :
    Calls Try.prog 5 #[.int .i64 a0, .int .i64 a1] w fun e w' => e = .returned (.bool true) ∧ Below w.heap.size w w' := by
  have HV := Lib.hid hv
  clear hv
  go_enter Try.func5, Try.ntmps5
  go_wp2_with (first
    | (go_at_call 17; refine (works_ok _).mono ?_; rintro e w1 ⟨rfl, hb1⟩; have H1 := Lib.hid hb1; clear hb1)
    | (go_at_call 18; refine (bring_any _ _ _ (by omega) (by omega)).mono ?_; rintro e w' ⟨rfl, rfl⟩)
    | (go_at_call 9; refine (len_3 _ _ _ (by omega) (by omega) (by omega) (by omega) (by omega) (by omega)).mono ?_; rintro e w' ⟨rfl, rfl⟩)
    | (go_at_call 11; refine (cut_any _ 2 _ f0 f1 (by omega) (by omega)).mono ?_; rintro e w2 ⟨⟨A', c', rfl, hB, hlt⟩, hbel⟩; have HB := Lib.hid hB; have H2 := Lib.hid hbel; clear hB hlt hbel))
  refine (wholeCut full (-1) 2 65536 rfl _ _ _ (by omega) (by omega) HB.out (by omega) (by omega)).mono ?_
  rintro e w3 ⟨rfl, k3, rfl⟩
  rw [HV.out]
  go_wp2_with fail
  refine (works_ok _).mono ?_
  rintro e w4 ⟨rfl, hb⟩
  have H4 := Lib.hid ((belowDrewN H2.out k3).trans (hb.mono H2.out.size))
  clear hb
  go_wp2_with fail
  go_ret
  exact ⟨rfl, H4.out⟩

set_option maxHeartbeats 1000000 in
theorem least_3B2 (a0 a1 full k : Int) (w : World) (h0 : a0 % 9007199254740992 = full) (h1 : a1 % 2147483648 = k) (x : Int) (h2 : full - 1 - k = x) (ka : x ≤ -1) (f0 : 0 ≤ full) (f1 : full ≤ 9007199254740991) (k0 : 0 ≤ k) (k1 : k ≤ 2147483647)
    (n0 : 32768 < full - (-1)) (n1 : full - (-1) ≤ 8388608) (v : Int) (hv : wholeV (-1) (full % 65536) 65536 = v) (cv : full ≤ v) (ce : full - (-1) - 1 = 32768) :
    Calls Try.prog 5 #[.int .i64 a0, .int .i64 a1] w fun e w' => e = .returned (.bool true) ∧ Below w.heap.size w w' := by
  have HV := Lib.hid hv
  clear hv
  have ce' : (full == 32768) = true := beq_iff_eq.2 (by omega)
  have CE := Lib.hid ce
  clear ce
  go_enter Try.func5, Try.ntmps5
  go_wp2_with (first
    | (go_at_call 17; refine (works_ok _).mono ?_; rintro e w1 ⟨rfl, hb1⟩; have H1 := Lib.hid hb1; clear hb1)
    | (go_at_call 18; refine (bring_any _ _ _ (by omega) (by omega)).mono ?_; rintro e w' ⟨rfl, rfl⟩)
    | (go_at_call 9; refine (len_3 _ _ _ (by omega) (by omega) (by omega) (by omega) (by omega) (by omega)).mono ?_; rintro e w' ⟨rfl, rfl⟩)
    | (go_at_call 11; refine (cut_any _ 2 _ f0 f1 (by omega) (by omega)).mono ?_; rintro e w2 ⟨⟨A', c', rfl, hB, hlt⟩, hbel⟩; have HB := Lib.hid hB; have H2 := Lib.hid hbel; clear hB hlt hbel))
  refine (wholeCut full (-1) 2 65536 rfl _ _ _ (by omega) (by omega) HB.out (by omega) (by omega)).mono ?_
  rintro e w3 ⟨rfl, k3, rfl⟩
  rw [HV.out]
  go_wp2_with fail
  refine (works_ok _).mono ?_
  rintro e w4 ⟨rfl, hb⟩
  have H4 := Lib.hid ((belowDrewN H2.out k3).trans (hb.mono H2.out.size))
  clear hb
  go_wp2_with fail
  go_ret
  exact ⟨rfl, H4.out⟩

set_option maxHeartbeats 1000000 in
theorem least_3B3 (a0 a1 full k : Int) (w : World) (h0 : a0 % 9007199254740992 = full) (h1 : a1 % 2147483648 = k) (x : Int) (h2 : full - 1 - k = x) (ka : x ≤ -1) (f0 : 0 ≤ full) (f1 : full ≤ 9007199254740991) (k0 : 0 ≤ k) (k1 : k ≤ 2147483647)
    (n0 : 32768 < full - (-1)) (n1 : full - (-1) ≤ 8388608) (v : Int) (hv : wholeV (-1) (full % 65536) 65536 = v) (cv : full ≤ v) (ce : full - (-1) - 1 ≠ 32768) (cl : full < 65536) :
    Calls Try.prog 5 #[.int .i64 a0, .int .i64 a1] w fun e w' => e = .returned (.bool true) ∧ Below w.heap.size w w' := by
  have HV := Lib.hid hv
  clear hv
  have ce' : (full == 32768) = false := beq_eq_false_iff_ne.2 (by omega)
  clear ce
  go_enter Try.func5, Try.ntmps5
  go_wp2_with (first
    | (go_at_call 17; refine (works_ok _).mono ?_; rintro e w1 ⟨rfl, hb1⟩; have H1 := Lib.hid hb1; clear hb1)
    | (go_at_call 18; refine (bring_any _ _ _ (by omega) (by omega)).mono ?_; rintro e w' ⟨rfl, rfl⟩)
    | (go_at_call 9; refine (len_3 _ _ _ (by omega) (by omega) (by omega) (by omega) (by omega) (by omega)).mono ?_; rintro e w' ⟨rfl, rfl⟩)
    | (go_at_call 11; refine (cut_any _ 2 _ f0 f1 (by omega) (by omega)).mono ?_; rintro e w2 ⟨⟨A', c', rfl, hB, hlt⟩, hbel⟩; have HB := Lib.hid hB; have H2 := Lib.hid hbel; clear hB hlt hbel))
  refine (wholeCut full (-1) 2 65536 rfl _ _ _ (by omega) (by omega) HB.out (by omega) (by omega)).mono ?_
  rintro e w3 ⟨rfl, k3, rfl⟩
  rw [HV.out]
  go_wp2_with fail
  refine (works_ok _).mono ?_
  rintro e w4 ⟨rfl, hb⟩
  have H4 := Lib.hid ((belowDrewN H2.out k3).trans (hb.mono H2.out.size))
  clear hb
  go_wp2_with fail
  go_ret
  exact ⟨rfl, H4.out⟩

set_option maxHeartbeats 1000000 in
theorem least_4B1 (a0 a1 full k : Int) (w : World) (h0 : a0 % 9007199254740992 = full) (h1 : a1 % 2147483648 = k) (x : Int) (h2 : full - 1 - k = x) (ka : x ≤ -1) (f0 : 0 ≤ full) (f1 : full ≤ 9007199254740991) (k0 : 0 ≤ k) (k1 : k ≤ 2147483647)
    (n0 : 8388608 < full - (-1)) (n1 : full - (-1) ≤ 2147483648) (v : Int) (hv : wholeV (-1) (full % 16777216) 16777216 = v) (cv : v < full) :
    Calls Try.prog 5 #[.int .i64 a0, .int .i64 a1] w fun e w' => e = .returned (.bool true) ∧ Below w.heap.size w w' := by
  have HV := Lib.hid hv
  clear hv
  go_enter Try.func5, Try.ntmps5
  go_wp2_with (first
    | (go_at_call 17; refine (works_ok _).mono ?_; rintro e w1 ⟨rfl, hb1⟩; have H1 := Lib.hid hb1; clear hb1)
    | (go_at_call 18; refine (bring_any _ _ _ (by omega) (by omega)).mono ?_; rintro e w' ⟨rfl, rfl⟩)
    | (go_at_call 9; refine (len_4 _ _ _ (by omega) (by omega) (by omega) (by omega) (by omega) (by omega)).mono ?_; rintro e w' ⟨rfl, rfl⟩)
    | (go_at_call 11; refine (cut_any _ 3 _ f0 f1 (by omega) (by omega)).mono ?_; rintro e w2 ⟨⟨A', c', rfl, hB, hlt⟩, hbel⟩; have HB := Lib.hid hB; have H2 := Lib.hid hbel; clear hB hlt hbel))
  refine (wholeCut full (-1) 3 16777216 rfl _ _ _ (by omega) (by omega) HB.out (by omega) (by omega)).mono ?_
  rintro e w3 ⟨rfl, k3, rfl⟩
  rw [HV.out]
  go_wp2_with fail
  refine (works_ok _).mono ?_
  rintro e w4 ⟨rfl, hb⟩
  have H4 := Lib.hid ((belowDrewN H2.out k3).trans (hb.mono H2.out.size))
  clear hb
  go_wp2_with fail
  go_ret
  exact ⟨rfl, H4.out⟩

set_option maxHeartbeats 1000000 in
theorem least_4B2 (a0 a1 full k : Int) (w : World) (h0 : a0 % 9007199254740992 = full) (h1 : a1 % 2147483648 = k) (x : Int) (h2 : full - 1 - k = x) (ka : x ≤ -1) (f0 : 0 ≤ full) (f1 : full ≤ 9007199254740991) (k0 : 0 ≤ k) (k1 : k ≤ 2147483647)
    (n0 : 8388608 < full - (-1)) (n1 : full - (-1) ≤ 2147483648) (v : Int) (hv : wholeV (-1) (full % 16777216) 16777216 = v) (cv : full ≤ v) (ce : full - (-1) - 1 = 8388608) :
    Calls Try.prog 5 #[.int .i64 a0, .int .i64 a1] w fun e w' => e = .returned (.bool true) ∧ Below w.heap.size w w' := by
  have HV := Lib.hid hv
  clear hv
  have ce' : (full == 8388608) = true := beq_iff_eq.2 (by omega)
  have CE := Lib.hid ce
  clear ce
  go_enter Try.func5, Try.ntmps5
  go_wp2_with (first
    | (go_at_call 17; refine (works_ok _).mono ?_; rintro e w1 ⟨rfl, hb1⟩; have H1 := Lib.hid hb1; clear hb1)
    | (go_at_call 18; refine (bring_any _ _ _ (by omega) (by omega)).mono ?_; rintro e w' ⟨rfl, rfl⟩)
    | (go_at_call 9; refine (len_4 _ _ _ (by omega) (by omega) (by omega) (by omega) (by omega) (by omega)).mono ?_; rintro e w' ⟨rfl, rfl⟩)
    | (go_at_call 11; refine (cut_any _ 3 _ f0 f1 (by omega) (by omega)).mono ?_; rintro e w2 ⟨⟨A', c', rfl, hB, hlt⟩, hbel⟩; have HB := Lib.hid hB; have H2 := Lib.hid hbel; clear hB hlt hbel))
  refine (wholeCut full (-1) 3 16777216 rfl _ _ _ (by omega) (by omega) HB.out (by omega) (by omega)).mono ?_
  rintro e w3 ⟨rfl, k3, rfl⟩
  rw [HV.out]
  go_wp2_with fail
  refine (works_ok _).mono ?_
  rintro e w4 ⟨rfl, hb⟩
  have H4 := Lib.hid ((belowDrewN H2.out k3).trans (hb.mono H2.out.size))
  clear hb
  go_wp2_with fail
  go_ret
  exact ⟨rfl, H4.out⟩

set_option maxHeartbeats 1000000 in
theorem least_4B3 (a0 a1 full k : Int) (w : World) (h0 : a0 % 9007199254740992 = full) (h1 : a1 % 2147483648 = k) (x : Int) (h2 : full - 1 - k = x) (ka : x ≤ -1) (f0 : 0 ≤ full) (f1 : full ≤ 9007199254740991) (k0 : 0 ≤ k) (k1 : k ≤ 2147483647)
    (n0 : 8388608 < full - (-1)) (n1 : full - (-1) ≤ 2147483648) (v : Int) (hv : wholeV (-1) (full % 16777216) 16777216 = v) (cv : full ≤ v) (ce : full - (-1) - 1 ≠ 8388608) (cl : full < 16777216) :
    Calls Try.prog 5 #[.int .i64 a0, .int .i64 a1] w fun e w' => e = .returned (.bool true) ∧ Below w.heap.size w w' := by
  have HV := Lib.hid hv
  clear hv
  have ce' : (full == 8388608) = false := beq_eq_false_iff_ne.2 (by omega)
  clear ce
  go_enter Try.func5, Try.ntmps5
  go_wp2_with (first
    | (go_at_call 17; refine (works_ok _).mono ?_; rintro e w1 ⟨rfl, hb1⟩; have H1 := Lib.hid hb1; clear hb1)
    | (go_at_call 18; refine (bring_any _ _ _ (by omega) (by omega)).mono ?_; rintro e w' ⟨rfl, rfl⟩)
    | (go_at_call 9; refine (len_4 _ _ _ (by omega) (by omega) (by omega) (by omega) (by omega) (by omega)).mono ?_; rintro e w' ⟨rfl, rfl⟩)
    | (go_at_call 11; refine (cut_any _ 3 _ f0 f1 (by omega) (by omega)).mono ?_; rintro e w2 ⟨⟨A', c', rfl, hB, hlt⟩, hbel⟩; have HB := Lib.hid hB; have H2 := Lib.hid hbel; clear hB hlt hbel))
  refine (wholeCut full (-1) 3 16777216 rfl _ _ _ (by omega) (by omega) HB.out (by omega) (by omega)).mono ?_
  rintro e w3 ⟨rfl, k3, rfl⟩
  rw [HV.out]
  go_wp2_with fail
  refine (works_ok _).mono ?_
  rintro e w4 ⟨rfl, hb⟩
  have H4 := Lib.hid ((belowDrewN H2.out k3).trans (hb.mono H2.out.size))
  clear hb
  go_wp2_with fail
  go_ret
  exact ⟨rfl, H4.out⟩

theorem least_walk (a0 a1 : Int) (w : World) : Calls Try.prog 5 #[.int .i64 a0, .int .i64 a1] w fun e w' => e = .returned (.bool true) ∧ Below w.heap.size w w' := by
  have p0 := Int.emod_nonneg a0 (b := 9007199254740992) (by decide)
  have p1 := Int.emod_lt_of_pos a0 (b := 9007199254740992) (by decide)
  have p2 := Int.emod_nonneg a1 (b := 2147483648) (by decide)
  have p3 := Int.emod_lt_of_pos a1 (b := 2147483648) (by decide)
  obtain ⟨full, hf⟩ : ∃ full, a0 % 9007199254740992 = full := ⟨_, rfl⟩
  obtain ⟨k, hk⟩ : ∃ k, a1 % 2147483648 = k := ⟨_, rfl⟩
  rw [hf] at p0 p1
  rw [hk] at p2 p3
  by_cases ha : -1 < full - 1 - k
  · obtain ⟨acked, hA⟩ : ∃ acked, full - 1 - k = acked := ⟨_, rfl⟩
    rw [hA] at ha
    by_cases c1 : full - acked ≤ 128
    · exact least_1A0 a0 a1 full k acked w hf hk hA ha p0 (by omega) p2 (by omega) c1
    by_cases c2 : full - acked ≤ 32768
    · have L := least full acked 256 (by unfold Width; omega) p0 (by omega) (by omega) (by omega) (by omega) (by omega)
      by_cases l1 : wholeV acked (full % 256) 256 < full
      · exact least_2A1 a0 a1 full k acked w hf hk hA ha p0 (by omega) p2 (by omega) (by omega) (by omega) _ rfl l1
      by_cases l2 : full - acked - 1 = 128
      · exact least_2A2 a0 a1 full k acked w hf hk hA ha p0 (by omega) p2 (by omega) (by omega) (by omega) _ rfl (by omega) l2
      exact least_2A3 a0 a1 full k acked w hf hk hA ha p0 (by omega) p2 (by omega) (by omega) (by omega) _ rfl (by omega) l2 (by omega)
    by_cases c3 : full - acked ≤ 8388608
    · have L := least full acked 65536 (by unfold Width; omega) p0 (by omega) (by omega) (by omega) (by omega) (by omega)
      by_cases l1 : wholeV acked (full % 65536) 65536 < full
      · exact least_3A1 a0 a1 full k acked w hf hk hA ha p0 (by omega) p2 (by omega) (by omega) (by omega) _ rfl l1
      by_cases l2 : full - acked - 1 = 32768
      · exact least_3A2 a0 a1 full k acked w hf hk hA ha p0 (by omega) p2 (by omega) (by omega) (by omega) _ rfl (by omega) l2
      exact least_3A3 a0 a1 full k acked w hf hk hA ha p0 (by omega) p2 (by omega) (by omega) (by omega) _ rfl (by omega) l2 (by omega)
    have L := least full acked 16777216 (by unfold Width; omega) p0 (by omega) (by omega) (by omega) (by omega) (by omega)
    by_cases l1 : wholeV acked (full % 16777216) 16777216 < full
    · exact least_4A1 a0 a1 full k acked w hf hk hA ha p0 (by omega) p2 (by omega) (by omega) (by omega) _ rfl l1
    by_cases l2 : full - acked - 1 = 8388608
    · exact least_4A2 a0 a1 full k acked w hf hk hA ha p0 (by omega) p2 (by omega) (by omega) (by omega) _ rfl (by omega) l2
    exact least_4A3 a0 a1 full k acked w hf hk hA ha p0 (by omega) p2 (by omega) (by omega) (by omega) _ rfl (by omega) l2 (by omega)
  · have hz : (0 : Int) ≤ 0 := by omega
    by_cases c1 : full - (-1) ≤ 128
    · exact least_1B0 a0 a1 full k w hf hk _ rfl (by omega) p0 (by omega) p2 (by omega) c1
    by_cases c2 : full - (-1) ≤ 32768
    · have L := least full (-1) 256 (by unfold Width; omega) p0 (by omega) (by omega) (by omega) (by omega) (by omega)
      by_cases l1 : wholeV (-1) (full % 256) 256 < full
      · exact least_2B1 a0 a1 full k w hf hk _ rfl (by omega) p0 (by omega) p2 (by omega) (by omega) (by omega) _ rfl l1
      by_cases l2 : full - (-1) - 1 = 128
      · exact least_2B2 a0 a1 full k w hf hk _ rfl (by omega) p0 (by omega) p2 (by omega) (by omega) (by omega) _ rfl (by omega) l2
      exact least_2B3 a0 a1 full k w hf hk _ rfl (by omega) p0 (by omega) p2 (by omega) (by omega) (by omega) _ rfl (by omega) l2 (by omega)
    by_cases c3 : full - (-1) ≤ 8388608
    · have L := least full (-1) 65536 (by unfold Width; omega) p0 (by omega) (by omega) (by omega) (by omega) (by omega)
      by_cases l1 : wholeV (-1) (full % 65536) 65536 < full
      · exact least_3B1 a0 a1 full k w hf hk _ rfl (by omega) p0 (by omega) p2 (by omega) (by omega) (by omega) _ rfl l1
      by_cases l2 : full - (-1) - 1 = 32768
      · exact least_3B2 a0 a1 full k w hf hk _ rfl (by omega) p0 (by omega) p2 (by omega) (by omega) (by omega) _ rfl (by omega) l2
      exact least_3B3 a0 a1 full k w hf hk _ rfl (by omega) p0 (by omega) p2 (by omega) (by omega) (by omega) _ rfl (by omega) l2 (by omega)
    have L := least full (-1) 16777216 (by unfold Width; omega) p0 (by omega) (by omega) (by omega) (by omega) (by omega)
    by_cases l1 : wholeV (-1) (full % 16777216) 16777216 < full
    · exact least_4B1 a0 a1 full k w hf hk _ rfl (by omega) p0 (by omega) p2 (by omega) (by omega) (by omega) _ rfl l1
    by_cases l2 : full - (-1) - 1 = 8388608
    · exact least_4B2 a0 a1 full k w hf hk _ rfl (by omega) p0 (by omega) p2 (by omega) (by omega) (by omega) _ rfl (by omega) l2
    exact least_4B3 a0 a1 full k w hf hk _ rfl (by omega) p0 (by omega) p2 (by omega) (by omega) (by omega) _ rfl (by omega) l2 (by omega)
end Go.Proofs.Ytgmgbhpecnmfeaa
