/-
  The reference's Acked.
-/
import Derived.Test.YtcjhankepchioaaRc
namespace Go.Proofs.Ytcjhankepchioaa
open Go.RowKit (wrap32 wrap64)
open Go.RowKit
set_option linter.unusedVariables false
set_option linter.unusedSimpArgs false

theorem rslow_is (x : Win) (b : Bool) (w : World) (h : Hid (slowB x = b)) :
    Calls Try.prog 26 #[.agg #[.int .i64 x.d, .int .i64 x.m, .int .i64 x.c, .int .i64 x.t, .int .i64 x.s, .int .i64 x.g]] w fun e w' => e = .returned (.bool b) ∧ Below w.heap.size w w' := by
  have h' := h.out
  subst h'
  exact rslow_any x w

set_option maxRecDepth 100000 in
set_option maxHeartbeats 8000000 in
theorem racked_no (x : Win) (nu ti si : Int) (b1 b2 b3 : Bool) (full : Bool) (hx : ¬ Ok x) (w : World) :
    Calls Try.prog 16 #[.agg #[.int .i64 x.d, .int .i64 x.m, .int .i64 x.c, .int .i64 x.t, .int .i64 x.s, .int .i64 x.g], .agg #[.int .i64 nu, .int .i64 ti, .int .i64 si, .bool b1, .bool b2, .bool b3], .bool full] w fun e w' => e = .returned (.tuple #[.agg #[.int .i64 zero.d, .int .i64 zero.m, .int .i64 zero.c, .int .i64 zero.t, .int .i64 zero.s, .int .i64 zero.g], .int .i64 2]) ∧ Below w.heap.size w w' := by
  have HC := hck_no hx
  clear hx
  go_enter Try.func16, Try.ntmps16
  go_wp2_with fail
  refine (rcheck_is x 2 _ HC).mono ?_
  rintro e w7 ⟨rfl, hb7⟩
  have hx7 := BW.kept (((BW.new w x 26).alloc (.cells #[.int .i64 nu, .int .i64 ti, .int .i64 si, .bool b1, .bool b2, .bool b3] 34)).alloc (.cells #[.int .i64 0, .int .i64 0, .int .i64 0, .int .i64 0, .int .i64 0, .int .i64 0] 26)) hb7
  have hz7 : BW w7 (w.heap.size + 1 + 1) zero := BW.kept (BW.new2 w _ _ zero 26) hb7
  have HP1 := Lib.hid (oldcell (cell_old (b := w.heap.size + 1) (j := 1) (v := .int .i64 ti) (by simp) (by simp)) hb7 (by simp <;> omega))
  have HP2 := Lib.hid (oldcell (cell_old (b := w.heap.size + 1) (j := 2) (v := .int .i64 si) (by simp) (by simp)) hb7 (by simp <;> omega))
  obtain ⟨xl, x0, x1, x2, x3, x4, x5, xf⟩ := id hx7
  obtain ⟨zl, z0, z1, z2, z3, z4, z5, zf⟩ := id hz7
  have p1 := HP1.out
  have p2 := HP2.out
  have HB7 := Lib.hid ((base2 w _ _ _).trans (hb7.mono (by simp only [World.size_alloc]; omega)))
  clear hb7
  clear hx7 hz7
  go_wp2_with fail
  refine bodyPost_ret (by simp [results, Try.results16, go_sem, z0, z1, z2, z3, z4, z5]; rfl) rfl ?_
  exact ⟨rfl, by have := HB7.out; go_grown⟩

set_option maxRecDepth 100000 in
set_option maxHeartbeats 8000000 in
theorem racked_t (x : Win) (nu ti si : Int) (b1 b2 b3 : Bool) (full : Bool) (hx : Ok x) (H1 : Hid (timeB ti = false)) (w : World) :
    Calls Try.prog 16 #[.agg #[.int .i64 x.d, .int .i64 x.m, .int .i64 x.c, .int .i64 x.t, .int .i64 x.s, .int .i64 x.g], .agg #[.int .i64 nu, .int .i64 ti, .int .i64 si, .bool b1, .bool b2, .bool b3], .bool full] w fun e w' => e = .returned (.tuple #[.agg #[.int .i64 zero.d, .int .i64 zero.m, .int .i64 zero.c, .int .i64 zero.t, .int .i64 zero.s, .int .i64 zero.g], .int .i64 9]) ∧ Below w.heap.size w w' := by
  have HC := hck_ok hx
  clear hx
  go_enter Try.func16, Try.ntmps16
  go_wp2_with fail
  refine (rcheck_is x 0 _ HC).mono ?_
  rintro e w7 ⟨rfl, hb7⟩
  have hx7 := BW.kept (((BW.new w x 26).alloc (.cells #[.int .i64 nu, .int .i64 ti, .int .i64 si, .bool b1, .bool b2, .bool b3] 34)).alloc (.cells #[.int .i64 0, .int .i64 0, .int .i64 0, .int .i64 0, .int .i64 0, .int .i64 0] 26)) hb7
  have hz7 : BW w7 (w.heap.size + 1 + 1) zero := BW.kept (BW.new2 w _ _ zero 26) hb7
  have HP1 := Lib.hid (oldcell (cell_old (b := w.heap.size + 1) (j := 1) (v := .int .i64 ti) (by simp) (by simp)) hb7 (by simp <;> omega))
  have HP2 := Lib.hid (oldcell (cell_old (b := w.heap.size + 1) (j := 2) (v := .int .i64 si) (by simp) (by simp)) hb7 (by simp <;> omega))
  obtain ⟨xl, x0, x1, x2, x3, x4, x5, xf⟩ := id hx7
  obtain ⟨zl, z0, z1, z2, z3, z4, z5, zf⟩ := id hz7
  have p1 := HP1.out
  have p2 := HP2.out
  have HB7 := Lib.hid ((base2 w _ _ _).trans (hb7.mono (by simp only [World.size_alloc]; omega)))
  clear hb7
  clear hx7 hz7
  go_wp2_with fail
  refine (rtime_d _ _).mono ?_
  rintro e w' ⟨rfl, rfl⟩
  rw [H1.out]
  go_wp2_with fail
  refine bodyPost_ret (by simp [results, Try.results16, go_sem, z0, z1, z2, z3, z4, z5]; rfl) rfl ?_
  exact ⟨rfl, by have := HB7.out; go_grown⟩

set_option maxRecDepth 100000 in
set_option maxHeartbeats 8000000 in
theorem racked_s0 (x : Win) (nu ti si : Int) (b1 b2 b3 : Bool) (full : Bool) (hx : Ok x) (H1 : Hid (timeB ti = true)) (s1 : si < 1) (w : World) :
    Calls Try.prog 16 #[.agg #[.int .i64 x.d, .int .i64 x.m, .int .i64 x.c, .int .i64 x.t, .int .i64 x.s, .int .i64 x.g], .agg #[.int .i64 nu, .int .i64 ti, .int .i64 si, .bool b1, .bool b2, .bool b3], .bool full] w fun e w' => e = .returned (.tuple #[.agg #[.int .i64 zero.d, .int .i64 zero.m, .int .i64 zero.c, .int .i64 zero.t, .int .i64 zero.s, .int .i64 zero.g], .int .i64 9]) ∧ Below w.heap.size w w' := by
  have HC := hck_ok hx
  have s3 : decide (si < 1) = true := decide_eq_true s1
  clear hx
  go_enter Try.func16, Try.ntmps16
  go_wp2_with fail
  refine (rcheck_is x 0 _ HC).mono ?_
  rintro e w7 ⟨rfl, hb7⟩
  have hx7 := BW.kept (((BW.new w x 26).alloc (.cells #[.int .i64 nu, .int .i64 ti, .int .i64 si, .bool b1, .bool b2, .bool b3] 34)).alloc (.cells #[.int .i64 0, .int .i64 0, .int .i64 0, .int .i64 0, .int .i64 0, .int .i64 0] 26)) hb7
  have hz7 : BW w7 (w.heap.size + 1 + 1) zero := BW.kept (BW.new2 w _ _ zero 26) hb7
  have HP1 := Lib.hid (oldcell (cell_old (b := w.heap.size + 1) (j := 1) (v := .int .i64 ti) (by simp) (by simp)) hb7 (by simp <;> omega))
  have HP2 := Lib.hid (oldcell (cell_old (b := w.heap.size + 1) (j := 2) (v := .int .i64 si) (by simp) (by simp)) hb7 (by simp <;> omega))
  obtain ⟨xl, x0, x1, x2, x3, x4, x5, xf⟩ := id hx7
  obtain ⟨zl, z0, z1, z2, z3, z4, z5, zf⟩ := id hz7
  have p1 := HP1.out
  have p2 := HP2.out
  have HB7 := Lib.hid ((base2 w _ _ _).trans (hb7.mono (by simp only [World.size_alloc]; omega)))
  clear hb7
  clear hx7 hz7
  go_wp2_with fail
  refine (rtime_d _ _).mono ?_
  rintro e w' ⟨rfl, rfl⟩
  rw [H1.out]
  go_wp2_with fail
  refine bodyPost_ret (by simp [results, Try.results16, go_sem, z0, z1, z2, z3, z4, z5]; rfl) rfl ?_
  exact ⟨rfl, by have := HB7.out; go_grown⟩

set_option maxRecDepth 100000 in
set_option maxHeartbeats 8000000 in
theorem racked_s1 (x : Win) (nu ti si : Int) (b1 b2 b3 : Bool) (full : Bool) (hx : Ok x) (H1 : Hid (timeB ti = true)) (s1 : 1 ≤ si) (s2 : 65535 < si) (w : World) :
    Calls Try.prog 16 #[.agg #[.int .i64 x.d, .int .i64 x.m, .int .i64 x.c, .int .i64 x.t, .int .i64 x.s, .int .i64 x.g], .agg #[.int .i64 nu, .int .i64 ti, .int .i64 si, .bool b1, .bool b2, .bool b3], .bool full] w fun e w' => e = .returned (.tuple #[.agg #[.int .i64 zero.d, .int .i64 zero.m, .int .i64 zero.c, .int .i64 zero.t, .int .i64 zero.s, .int .i64 zero.g], .int .i64 9]) ∧ Below w.heap.size w w' := by
  have HC := hck_ok hx
  have s3 : decide (si < 1) = false := by rw [decide_eq_false_iff_not]; omega
  have s4 : decide (65535 < si) = true := decide_eq_true s2
  clear hx
  go_enter Try.func16, Try.ntmps16
  go_wp2_with fail
  refine (rcheck_is x 0 _ HC).mono ?_
  rintro e w7 ⟨rfl, hb7⟩
  have hx7 := BW.kept (((BW.new w x 26).alloc (.cells #[.int .i64 nu, .int .i64 ti, .int .i64 si, .bool b1, .bool b2, .bool b3] 34)).alloc (.cells #[.int .i64 0, .int .i64 0, .int .i64 0, .int .i64 0, .int .i64 0, .int .i64 0] 26)) hb7
  have hz7 : BW w7 (w.heap.size + 1 + 1) zero := BW.kept (BW.new2 w _ _ zero 26) hb7
  have HP1 := Lib.hid (oldcell (cell_old (b := w.heap.size + 1) (j := 1) (v := .int .i64 ti) (by simp) (by simp)) hb7 (by simp <;> omega))
  have HP2 := Lib.hid (oldcell (cell_old (b := w.heap.size + 1) (j := 2) (v := .int .i64 si) (by simp) (by simp)) hb7 (by simp <;> omega))
  obtain ⟨xl, x0, x1, x2, x3, x4, x5, xf⟩ := id hx7
  obtain ⟨zl, z0, z1, z2, z3, z4, z5, zf⟩ := id hz7
  have p1 := HP1.out
  have p2 := HP2.out
  have HB7 := Lib.hid ((base2 w _ _ _).trans (hb7.mono (by simp only [World.size_alloc]; omega)))
  clear hb7
  clear hx7 hz7
  go_wp2_with fail
  refine (rtime_d _ _).mono ?_
  rintro e w' ⟨rfl, rfl⟩
  rw [H1.out]
  go_wp2_with fail
  refine bodyPost_ret (by simp [results, Try.results16, go_sem, z0, z1, z2, z3, z4, z5]; rfl) rfl ?_
  exact ⟨rfl, by have := HB7.out; go_grown⟩

set_option maxRecDepth 100000 in
set_option maxHeartbeats 8000000 in
theorem racked_past (x : Win) (nu ti si : Int) (b1 b2 b3 : Bool) (full : Bool) (hx : Ok x) (H1 : Hid (timeB ti = true)) (s1 : 1 ≤ si) (s2 : si ≤ 65535) (HBH : Hid (decide (Behind x ti) = false)) (w : World) :
    Calls Try.prog 16 #[.agg #[.int .i64 x.d, .int .i64 x.m, .int .i64 x.c, .int .i64 x.t, .int .i64 x.s, .int .i64 x.g], .agg #[.int .i64 nu, .int .i64 ti, .int .i64 si, .bool b1, .bool b2, .bool b3], .bool full] w fun e w' => e = .returned (.tuple #[.agg #[.int .i64 x.d, .int .i64 x.m, .int .i64 x.c, .int .i64 x.t, .int .i64 x.s, .int .i64 x.g], .int .i64 0]) ∧ Below w.heap.size w w' := by
  have HC := hck_ok hx
  have s3 : decide (si < 1) = false := by rw [decide_eq_false_iff_not]; omega
  have s4 : decide (65535 < si) = false := by rw [decide_eq_false_iff_not]; omega
  clear hx
  go_enter Try.func16, Try.ntmps16
  go_wp2_with fail
  refine (rcheck_is x 0 _ HC).mono ?_
  rintro e w7 ⟨rfl, hb7⟩
  have hx7 := BW.kept (((BW.new w x 26).alloc (.cells #[.int .i64 nu, .int .i64 ti, .int .i64 si, .bool b1, .bool b2, .bool b3] 34)).alloc (.cells #[.int .i64 0, .int .i64 0, .int .i64 0, .int .i64 0, .int .i64 0, .int .i64 0] 26)) hb7
  have hz7 : BW w7 (w.heap.size + 1 + 1) zero := BW.kept (BW.new2 w _ _ zero 26) hb7
  have HP1 := Lib.hid (oldcell (cell_old (b := w.heap.size + 1) (j := 1) (v := .int .i64 ti) (by simp) (by simp)) hb7 (by simp <;> omega))
  have HP2 := Lib.hid (oldcell (cell_old (b := w.heap.size + 1) (j := 2) (v := .int .i64 si) (by simp) (by simp)) hb7 (by simp <;> omega))
  obtain ⟨xl, x0, x1, x2, x3, x4, x5, xf⟩ := id hx7
  obtain ⟨zl, z0, z1, z2, z3, z4, z5, zf⟩ := id hz7
  have p1 := HP1.out
  have p2 := HP2.out
  have HB7 := Lib.hid ((base2 w _ _ _).trans (hb7.mono (by simp only [World.size_alloc]; omega)))
  clear hb7
  go_wp2_with fail
  refine (rtime_d _ _).mono ?_
  rintro e w' ⟨rfl, rfl⟩
  rw [H1.out]
  go_wp2_with fail
  refine (rbehind_any x ti _).mono ?_
  rintro e w8 ⟨rfl, hb8⟩
  rw [HBH.out]
  have hx8 := hx7.kept hb8
  have hz8 := hz7.kept hb8
  have HP1 := Lib.hid (oldcell HP1.out hb8 (by have := hx7.lt; have := hz7.lt; omega))
  have HP2 := Lib.hid (oldcell HP2.out hb8 (by have := hx7.lt; have := hz7.lt; omega))
  have HB8 := Lib.hid (HB7.out.trans (hb8.mono HB7.out.size))
  clear hb8 hx7 hz7 xl x0 x1 x2 x3 x4 x5 xf zl z0 z1 z2 z3 z4 z5 zf p1 p2
  obtain ⟨xl, x0, x1, x2, x3, x4, x5, xf⟩ := id hx8
  obtain ⟨zl, z0, z1, z2, z3, z4, z5, zf⟩ := id hz8
  have p1 := HP1.out
  have p2 := HP2.out
  clear hx8 hz8
  go_wp2_with fail
  refine bodyPost_ret (by simp [results, Try.results16, go_sem, z0, z1, z2, z3, z4, z5]; rfl) rfl ?_
  exact ⟨rfl, by have := HB8.out; go_grown⟩

set_option maxRecDepth 100000 in
set_option maxHeartbeats 8000000 in
theorem racked_idle (x : Win) (nu ti si : Int) (b1 b2 b3 : Bool) (full : Bool) (hx : Ok x) (H1 : Hid (timeB ti = true)) (s1 : 1 ≤ si) (s2 : si ≤ 65535) (HBH : Hid (decide (Behind x ti) = true)) (hf : full = false) (w : World) :
    Calls Try.prog 16 #[.agg #[.int .i64 x.d, .int .i64 x.m, .int .i64 x.c, .int .i64 x.t, .int .i64 x.s, .int .i64 x.g], .agg #[.int .i64 nu, .int .i64 ti, .int .i64 si, .bool b1, .bool b2, .bool b3], .bool full] w fun e w' => e = .returned (.tuple #[.agg #[.int .i64 x.d, .int .i64 x.m, .int .i64 x.c, .int .i64 x.t, .int .i64 x.s, .int .i64 x.g], .int .i64 0]) ∧ Below w.heap.size w w' := by
  subst hf
  have HC := hck_ok hx
  have s3 : decide (si < 1) = false := by rw [decide_eq_false_iff_not]; omega
  have s4 : decide (65535 < si) = false := by rw [decide_eq_false_iff_not]; omega
  clear hx
  go_enter Try.func16, Try.ntmps16
  go_wp2_with fail
  refine (rcheck_is x 0 _ HC).mono ?_
  rintro e w7 ⟨rfl, hb7⟩
  have hx7 := BW.kept (((BW.new w x 26).alloc (.cells #[.int .i64 nu, .int .i64 ti, .int .i64 si, .bool b1, .bool b2, .bool b3] 34)).alloc (.cells #[.int .i64 0, .int .i64 0, .int .i64 0, .int .i64 0, .int .i64 0, .int .i64 0] 26)) hb7
  have hz7 : BW w7 (w.heap.size + 1 + 1) zero := BW.kept (BW.new2 w _ _ zero 26) hb7
  have HP1 := Lib.hid (oldcell (cell_old (b := w.heap.size + 1) (j := 1) (v := .int .i64 ti) (by simp) (by simp)) hb7 (by simp <;> omega))
  have HP2 := Lib.hid (oldcell (cell_old (b := w.heap.size + 1) (j := 2) (v := .int .i64 si) (by simp) (by simp)) hb7 (by simp <;> omega))
  obtain ⟨xl, x0, x1, x2, x3, x4, x5, xf⟩ := id hx7
  obtain ⟨zl, z0, z1, z2, z3, z4, z5, zf⟩ := id hz7
  have p1 := HP1.out
  have p2 := HP2.out
  have HB7 := Lib.hid ((base2 w _ _ _).trans (hb7.mono (by simp only [World.size_alloc]; omega)))
  clear hb7
  go_wp2_with fail
  refine (rtime_d _ _).mono ?_
  rintro e w' ⟨rfl, rfl⟩
  rw [H1.out]
  go_wp2_with fail
  refine (rbehind_any x ti _).mono ?_
  rintro e w8 ⟨rfl, hb8⟩
  rw [HBH.out]
  have hx8 := hx7.kept hb8
  have hz8 := hz7.kept hb8
  have HP1 := Lib.hid (oldcell HP1.out hb8 (by have := hx7.lt; have := hz7.lt; omega))
  have HP2 := Lib.hid (oldcell HP2.out hb8 (by have := hx7.lt; have := hz7.lt; omega))
  have HB8 := Lib.hid (HB7.out.trans (hb8.mono HB7.out.size))
  clear hb8 hx7 hz7 xl x0 x1 x2 x3 x4 x5 xf zl z0 z1 z2 z3 z4 z5 zf p1 p2
  obtain ⟨xl, x0, x1, x2, x3, x4, x5, xf⟩ := id hx8
  obtain ⟨zl, z0, z1, z2, z3, z4, z5, zf⟩ := id hz8
  have p1 := HP1.out
  have p2 := HP2.out
  clear hx8 hz8
  go_wp2_with fail
  refine bodyPost_ret (by simp [results, Try.results16, go_sem, z0, z1, z2, z3, z4, z5]; rfl) rfl ?_
  exact ⟨rfl, by have := HB8.out; go_grown⟩

set_option maxRecDepth 100000 in
set_option maxHeartbeats 8000000 in
theorem racked_slow (x : Win) (nu ti si : Int) (b1 b2 b3 : Bool) (full : Bool) (hx : Ok x) (H1 : Hid (timeB ti = true)) (s1 : 1 ≤ si) (s2 : si ≤ 65535) (HBH : Hid (decide (Behind x ti) = true)) (hf : full = true) (HSL : Hid (slowB x = true)) (w : World) :
    Calls Try.prog 16 #[.agg #[.int .i64 x.d, .int .i64 x.m, .int .i64 x.c, .int .i64 x.t, .int .i64 x.s, .int .i64 x.g], .agg #[.int .i64 nu, .int .i64 ti, .int .i64 si, .bool b1, .bool b2, .bool b3], .bool full] w fun e w' => e = .returned (.tuple #[.agg #[.int .i64 x.d, .int .i64 x.m, .int .i64 (mn (x.c + si) x.m), .int .i64 x.t, .int .i64 x.s, .int .i64 x.g], .int .i64 0]) ∧ Below w.heap.size w w' := by
  subst hf
  have HC := hck_ok hx
  have s3 : decide (si < 1) = false := by rw [decide_eq_false_iff_not]; omega
  have s4 : decide (65535 < si) = false := by rw [decide_eq_false_iff_not]; omega
  have f8 : 0 ≤ x.c := by have := hx.c0; have := hx.d0; omega
  have f9 : x.c ≤ 1099511627776 := by have := hx.c1; have := hx.m1; omega
  clear hx
  go_enter Try.func16, Try.ntmps16
  go_wp2_with fail
  refine (rcheck_is x 0 _ HC).mono ?_
  rintro e w7 ⟨rfl, hb7⟩
  have hx7 := BW.kept (((BW.new w x 26).alloc (.cells #[.int .i64 nu, .int .i64 ti, .int .i64 si, .bool b1, .bool b2, .bool b3] 34)).alloc (.cells #[.int .i64 0, .int .i64 0, .int .i64 0, .int .i64 0, .int .i64 0, .int .i64 0] 26)) hb7
  have hz7 : BW w7 (w.heap.size + 1 + 1) zero := BW.kept (BW.new2 w _ _ zero 26) hb7
  have HP1 := Lib.hid (oldcell (cell_old (b := w.heap.size + 1) (j := 1) (v := .int .i64 ti) (by simp) (by simp)) hb7 (by simp <;> omega))
  have HP2 := Lib.hid (oldcell (cell_old (b := w.heap.size + 1) (j := 2) (v := .int .i64 si) (by simp) (by simp)) hb7 (by simp <;> omega))
  obtain ⟨xl, x0, x1, x2, x3, x4, x5, xf⟩ := id hx7
  obtain ⟨zl, z0, z1, z2, z3, z4, z5, zf⟩ := id hz7
  have p1 := HP1.out
  have p2 := HP2.out
  have HB7 := Lib.hid ((base2 w _ _ _).trans (hb7.mono (by simp only [World.size_alloc]; omega)))
  clear hb7
  go_wp2_with fail
  refine (rtime_d _ _).mono ?_
  rintro e w' ⟨rfl, rfl⟩
  rw [H1.out]
  go_wp2_with fail
  refine (rbehind_any x ti _).mono ?_
  rintro e w8 ⟨rfl, hb8⟩
  rw [HBH.out]
  have hx8 := hx7.kept hb8
  have hz8 := hz7.kept hb8
  have HP1 := Lib.hid (oldcell HP1.out hb8 (by have := hx7.lt; have := hz7.lt; omega))
  have HP2 := Lib.hid (oldcell HP2.out hb8 (by have := hx7.lt; have := hz7.lt; omega))
  have HB8 := Lib.hid (HB7.out.trans (hb8.mono HB7.out.size))
  clear hb8 hx7 hz7 xl x0 x1 x2 x3 x4 x5 xf zl z0 z1 z2 z3 z4 z5 zf p1 p2
  obtain ⟨xl, x0, x1, x2, x3, x4, x5, xf⟩ := id hx8
  obtain ⟨zl, z0, z1, z2, z3, z4, z5, zf⟩ := id hz8
  have p1 := HP1.out
  have p2 := HP2.out
  go_wp2_with fail
  refine (rslow_is x true _ HSL).mono ?_
  rintro e w9 ⟨rfl, hb9⟩
  have hx9 := hx8.kept hb9
  have hz9 := hz8.kept hb9
  have HP1 := Lib.hid (oldcell HP1.out hb9 (by have := hx8.lt; have := hz8.lt; omega))
  have HP2 := Lib.hid (oldcell HP2.out hb9 (by have := hx8.lt; have := hz8.lt; omega))
  have HB9 := Lib.hid (HB8.out.trans (hb9.mono HB8.out.size))
  clear hb9 hx8 hz8 xl x0 x1 x2 x3 x4 x5 xf zl z0 z1 z2 z3 z4 z5 zf p1 p2
  obtain ⟨xl, x0, x1, x2, x3, x4, x5, xf⟩ := id hx9
  obtain ⟨zl, z0, z1, z2, z3, z4, z5, zf⟩ := id hz9
  have p1 := HP1.out
  have p2 := HP2.out
  go_upto_region 10 with (fail)
  clear xl x0 x1 x2 x3 x4 x5 xf zl z0 z1 z2 z3 z4 z5 zf p1 p2
  obtain ⟨K, hK⟩ : ∃ K, (if x.m < x.c + si then x.m else x.c + si) = K := ⟨_, rfl⟩
  rw [hK]
  rw [mn_lt] at hK
  have HK := Lib.hid hK
  clear hK
  obtain ⟨W9, hW9⟩ : ∃ W, (w9.setCell ⟨w.heap.size, 2, none⟩ (.int .i64 K)) = W := ⟨_, rfl⟩
  rw [hW9]
  obtain ⟨xl, x0, x1, x2, x3, x4, x5, xf⟩ : Bx W9 w.heap.size x.d x.m K x.t x.s x.g := hW9 ▸ Bx.setC hx9 K
  have HBA : Hid (Below w.heap.size w W9) := hW9 ▸ (by show Below _ _ _; have := HB9.out; go_grown)
  obtain ⟨zl, z0, z1, z2, z3, z4, z5, zf⟩ : BW W9 (w.heap.size + 1 + 1) zero := hW9 ▸ BW.farS hz9 _ 2 (by omega) _
  clear hW9 hx9 hz9 HB9
  go_wp2_with fail
  refine bodyPost_ret (by simp [results, Try.results16, go_sem, z0, z1, z2, z3, z4, z5]; rfl) rfl ?_
  exact ⟨by rw [HK.out], by have := HBA.out; go_grown⟩

set_option maxRecDepth 100000 in
set_option maxHeartbeats 8000000 in
theorem racked_loop (x : Win) (nu ti si : Int) (b1 b2 b3 : Bool) (full : Bool) (hx : Ok x) (H1 : Hid (timeB ti = true)) (s1 : 1 ≤ si) (s2 : si ≤ 65535) (HBH : Hid (decide (Behind x ti) = true)) (hf : full = true) (HSL : Hid (slowB x = false)) (w : World) :
    Calls Try.prog 16 #[.agg #[.int .i64 x.d, .int .i64 x.m, .int .i64 x.c, .int .i64 x.t, .int .i64 x.s, .int .i64 x.g], .agg #[.int .i64 nu, .int .i64 ti, .int .i64 si, .bool b1, .bool b2, .bool b3], .bool full] w fun e w' => e = .returned (.tuple #[.agg #[.int .i64 x.d, .int .i64 x.m, .int .i64 (slowly x.d x.m (x.g + si) x.c).2, .int .i64 x.t, .int .i64 x.s, .int .i64 (slowly x.d x.m (x.g + si) x.c).1], .int .i64 0]) ∧ Below w.heap.size w w' := by
  subst hf
  obtain ⟨o1, o2, o3, o4, o5, _, _, o6, o7⟩ := id hx
  have HC := hck_ok hx
  have s3 : decide (si < 1) = false := by rw [decide_eq_false_iff_not]; omega
  have s4 : decide (65535 < si) = false := by rw [decide_eq_false_iff_not]; omega
  have f8 : 0 ≤ x.c := by have := hx.c0; have := hx.d0; omega
  have f9 : x.c ≤ 1099511627776 := by have := hx.c1; have := hx.m1; omega
  clear hx
  go_enter Try.func16, Try.ntmps16
  go_wp2_with fail
  refine (rcheck_is x 0 _ HC).mono ?_
  rintro e w7 ⟨rfl, hb7⟩
  have hx7 := BW.kept (((BW.new w x 26).alloc (.cells #[.int .i64 nu, .int .i64 ti, .int .i64 si, .bool b1, .bool b2, .bool b3] 34)).alloc (.cells #[.int .i64 0, .int .i64 0, .int .i64 0, .int .i64 0, .int .i64 0, .int .i64 0] 26)) hb7
  have hz7 : BW w7 (w.heap.size + 1 + 1) zero := BW.kept (BW.new2 w _ _ zero 26) hb7
  have HP1 := Lib.hid (oldcell (cell_old (b := w.heap.size + 1) (j := 1) (v := .int .i64 ti) (by simp) (by simp)) hb7 (by simp <;> omega))
  have HP2 := Lib.hid (oldcell (cell_old (b := w.heap.size + 1) (j := 2) (v := .int .i64 si) (by simp) (by simp)) hb7 (by simp <;> omega))
  obtain ⟨xl, x0, x1, x2, x3, x4, x5, xf⟩ := id hx7
  obtain ⟨zl, z0, z1, z2, z3, z4, z5, zf⟩ := id hz7
  have p1 := HP1.out
  have p2 := HP2.out
  have HB7 := Lib.hid ((base2 w _ _ _).trans (hb7.mono (by simp only [World.size_alloc]; omega)))
  clear hb7
  go_wp2_with fail
  refine (rtime_d _ _).mono ?_
  rintro e w' ⟨rfl, rfl⟩
  rw [H1.out]
  go_wp2_with fail
  refine (rbehind_any x ti _).mono ?_
  rintro e w8 ⟨rfl, hb8⟩
  rw [HBH.out]
  have hx8 := hx7.kept hb8
  have hz8 := hz7.kept hb8
  have HP1 := Lib.hid (oldcell HP1.out hb8 (by have := hx7.lt; have := hz7.lt; omega))
  have HP2 := Lib.hid (oldcell HP2.out hb8 (by have := hx7.lt; have := hz7.lt; omega))
  have HB8 := Lib.hid (HB7.out.trans (hb8.mono HB7.out.size))
  clear hb8 hx7 hz7 xl x0 x1 x2 x3 x4 x5 xf zl z0 z1 z2 z3 z4 z5 zf p1 p2
  obtain ⟨xl, x0, x1, x2, x3, x4, x5, xf⟩ := id hx8
  obtain ⟨zl, z0, z1, z2, z3, z4, z5, zf⟩ := id hz8
  have p1 := HP1.out
  have p2 := HP2.out
  go_wp2_with fail
  refine (rslow_is x false _ HSL).mono ?_
  rintro e w9 ⟨rfl, hb9⟩
  have hx9 := hx8.kept hb9
  have hz9 := hz8.kept hb9
  have HP1 := Lib.hid (oldcell HP1.out hb9 (by have := hx8.lt; have := hz8.lt; omega))
  have HP2 := Lib.hid (oldcell HP2.out hb9 (by have := hx8.lt; have := hz8.lt; omega))
  have HB9 := Lib.hid (HB8.out.trans (hb9.mono HB8.out.size))
  clear hb9 hx8 hz8 xl x0 x1 x2 x3 x4 x5 xf zl z0 z1 z2 z3 z4 z5 zf p1 p2
  obtain ⟨xl, x0, x1, x2, x3, x4, x5, xf⟩ := id hx9
  obtain ⟨zl, z0, z1, z2, z3, z4, z5, zf⟩ := id hz9
  have p1 := HP1.out
  have p2 := HP2.out
  have f5 : IntKind.i64.wrap (x.g + si) = x.g + si := IntWalk.i64_in _ (by omega)
  go_wp2_with fail
  clear xl x0 x1 x2 x3 x4 x5 xf zl z0 z1 z2 z3 z4 z5 zf p1 p2
  have HX0 := Lib.hid (Bx.setR hx9 (x.g + si))
  have HZ0 := Lib.hid (BW.farS hz9 w.heap.size 5 (by omega) (.int .i64 (x.g + si)))
  have HB0 : Hid (Below w.heap.size w (w9.setCell ⟨w.heap.size, 5, none⟩ (.int .i64 (x.g + si)))) := by show Below _ _ _; have := HB9.out; go_grown
  clear hx9 hz9
  go_loopw [] (fun wr => ∃ g' c' : Int, Bx wr w.heap.size x.d x.m c' x.t x.s g' ∧ BW wr (w.heap.size + 1 + 1) zero ∧ Below w.heap.size w wr ∧ slowly x.d x.m g' c' = slowly x.d x.m (x.g + si) x.c ∧ 0 ≤ g' ∧ 2 * x.d ≤ c' ∧ c' ≤ x.m ∧ g' ≤ x.g + si) (fun wr => gotOf w.heap.size wr)
  case atStart => exact ⟨x.g + si, x.c, HX0.out, HZ0.out, HB0.out, rfl, by omega, by omega, by omega, by omega⟩
  case round =>
    obtain ⟨g', c', hX, hZ, hW, he, h0, h1, h2, h3⟩ := hrel
    obtain ⟨wo, rfl⟩ : ∃ wo : World, wo = wr := ⟨_, rfl⟩
    clear HX0 HZ0 HB0
    have HE := Lib.hid he
    clear he
    obtain ⟨xl, x0, x1, x2, x3, x4, x5, xf⟩ := id hX
    by_cases hlt : c' ≤ g'
    · have d1 : decide (c' ≤ g') = true := decide_eq_true hlt
      have e1 : IntKind.i64.wrap (g' - c') = g' - c' := IntWalk.i64_in _ (by omega)
      have e2 : IntKind.i64.wrap (c' + x.d) = c' + x.d := IntWalk.i64_in _ (by omega)
      go_wp2_with fail
      have hs := slowly_yes x.d x.m g' c' (by omega) (by omega) (by omega) hlt
      have hm2 : mn (c' + x.d) x.m ≤ x.m ∧ c' ≤ mn (c' + x.d) x.m := by unfold mn; split <;> omega
      have hX2 := (Bx.setR hX (g' - c')).setC (mn (c' + x.d) x.m)
      have hZ2 := BW.farS (BW.farS hZ w.heap.size 5 (by omega) (.int .i64 (g' - c'))) w.heap.size 2 (by omega) (.int .i64 (mn (c' + x.d) x.m))
      have hW2 : Below w.heap.size w ((wo.setCell ⟨w.heap.size, 5, none⟩ (.int .i64 (g' - c'))).setCell ⟨w.heap.size, 2, none⟩ (.int .i64 (mn (c' + x.d) x.m))) := by go_grown
      rw [mn_lt]
      refine ⟨⟨g' - c', mn (c' + x.d) x.m, hX2, hZ2, hW2, hs ▸ HE.out, by omega, by omega, by omega, by omega⟩, ?_⟩
      rw [Bx.got hX2, Bx.got hX]
      omega
    · have d1 : decide (c' ≤ g') = false := decide_eq_false hlt
      obtain ⟨zl, z0, z1, z2, z3, z4, z5, zf⟩ := id hZ
      have hs := slowly_no x.d x.m g' c' (by omega)
      have HS := Lib.hid hs
      clear hs
      go_wp2_with fail
      refine bodyPost_ret (by simp [results, Try.results16, go_sem, z0, z1, z2, z3, z4, z5]; rfl) rfl ?_
      exact ⟨by rw [← HE.out, HS.out], by go_grown⟩

theorem slowB_of {x : Win} (h : Ok x) : slowB x = decide (Slow x) := by unfold slowB; rw [decide_eq_true h, Bool.true_and]
theorem racked_any (x : Win) (nu ti si : Int) (b1 b2 b3 full : Bool) (r : Win) (er : Int) (w : World) (h1 : Hid (chW x (acked x ti si full) (rightP ti si) = r)) (h2 : Hid (chE x (rightP ti si) = er)) :
    Calls Try.prog 16 #[.agg #[.int .i64 x.d, .int .i64 x.m, .int .i64 x.c, .int .i64 x.t, .int .i64 x.s, .int .i64 x.g], .agg #[.int .i64 nu, .int .i64 ti, .int .i64 si, .bool b1, .bool b2, .bool b3], .bool full] w fun e w' => e = .returned (.tuple #[.agg #[.int .i64 r.d, .int .i64 r.m, .int .i64 r.c, .int .i64 r.t, .int .i64 r.s, .int .i64 r.g], .int .i64 er]) ∧ Below w.heap.size w w' := by
  have e1 := h1.out
  have e2 := h2.out
  subst e1 e2
  by_cases hx : Ok x
  · have no' : ∀ b : Bool, b = false → chW x (acked x ti si full) b = zero ∧ chE x b = 9 := fun b hb => by subst hb; exact ⟨if_neg (fun h => by simpa using h.2), by unfold chE; rw [if_pos hx]; rfl⟩
    by_cases ht : 0 ≤ ti ∧ ti ≤ 9007199254740991
    · have H1 : Hid (timeB ti = true) := decide_eq_true ht
      by_cases s1 : 1 ≤ si
      · by_cases s2 : si ≤ 65535
        · rw [show rightP ti si = true from decide_eq_true ⟨ht, s1, s2⟩, chW_ok hx, chE_ok hx]
          by_cases hb : Behind x ti
          · cases hf : full
            · rw [acked_idle]
              exact racked_idle x nu ti si b1 b2 b3 false hx H1 s1 s2 (decide_eq_true hb) rfl w
            · by_cases hs : Slow x
              · rw [show acked x ti si true = { x with c := mn (x.c + si) x.m } by unfold acked; rw [if_pos ⟨rfl, hb⟩, if_pos hs]]
                exact racked_slow x nu ti si b1 b2 b3 true hx H1 s1 s2 (decide_eq_true hb) rfl ((slowB_of hx).trans (decide_eq_true hs)) w
              · rw [show acked x ti si true = { x with c := (slowly x.d x.m (x.g + si) x.c).2, g := (slowly x.d x.m (x.g + si) x.c).1 } by unfold acked; rw [if_pos ⟨rfl, hb⟩, if_neg hs]]
                exact racked_loop x nu ti si b1 b2 b3 true hx H1 s1 s2 (decide_eq_true hb) rfl ((slowB_of hx).trans (decide_eq_false hs)) w
          · rw [acked_past x ti si full hb]
            exact racked_past x nu ti si b1 b2 b3 full hx H1 s1 s2 (decide_eq_false hb) w
        · have hr : rightP ti si = false := decide_eq_false (fun h => s2 h.2.2)
          rw [(no' _ hr).1, (no' _ hr).2]
          exact racked_s1 x nu ti si b1 b2 b3 full hx H1 s1 (by omega) w
      · have hr : rightP ti si = false := decide_eq_false (fun h => s1 h.2.1)
        rw [(no' _ hr).1, (no' _ hr).2]
        exact racked_s0 x nu ti si b1 b2 b3 full hx H1 (by omega) w
    · have hr : rightP ti si = false := decide_eq_false (fun h => ht h.1)
      rw [(no' _ hr).1, (no' _ hr).2]
      exact racked_t x nu ti si b1 b2 b3 full hx (decide_eq_false ht) w
  · rw [show chW x (acked x ti si full) (rightP ti si) = zero from if_neg (fun h => hx h.1), show chE x (rightP ti si) = 2 from if_neg hx]
    exact racked_no x nu ti si b1 b2 b3 full hx w
end Go.Proofs.Ytcjhankepchioaa
