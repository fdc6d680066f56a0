/-
  The reference's Bad.
-/
import Derived.Test.YtcjhankepchioaaRb
namespace Go.Proofs.Ytcjhankepchioaa
open Go.RowKit (wrap32 wrap64)
open Go.RowKit
set_option linter.unusedVariables false
set_option linter.unusedSimpArgs false

theorem rtime_d (n : Int) (w : World) : Calls Try.prog 37 #[.int .i64 n] w fun e w' => e = .returned (.bool (timeB n)) ∧ w = w' := by
  have e : timeB n = (decide (0 ≤ n) && decide (n ≤ 9007199254740991)) := by unfold timeB; exact Bool.decide_and _ _
  rw [e]; exact rtime_any n w

set_option maxRecDepth 100000 in
set_option maxHeartbeats 4000000 in
theorem rbad_no (x : Win) (se no : Int) (hx : ¬ Ok x) (w : World) :
    Calls Try.prog 18 #[.agg #[.int .i64 x.d, .int .i64 x.m, .int .i64 x.c, .int .i64 x.t, .int .i64 x.s, .int .i64 x.g], .int .i64 se, .int .i64 no] w fun e w' => e = .returned (.tuple #[.agg #[.int .i64 zero.d, .int .i64 zero.m, .int .i64 zero.c, .int .i64 zero.t, .int .i64 zero.s, .int .i64 zero.g], .int .i64 2]) ∧ Below w.heap.size w w' := by
  have HC := hck_no hx
  clear hx
  go_enter Try.func18, Try.ntmps18
  go_wp2_with fail
  refine (rcheck_is x 2 _ HC).mono ?_
  rintro e w7 ⟨rfl, hb7⟩
  have hx7 := BW.kept (BW.alloc (BW.new w x 26) _) hb7
  have hz7 := BW.kept (BW.new1 w _ zero 26) hb7
  obtain ⟨xl, x0, x1, x2, x3, x4, x5, xf⟩ := id hx7
  obtain ⟨zl, z0, z1, z2, z3, z4, z5, zf⟩ := id hz7
  have HB7 := Lib.hid (((Below.refl w.heap.size w).alloc (Nat.le_refl _) _ |>.alloc (by simp) _).trans (hb7.mono (by simp only [World.size_alloc]; omega)))
  clear hb7
  clear hx7 hz7
  go_wp2_with fail
  refine bodyPost_ret (by simp [results, Try.results18, go_sem, z0, z1, z2, z3, z4, z5]; rfl) rfl ?_
  exact ⟨rfl, by have := HB7.out; go_grown⟩

set_option maxRecDepth 100000 in
set_option maxHeartbeats 4000000 in
theorem rbad_t1 (x : Win) (se no : Int) (hx : Ok x) (H1 : Hid (timeB se = false)) (w : World) :
    Calls Try.prog 18 #[.agg #[.int .i64 x.d, .int .i64 x.m, .int .i64 x.c, .int .i64 x.t, .int .i64 x.s, .int .i64 x.g], .int .i64 se, .int .i64 no] w fun e w' => e = .returned (.tuple #[.agg #[.int .i64 zero.d, .int .i64 zero.m, .int .i64 zero.c, .int .i64 zero.t, .int .i64 zero.s, .int .i64 zero.g], .int .i64 9]) ∧ Below w.heap.size w w' := by
  have HC := hck_ok hx
  clear hx
  go_enter Try.func18, Try.ntmps18
  go_wp2_with fail
  refine (rcheck_is x 0 _ HC).mono ?_
  rintro e w7 ⟨rfl, hb7⟩
  have hx7 := BW.kept (BW.alloc (BW.new w x 26) _) hb7
  have hz7 := BW.kept (BW.new1 w _ zero 26) hb7
  obtain ⟨xl, x0, x1, x2, x3, x4, x5, xf⟩ := id hx7
  obtain ⟨zl, z0, z1, z2, z3, z4, z5, zf⟩ := id hz7
  have HB7 := Lib.hid (((Below.refl w.heap.size w).alloc (Nat.le_refl _) _ |>.alloc (by simp) _).trans (hb7.mono (by simp only [World.size_alloc]; omega)))
  clear hb7
  clear hx7 hz7
  go_wp2_with fail
  refine (rtime_d _ _).mono ?_
  rintro e w' ⟨rfl, rfl⟩
  rw [H1.out]
  go_wp2_with fail
  refine bodyPost_ret (by simp [results, Try.results18, go_sem, z0, z1, z2, z3, z4, z5]; rfl) rfl ?_
  exact ⟨rfl, by have := HB7.out; go_grown⟩

set_option maxRecDepth 100000 in
set_option maxHeartbeats 4000000 in
theorem rbad_t2 (x : Win) (se no : Int) (hx : Ok x) (H1 : Hid (timeB se = true)) (H2 : Hid (timeB no = false)) (w : World) :
    Calls Try.prog 18 #[.agg #[.int .i64 x.d, .int .i64 x.m, .int .i64 x.c, .int .i64 x.t, .int .i64 x.s, .int .i64 x.g], .int .i64 se, .int .i64 no] w fun e w' => e = .returned (.tuple #[.agg #[.int .i64 zero.d, .int .i64 zero.m, .int .i64 zero.c, .int .i64 zero.t, .int .i64 zero.s, .int .i64 zero.g], .int .i64 9]) ∧ Below w.heap.size w w' := by
  have HC := hck_ok hx
  clear hx
  go_enter Try.func18, Try.ntmps18
  go_wp2_with fail
  refine (rcheck_is x 0 _ HC).mono ?_
  rintro e w7 ⟨rfl, hb7⟩
  have hx7 := BW.kept (BW.alloc (BW.new w x 26) _) hb7
  have hz7 := BW.kept (BW.new1 w _ zero 26) hb7
  obtain ⟨xl, x0, x1, x2, x3, x4, x5, xf⟩ := id hx7
  obtain ⟨zl, z0, z1, z2, z3, z4, z5, zf⟩ := id hz7
  have HB7 := Lib.hid (((Below.refl w.heap.size w).alloc (Nat.le_refl _) _ |>.alloc (by simp) _).trans (hb7.mono (by simp only [World.size_alloc]; omega)))
  clear hb7
  clear hx7 hz7
  go_wp2_with fail
  refine (rtime_d _ _).mono ?_
  rintro e w' ⟨rfl, rfl⟩
  rw [H1.out]
  go_wp2_with fail
  refine (rtime_d _ _).mono ?_
  rintro e w' ⟨rfl, rfl⟩
  rw [H2.out]
  go_wp2_with fail
  refine bodyPost_ret (by simp [results, Try.results18, go_sem, z0, z1, z2, z3, z4, z5]; rfl) rfl ?_
  exact ⟨rfl, by have := HB7.out; go_grown⟩

set_option maxRecDepth 100000 in
set_option maxHeartbeats 4000000 in
theorem rbad_past (x : Win) (se no : Int) (hx : Ok x) (H1 : Hid (timeB se = true)) (H2 : Hid (timeB no = true)) (HBH : Hid (decide (Behind x se) = false)) (w : World) :
    Calls Try.prog 18 #[.agg #[.int .i64 x.d, .int .i64 x.m, .int .i64 x.c, .int .i64 x.t, .int .i64 x.s, .int .i64 x.g], .int .i64 se, .int .i64 no] w fun e w' => e = .returned (.tuple #[.agg #[.int .i64 x.d, .int .i64 x.m, .int .i64 x.c, .int .i64 x.t, .int .i64 x.s, .int .i64 x.g], .int .i64 0]) ∧ Below w.heap.size w w' := by
  have HC := hck_ok hx
  clear hx
  go_enter Try.func18, Try.ntmps18
  go_wp2_with fail
  refine (rcheck_is x 0 _ HC).mono ?_
  rintro e w7 ⟨rfl, hb7⟩
  have hx7 := BW.kept (BW.alloc (BW.new w x 26) _) hb7
  have hz7 := BW.kept (BW.new1 w _ zero 26) hb7
  obtain ⟨xl, x0, x1, x2, x3, x4, x5, xf⟩ := id hx7
  obtain ⟨zl, z0, z1, z2, z3, z4, z5, zf⟩ := id hz7
  have HB7 := Lib.hid (((Below.refl w.heap.size w).alloc (Nat.le_refl _) _ |>.alloc (by simp) _).trans (hb7.mono (by simp only [World.size_alloc]; omega)))
  clear hb7
  go_wp2_with fail
  refine (rtime_d _ _).mono ?_
  rintro e w' ⟨rfl, rfl⟩
  rw [H1.out]
  go_wp2_with fail
  refine (rtime_d _ _).mono ?_
  rintro e w' ⟨rfl, rfl⟩
  rw [H2.out]
  go_wp2_with fail
  refine (rbehind_any x se _).mono ?_
  rintro e w8 ⟨rfl, hb8⟩
  rw [HBH.out]
  have hx8 := hx7.kept hb8
  have hz8 := hz7.kept hb8
  have HB8 := Lib.hid (HB7.out.trans (hb8.mono HB7.out.size))
  clear hb8 hx7 hz7 xl x0 x1 x2 x3 x4 x5 xf zl z0 z1 z2 z3 z4 z5 zf
  obtain ⟨xl, x0, x1, x2, x3, x4, x5, xf⟩ := id hx8
  obtain ⟨zl, z0, z1, z2, z3, z4, z5, zf⟩ := id hz8
  clear hx8 hz8
  go_wp2_with fail
  refine bodyPost_ret (by simp [results, Try.results18, go_sem, z0, z1, z2, z3, z4, z5]; rfl) rfl ?_
  exact ⟨rfl, by have := HB8.out; go_grown⟩

set_option maxRecDepth 100000 in
set_option maxHeartbeats 4000000 in
theorem rbad_yes (x : Win) (se no : Int) (hx : Ok x) (H1 : Hid (timeB se = true)) (H2 : Hid (timeB no = true)) (HBH : Hid (decide (Behind x se) = true)) (w : World) :
    Calls Try.prog 18 #[.agg #[.int .i64 x.d, .int .i64 x.m, .int .i64 x.c, .int .i64 x.t, .int .i64 x.s, .int .i64 x.g], .int .i64 se, .int .i64 no] w fun e w' => e = .returned (.tuple #[.agg #[.int .i64 x.d, .int .i64 x.m, .int .i64 (mx (x.c / 2) (2 * x.d)), .int .i64 (x.c / 2), .int .i64 no, .int .i64 0], .int .i64 0]) ∧ Below w.heap.size w w' := by
  have HC := hck_ok hx
  have f6 : IntKind.i64.wrap (2 * x.d) = 2 * x.d := IntWalk.i64_in _ (by have := hx.d0; have := hx.d1; omega)
  have f8 : 0 ≤ x.c := by have := hx.c0; have := hx.d0; omega
  have f9 : x.c ≤ 1099511627776 := by have := hx.c1; have := hx.m1; omega
  have f1 : 0 ≤ x.d := by have := hx.d0; omega
  have f2 : x.d ≤ 65527 := hx.d1
  clear hx
  go_enter Try.func18, Try.ntmps18
  go_wp2_with fail
  refine (rcheck_is x 0 _ HC).mono ?_
  rintro e w7 ⟨rfl, hb7⟩
  have hx7 := BW.kept (BW.alloc (BW.new w x 26) _) hb7
  have hz7 := BW.kept (BW.new1 w _ zero 26) hb7
  obtain ⟨xl, x0, x1, x2, x3, x4, x5, xf⟩ := id hx7
  obtain ⟨zl, z0, z1, z2, z3, z4, z5, zf⟩ := id hz7
  have HB7 := Lib.hid (((Below.refl w.heap.size w).alloc (Nat.le_refl _) _ |>.alloc (by simp) _).trans (hb7.mono (by simp only [World.size_alloc]; omega)))
  clear hb7
  go_wp2_with fail
  refine (rtime_d _ _).mono ?_
  rintro e w' ⟨rfl, rfl⟩
  rw [H1.out]
  go_wp2_with fail
  refine (rtime_d _ _).mono ?_
  rintro e w' ⟨rfl, rfl⟩
  rw [H2.out]
  go_wp2_with fail
  refine (rbehind_any x se _).mono ?_
  rintro e w8 ⟨rfl, hb8⟩
  rw [HBH.out]
  have hx8 := hx7.kept hb8
  have hz8 := hz7.kept hb8
  have HB8 := Lib.hid (HB7.out.trans (hb8.mono HB7.out.size))
  clear hb8 hx7 hz7 xl x0 x1 x2 x3 x4 x5 xf zl z0 z1 z2 z3 z4 z5 zf
  obtain ⟨xl, x0, x1, x2, x3, x4, x5, xf⟩ := id hx8
  obtain ⟨zl, z0, z1, z2, z3, z4, z5, zf⟩ := id hz8
  go_upto_region 10 with (fail)
  go_upto_region 11 with (fail)
  go_upto_region 12 with (fail)
  clear xl x0 x1 x2 x3 x4 x5 xf zl z0 z1 z2 z3 z4 z5 zf
  obtain ⟨K, hK⟩ : ∃ K, (if x.c / 2 < 2 * x.d then 2 * x.d else x.c / 2) = K := ⟨_, rfl⟩
  rw [hK]
  rw [mx_lt] at hK
  have HK := Lib.hid hK
  clear hK
  obtain ⟨W9, hW9⟩ : ∃ W, ((((w8.setCell ⟨w.heap.size, 4, none⟩ (.int .i64 no)).setCell ⟨w.heap.size, 3, none⟩ (.int .i64 (x.c / 2))).setCell ⟨w.heap.size, 2, none⟩ (.int .i64 K)).setCell ⟨w.heap.size, 5, none⟩ (.int .i64 0)) = W := ⟨_, rfl⟩
  rw [hW9]
  have hl := hz8.lt
  obtain ⟨xl, x0, x1, x2, x3, x4, x5, xf⟩ : Bx W9 w.heap.size x.d x.m K (x.c / 2) no 0 := hW9 ▸ (((Bx.setS hx8 no).setT (x.c / 2)).setC K).setR 0
  have HB9 : Hid (Below w.heap.size w W9) := hW9 ▸ (by show Below _ _ _; have := HB8.out; go_grown)
  obtain ⟨zl, z0, z1, z2, z3, z4, z5, zf⟩ : BW W9 (w.heap.size + 1) zero := hW9 ▸ BW.farS (BW.farS (BW.farS (BW.farS hz8 _ 4 (by omega) _) _ 3 (by omega) _) _ 2 (by omega) _) _ 5 (by omega) _
  clear hW9 hx8 hz8 HB8
  go_wp2_with fail
  refine bodyPost_ret (by simp [results, Try.results18, go_sem, z0, z1, z2, z3, z4, z5]; rfl) rfl ?_
  exact ⟨by rw [HK.out], by have := HB9.out; go_grown⟩
theorem rbad_any (x : Win) (se no : Int) (r : Win) (er : Int) (w : World) (h1 : Hid (chW x (bad x se no) (timeB se && timeB no) = r)) (h2 : Hid (chE x (timeB se && timeB no) = er)) :
    Calls Try.prog 18 #[.agg #[.int .i64 x.d, .int .i64 x.m, .int .i64 x.c, .int .i64 x.t, .int .i64 x.s, .int .i64 x.g], .int .i64 se, .int .i64 no] w fun e w' => e = .returned (.tuple #[.agg #[.int .i64 r.d, .int .i64 r.m, .int .i64 r.c, .int .i64 r.t, .int .i64 r.s, .int .i64 r.g], .int .i64 er]) ∧ Below w.heap.size w w' := by
  have e1 := h1.out
  have e2 := h2.out
  subst e1 e2
  by_cases hx : Ok x
  · have no' : ∀ b : Bool, b = false → chW x (bad x se no) b = zero ∧ chE x b = 9 := fun b hb => by subst hb; exact ⟨if_neg (fun h => by simpa using h.2), by unfold chE; rw [if_pos hx]; rfl⟩
    cases ht : timeB se
    · rw [Bool.false_and, (no' false rfl).1, (no' false rfl).2]; exact rbad_t1 x se no hx ht w
    · cases hn : timeB no
      · rw [Bool.and_false, (no' false rfl).1, (no' false rfl).2]; exact rbad_t2 x se no hx ht hn w
      · rw [Bool.and_self, chW_ok hx, chE_ok hx]
        by_cases hb : Behind x se
        · rw [show bad x se no = { x with s := no, t := x.c / 2, c := mx (x.c / 2) (2 * x.d), g := 0 } by unfold bad; rw [if_pos hb]]
          exact rbad_yes x se no hx ht hn (decide_eq_true hb) w
        · rw [bad_past x se no hb]
          exact rbad_past x se no hx ht hn (decide_eq_false hb) w
  · rw [show chW x (bad x se no) (timeB se && timeB no) = zero from if_neg (fun h => hx h.1), show chE x (timeB se && timeB no) = 2 from if_neg hx]
    exact rbad_no x se no hx w
end Go.Proofs.Ytcjhankepchioaa
