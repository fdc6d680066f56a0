/-
  The reference's Slow, New, behind, Collapse, Bad.
-/
import Derived.Test.YtcjhankepchioaaRa
namespace Go.Proofs.Ytcjhankepchioaa
open Go.RowKit (wrap32 wrap64)
open Go.RowKit
set_option linter.unusedVariables false
set_option linter.unusedSimpArgs false

theorem rcheck_is (x : Win) (er : Int) (w : World) (h : Hid ((if Ok x then (0 : Int) else 2) = er)) :
    Calls Try.prog 24 #[.agg #[.int .i64 x.d, .int .i64 x.m, .int .i64 x.c, .int .i64 x.t, .int .i64 x.s, .int .i64 x.g]] w fun e w' => e = .returned (.int .i64 er) ∧ Below w.heap.size w w' := by
  have h' := h.out
  subst h'
  exact rcheck_any x w
theorem BW.farS {W : World} {g : Nat} {x : Win} (h : BW W g x) (p o : Nat) (hp : p ≠ g) (v : Value) : BW (W.setCell ⟨p, o, none⟩ v) g x := by
  obtain ⟨l, k0, k1, k2, k3, k4, k5, kf⟩ := h
  have far : ∀ (W : World) (o q : Nat) (v : Value), (W.setCell ⟨p, o, none⟩ v).cell? ⟨g, q, none⟩ = W.cell? ⟨g, q, none⟩ := fun W o q v => World.cell?_setCell_far W _ _ v hp
  exact ⟨by simpa using l, by simp only [far, k0], by simp only [far, k1], by simp only [far, k2], by simp only [far, k3], by simp only [far, k4], by simp only [far, k5], fun o => by simp [go_sem, kf]⟩
theorem hck_ok {x : Win} (h : Ok x) : Hid ((if Ok x then (0 : Int) else 2) = 0) := if_pos h
theorem hck_no {x : Win} (h : ¬ Ok x) : Hid ((if Ok x then (0 : Int) else 2) = 2) := if_neg h

set_option maxHeartbeats 1000000 in
theorem rbehind_any (x : Win) (n : Int) (w : World) :
    Calls Try.prog 38 #[.agg #[.int .i64 x.d, .int .i64 x.m, .int .i64 x.c, .int .i64 x.t, .int .i64 x.s, .int .i64 x.g], .int .i64 n] w fun e w' => e = .returned (.bool (decide (Behind x n))) ∧ Below w.heap.size w w' := by
  rw [← behind_iff]
  by_cases h : x.s = -1
  · have e1 : (x.s == -1) = true := by rw [beq_iff_eq]; exact h
    rw [e1, Bool.true_or]
    clear h
    go_enter Try.func38, Try.ntmps38
    go_wp2_with fail
    go_ret
    exact ⟨rfl, by go_grown⟩
  · have e1 : (x.s == -1) = false := beq_eq_false_iff_ne.2 h
    rw [e1, Bool.false_or]
    clear h
    go_enter Try.func38, Try.ntmps38
    go_wp2_with fail
    go_ret
    exact ⟨rfl, by go_grown⟩

set_option maxHeartbeats 1000000 in
theorem rslow_any (x : Win) (w : World) :
    Calls Try.prog 26 #[.agg #[.int .i64 x.d, .int .i64 x.m, .int .i64 x.c, .int .i64 x.t, .int .i64 x.s, .int .i64 x.g]] w fun e w' => e = .returned (.bool (slowB x)) ∧ Below w.heap.size w w' := by
  by_cases hx : Ok x
  · have HC := hck_ok hx
    have hB : slowB x = (x.t == -1 || decide (x.c < x.t)) := by unfold slowB; rw [decide_eq_true hx, Bool.true_and, slow_iff]
    rw [hB]
    clear hx hB
    by_cases h : x.t = -1
    · have e1 : (x.t == -1) = true := by rw [beq_iff_eq]; exact h
      rw [e1, Bool.true_or]
      clear h
      go_enter Try.func26, Try.ntmps26
      go_wp2_with fail
      refine (rcheck_is x 0 _ HC).mono ?_
      rintro e w7 ⟨rfl, hb7⟩
      obtain ⟨xl, x0, x1, x2, x3, x4, x5, xf⟩ := BW.kept (BW.new w x 26) hb7
      have HB7 := Lib.hid (((Below.refl w.heap.size w).alloc (Nat.le_refl _) _).trans (hb7.mono (by simp)))
      clear hb7
      go_wp2_with fail
      go_ret
      exact ⟨rfl, HB7.out⟩
    · have e1 : (x.t == -1) = false := beq_eq_false_iff_ne.2 h
      rw [e1, Bool.false_or]
      clear h
      go_enter Try.func26, Try.ntmps26
      go_wp2_with fail
      refine (rcheck_is x 0 _ HC).mono ?_
      rintro e w7 ⟨rfl, hb7⟩
      obtain ⟨xl, x0, x1, x2, x3, x4, x5, xf⟩ := BW.kept (BW.new w x 26) hb7
      have HB7 := Lib.hid (((Below.refl w.heap.size w).alloc (Nat.le_refl _) _).trans (hb7.mono (by simp)))
      clear hb7
      go_wp2_with fail
      go_ret
      exact ⟨rfl, HB7.out⟩
  · have HC := hck_no hx
    rw [show slowB x = false by unfold slowB; rw [decide_eq_false hx, Bool.false_and]]
    clear hx
    go_enter Try.func26, Try.ntmps26
    go_wp2_with fail
    refine (rcheck_is x 2 _ HC).mono ?_
    rintro e w7 ⟨rfl, hb7⟩
    have HB7 := Lib.hid (((Below.refl w.heap.size w).alloc (Nat.le_refl _) _).trans (hb7.mono (by simp)))
    clear hb7
    go_wp2_with fail
    go_ret
    exact ⟨rfl, HB7.out⟩

set_option maxRecDepth 100000 in
set_option maxHeartbeats 4000000 in
theorem rnew_any (da fi mo : Int) (w : World) :
    Calls Try.prog 22 #[.int .i64 da, .int .i64 fi, .int .i64 mo] w fun e w' => e = .returned (.tuple #[.agg #[.int .i64 (newW da fi mo).d, .int .i64 (newW da fi mo).m, .int .i64 (newW da fi mo).c, .int .i64 (newW da fi mo).t, .int .i64 (newW da fi mo).s, .int .i64 (newW da fi mo).g], .int .i64 (newE da fi mo)]) ∧ Below w.heap.size w w' := by
  unfold newW newE
  by_cases h : Ok (first da fi mo)
  · simp only [h, if_true]
    have HC := hck_ok h
    clear h
    go_enter Try.func22, Try.ntmps22
    go_wp2_with fail
    refine (rcheck_is (first da fi mo) 0 _ HC).mono ?_
    rintro e w7 ⟨rfl, hb7⟩
    obtain ⟨zl, z0, z1, z2, z3, z4, z5, zf⟩ := BW.kept (BW.alloc (BW.new w zero 26) _) hb7
    obtain ⟨xl, x0, x1, x2, x3, x4, x5, xf⟩ := BW.kept (BW.new1 w _ (first da fi mo) 26) hb7
    have HB7 := Lib.hid (((Below.refl w.heap.size w).alloc (Nat.le_refl _) _ |>.alloc (by simp) _).trans (hb7.mono (by simp only [World.size_alloc]; omega)))
    clear hb7
    go_wp2_with fail
    refine bodyPost_ret (by simp [results, Try.results22, go_sem, z0, z1, z2, z3, z4, z5]; rfl) rfl ?_
    exact ⟨rfl, by have := HB7.out; go_grown⟩
  · simp only [h, if_false]
    have HC := hck_no h
    clear h
    go_enter Try.func22, Try.ntmps22
    go_wp2_with fail
    refine (rcheck_is (first da fi mo) 2 _ HC).mono ?_
    rintro e w7 ⟨rfl, hb7⟩
    obtain ⟨zl, z0, z1, z2, z3, z4, z5, zf⟩ := BW.kept (BW.alloc (BW.new w zero 26) _) hb7
    obtain ⟨xl, x0, x1, x2, x3, x4, x5, xf⟩ := BW.kept (BW.new1 w _ (first da fi mo) 26) hb7
    have HB7 := Lib.hid (((Below.refl w.heap.size w).alloc (Nat.le_refl _) _ |>.alloc (by simp) _).trans (hb7.mono (by simp only [World.size_alloc]; omega)))
    clear hb7
    go_wp2_with fail
    refine bodyPost_ret (by simp [results, Try.results22, go_sem, z0, z1, z2, z3, z4, z5]; rfl) rfl ?_
    exact ⟨rfl, by have := HB7.out; go_grown⟩

set_option maxRecDepth 100000 in
set_option maxHeartbeats 4000000 in
theorem rcollapse_no (x : Win) (hx : ¬ Ok x) (w : World) :
    Calls Try.prog 20 #[.agg #[.int .i64 x.d, .int .i64 x.m, .int .i64 x.c, .int .i64 x.t, .int .i64 x.s, .int .i64 x.g]] w fun e w' => e = .returned (.tuple #[.agg #[.int .i64 zero.d, .int .i64 zero.m, .int .i64 zero.c, .int .i64 zero.t, .int .i64 zero.s, .int .i64 zero.g], .int .i64 2]) ∧ Below w.heap.size w w' := by
  have HC := hck_no hx
  clear hx
  go_enter Try.func20, Try.ntmps20
  go_wp2_with fail
  refine (rcheck_is x 2 _ HC).mono ?_
  rintro e w7 ⟨rfl, hb7⟩
  have hx7 := BW.kept (BW.alloc (BW.new w x 26) _) hb7
  have hz7 := BW.kept (BW.new1 w _ zero 26) hb7
  obtain ⟨xl, x0, x1, x2, x3, x4, x5, xf⟩ := id hx7
  obtain ⟨zl, z0, z1, z2, z3, z4, z5, zf⟩ := id hz7
  have HB7 := Lib.hid (((Below.refl w.heap.size w).alloc (Nat.le_refl _) _ |>.alloc (by simp) _).trans (hb7.mono (by simp only [World.size_alloc]; omega)))
  clear hb7 hx7 hz7
  go_wp2_with fail
  refine bodyPost_ret (by simp [results, Try.results20, go_sem, z0, z1, z2, z3, z4, z5]; rfl) rfl ?_
  exact ⟨rfl, by have := HB7.out; go_grown⟩

set_option maxRecDepth 100000 in
set_option maxHeartbeats 4000000 in
theorem rcollapse_ok (x : Win) (hx : Ok x) (w : World) :
    Calls Try.prog 20 #[.agg #[.int .i64 x.d, .int .i64 x.m, .int .i64 x.c, .int .i64 x.t, .int .i64 x.s, .int .i64 x.g]] w fun e w' => e = .returned (.tuple #[.agg #[.int .i64 (collapse x).d, .int .i64 (collapse x).m, .int .i64 (collapse x).c, .int .i64 (collapse x).t, .int .i64 (collapse x).s, .int .i64 (collapse x).g], .int .i64 0]) ∧ Below w.heap.size w w' := by
  have HC := hck_ok hx
  have f6 : IntKind.i64.wrap (2 * x.d) = 2 * x.d := IntWalk.i64_in _ (by have := hx.d0; have := hx.d1; omega)
  clear hx
  go_enter Try.func20, Try.ntmps20
  go_wp2_with fail
  refine (rcheck_is x 0 _ HC).mono ?_
  rintro e w7 ⟨rfl, hb7⟩
  have hx7 := BW.kept (BW.alloc (BW.new w x 26) _) hb7
  have hz7 := BW.kept (BW.new1 w _ zero 26) hb7
  obtain ⟨xl, x0, x1, x2, x3, x4, x5, xf⟩ := id hx7
  obtain ⟨zl, z0, z1, z2, z3, z4, z5, zf⟩ := id hz7
  have HB7 := Lib.hid (((Below.refl w.heap.size w).alloc (Nat.le_refl _) _ |>.alloc (by simp) _).trans (hb7.mono (by simp only [World.size_alloc]; omega)))
  have hl := hz7.lt
  clear hb7
  go_upto_region 7 with (fail)
  clear xl x0 x1 x2 x3 x4 x5 xf zl z0 z1 z2 z3 z4 z5 zf
  obtain ⟨W8, hW8⟩ : ∃ W, (((w7.setCell ⟨w.heap.size, 2, none⟩ (.int .i64 (2 * x.d))).setCell ⟨w.heap.size, 4, none⟩ (.int .i64 (-1))).setCell ⟨w.heap.size, 5, none⟩ (.int .i64 0)) = W := ⟨_, rfl⟩
  rw [hW8]
  obtain ⟨xl, x0, x1, x2, x3, x4, x5, xf⟩ : Bx W8 w.heap.size x.d x.m (2 * x.d) x.t (-1) 0 := hW8 ▸ ((Bx.setC hx7 (2 * x.d)).setS (-1)).setR 0
  have hb8 : Below (w.heap.size + 1) W8 W8 := Below.refl _ _
  have HB8 : Hid (Below w.heap.size w W8) := hW8 ▸ (by show Below _ _ _; have := HB7.out; go_grown)
  obtain ⟨zl, z0, z1, z2, z3, z4, z5, zf⟩ : BW W8 (w.heap.size + 1) zero := hW8 ▸ BW.farS (BW.farS (BW.farS hz7 _ 2 (by omega) _) _ 4 (by omega) _) _ 5 (by omega) _
  clear hW8 hx7 hz7 HB7 hb8
  go_wp2_with fail
  refine bodyPost_ret (by simp [results, Try.results20, go_sem, z0, z1, z2, z3, z4, z5]; rfl) rfl ?_
  exact ⟨rfl, by have := HB8.out; go_grown⟩
theorem rcollapse_any (x : Win) (r : Win) (er : Int) (w : World) (h1 : Hid (chW x (collapse x) true = r)) (h2 : Hid (chE x true = er)) :
    Calls Try.prog 20 #[.agg #[.int .i64 x.d, .int .i64 x.m, .int .i64 x.c, .int .i64 x.t, .int .i64 x.s, .int .i64 x.g]] w fun e w' => e = .returned (.tuple #[.agg #[.int .i64 r.d, .int .i64 r.m, .int .i64 r.c, .int .i64 r.t, .int .i64 r.s, .int .i64 r.g], .int .i64 er]) ∧ Below w.heap.size w w' := by
  have e1 := h1.out
  have e2 := h2.out
  subst e1 e2
  by_cases hx : Ok x
  · rw [chW_ok hx, chE_ok hx]; exact rcollapse_ok x hx w
  · rw [show chW x (collapse x) true = zero from if_neg (fun h => hx h.1), show chE x true = 2 from if_neg hx]; exact rcollapse_no x hx w
end Go.Proofs.Ytcjhankepchioaa
