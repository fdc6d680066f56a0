/-
  step.
-/
import Derived.Test.YtcjhankepchioaaH
namespace Go.Proofs.Ytcjhankepchioaa
open Go.RowKit (wrap32 wrap64)
open Go.RowKit
set_option linter.unusedVariables false
set_option linter.unusedSimpArgs false

/-- step. -/
def stepW (x : Win) (k ti no si : Int) (fu : Bool) : Win := if k = 5 ∨ k = 6 then bad x ti no else if k = 7 then collapse x else acked x ti si fu

theorem size_drewN' (w : World) (n : Nat) : (w.drewN n).heap.size = w.heap.size := rfl
theorem step_base (w : World) (o1 o2 o3 : Obj) (nq : Nat) : Below w.heap.size w ((((w.alloc o1).alloc o2).alloc o3).drewN nq) :=
  belowDrewN ((((Below.refl _ w).alloc (Nat.le_refl _) o1).alloc (by simp) o2).alloc (by simp <;> omega) o3) nq
theorem step_box (w : World) (x : Win) (o2 o3 : Obj) (nq : Nat) : BW ((((w.alloc (.cells #[.int .i64 x.d, .int .i64 x.m, .int .i64 x.c, .int .i64 x.t, .int .i64 x.s, .int .i64 x.g] 26)).alloc o2).alloc o3).drewN nq) w.heap.size x := Bx.drewN (((BW.new w x 26).alloc o2).alloc o3) nq
theorem step_zero (w : World) (o1 o2 : Obj) (nq : Nat) : BW ((((w.alloc o1).alloc o2).alloc (.cells #[.int .i64 0, .int .i64 0, .int .i64 0, .int .i64 0, .int .i64 0, .int .i64 0] 26)).drewN nq) (w.heap.size + 1 + 1) zero := by
  have h0 := Bx.drewN (Bx.new ((w.alloc o1).alloc o2) 0 0 0 0 0 0 26) nq
  show Bx _ _ 0 0 0 0 0 0
  simpa using h0

set_option maxRecDepth 100000 in
set_option maxHeartbeats 4000000 in
theorem step_bad5 (x : Win) (hx : Ok x) (ki ti no si : Int) (fu : Bool) (r : Win) (t n s : Int) (w : World) (HK : Hid (ki % 8 = 5)) (HT : Hid (ti % 9007199254740992 = t)) (HN : Hid (no % 9007199254740992 = n)) (HS : Hid (si % 65535 = s)) (t0 : 0 ≤ t) (t1 : t < 9007199254740992) (n0 : 0 ≤ n) (n1 : n < 9007199254740992) (s0 : 0 ≤ s) (s1 : s < 65535)  (h : Hid (bad x t n = r)) :
    Calls Try.prog 12 #[.agg #[.int .i64 x.d, .int .i64 x.m, .int .i64 x.c, .int .i64 x.t, .int .i64 x.s, .int .i64 x.g], .agg #[.int .i64 ki, .int .i64 ti, .int .i64 no, .int .i64 si, .bool fu]] w fun e w' => e = .returned (.tuple #[.agg #[.int .i64 r.d, .int .i64 r.m, .int .i64 r.c, .int .i64 r.t, .int .i64 r.s, .int .i64 r.g], .bool true]) ∧ Below w.heap.size w w' := by
  have HX := Lib.hid hx
  clear hx
  go_enter Try.func12, Try.ntmps12
  go_wp2_with fail
  go_quiet ((go_at_call 13; refine (bring_any _ _ _ (by omega) (by omega)).mono ?_; rintro e w' ⟨rfl, rfl⟩; exact ⟨rfl, _, rfl⟩))
  rw [HT.out, HN.out]
  go_wp2_with fail
  refine (bring_is _ _ 5 _ HK (by omega) (by omega)).mono ?_
  rintro e w' ⟨rfl, rfl⟩
  go_wp2_with fail
  refine (wbad_ok x HX.out t n r _ (by omega) (by omega) h).mono ?_
  rintro e w7 ⟨rfl, hb7⟩
  have hz7 := BW.kept (step_zero w _ _ nq) hb7
  have hx7 := BW.kept (step_box w x _ _ nq) hb7
  have HB7 := Lib.hid ((step_base w _ _ _ nq).trans (hb7.mono (by simp only [size_drewN', World.size_alloc]; omega)))
  clear hb7
  obtain ⟨zl, z0, z1, z2, z3, z4, z5, zf⟩ := id hz7
  obtain ⟨xl, x0, x1, x2, x3, x4, x5, xf⟩ := id hx7
  go_upto_region 10 with (fail)
  clear zl z0 z1 z2 z3 z4 z5 zf xl x0 x1 x2 x3 x4 x5 xf
  obtain ⟨W8, hW8⟩ : ∃ W, ((((((w7.setCell ⟨w.heap.size, 0, none⟩ (.int .i64 r.d)).setCell ⟨w.heap.size, 1, none⟩ (.int .i64 r.m)).setCell ⟨w.heap.size, 2, none⟩ (.int .i64 r.c)).setCell ⟨w.heap.size, 3, none⟩ (.int .i64 r.t)).setCell ⟨w.heap.size, 4, none⟩ (.int .i64 r.s)).setCell ⟨w.heap.size, 5, none⟩ (.int .i64 r.g)) = W := ⟨_, rfl⟩
  rw [hW8]
  have hx8 : BW W8 w.heap.size r := hW8 ▸ BW.set6 hx7 r
  have hz8 : BW W8 (w.heap.size + 1 + 1) zero := hW8 ▸ BW.far6 hz7 _ (by omega) _ _ _ _ _ _
  have HB8 : Hid (Below w.heap.size w W8) := hW8 ▸ (bSet6 HB7.out _ (Nat.le_refl _) _ _ _ _ _ _)
  clear hx7 hz7 HB7 hW8
  obtain ⟨zl, z0, z1, z2, z3, z4, z5, zf⟩ := hz8
  obtain ⟨xl, x0, x1, x2, x3, x4, x5, xf⟩ := hx8
  go_wp2_with fail
  refine bodyPost_ret (by simp [results, Try.results12, go_sem, z0, z1, z2, z3, z4, z5]; rfl) rfl ?_
  exact ⟨rfl, by have := HB8.out; go_grown⟩

set_option maxRecDepth 100000 in
set_option maxHeartbeats 4000000 in
theorem step_bad6 (x : Win) (hx : Ok x) (ki ti no si : Int) (fu : Bool) (r : Win) (t n s : Int) (w : World) (HK : Hid (ki % 8 = 6)) (HT : Hid (ti % 9007199254740992 = t)) (HN : Hid (no % 9007199254740992 = n)) (HS : Hid (si % 65535 = s)) (t0 : 0 ≤ t) (t1 : t < 9007199254740992) (n0 : 0 ≤ n) (n1 : n < 9007199254740992) (s0 : 0 ≤ s) (s1 : s < 65535)  (h : Hid (bad x t n = r)) :
    Calls Try.prog 12 #[.agg #[.int .i64 x.d, .int .i64 x.m, .int .i64 x.c, .int .i64 x.t, .int .i64 x.s, .int .i64 x.g], .agg #[.int .i64 ki, .int .i64 ti, .int .i64 no, .int .i64 si, .bool fu]] w fun e w' => e = .returned (.tuple #[.agg #[.int .i64 r.d, .int .i64 r.m, .int .i64 r.c, .int .i64 r.t, .int .i64 r.s, .int .i64 r.g], .bool true]) ∧ Below w.heap.size w w' := by
  have HX := Lib.hid hx
  clear hx
  go_enter Try.func12, Try.ntmps12
  go_wp2_with fail
  go_quiet ((go_at_call 13; refine (bring_any _ _ _ (by omega) (by omega)).mono ?_; rintro e w' ⟨rfl, rfl⟩; exact ⟨rfl, _, rfl⟩))
  rw [HT.out, HN.out]
  go_wp2_with fail
  refine (bring_is _ _ 6 _ HK (by omega) (by omega)).mono ?_
  rintro e w' ⟨rfl, rfl⟩
  go_wp2_with fail
  refine (wbad_ok x HX.out t n r _ (by omega) (by omega) h).mono ?_
  rintro e w7 ⟨rfl, hb7⟩
  have hz7 := BW.kept (step_zero w _ _ nq) hb7
  have hx7 := BW.kept (step_box w x _ _ nq) hb7
  have HB7 := Lib.hid ((step_base w _ _ _ nq).trans (hb7.mono (by simp only [size_drewN', World.size_alloc]; omega)))
  clear hb7
  obtain ⟨zl, z0, z1, z2, z3, z4, z5, zf⟩ := id hz7
  obtain ⟨xl, x0, x1, x2, x3, x4, x5, xf⟩ := id hx7
  go_upto_region 10 with (fail)
  clear zl z0 z1 z2 z3 z4 z5 zf xl x0 x1 x2 x3 x4 x5 xf
  obtain ⟨W8, hW8⟩ : ∃ W, ((((((w7.setCell ⟨w.heap.size, 0, none⟩ (.int .i64 r.d)).setCell ⟨w.heap.size, 1, none⟩ (.int .i64 r.m)).setCell ⟨w.heap.size, 2, none⟩ (.int .i64 r.c)).setCell ⟨w.heap.size, 3, none⟩ (.int .i64 r.t)).setCell ⟨w.heap.size, 4, none⟩ (.int .i64 r.s)).setCell ⟨w.heap.size, 5, none⟩ (.int .i64 r.g)) = W := ⟨_, rfl⟩
  rw [hW8]
  have hx8 : BW W8 w.heap.size r := hW8 ▸ BW.set6 hx7 r
  have hz8 : BW W8 (w.heap.size + 1 + 1) zero := hW8 ▸ BW.far6 hz7 _ (by omega) _ _ _ _ _ _
  have HB8 : Hid (Below w.heap.size w W8) := hW8 ▸ (bSet6 HB7.out _ (Nat.le_refl _) _ _ _ _ _ _)
  clear hx7 hz7 HB7 hW8
  obtain ⟨zl, z0, z1, z2, z3, z4, z5, zf⟩ := hz8
  obtain ⟨xl, x0, x1, x2, x3, x4, x5, xf⟩ := hx8
  go_wp2_with fail
  refine bodyPost_ret (by simp [results, Try.results12, go_sem, z0, z1, z2, z3, z4, z5]; rfl) rfl ?_
  exact ⟨rfl, by have := HB8.out; go_grown⟩

set_option maxRecDepth 100000 in
set_option maxHeartbeats 4000000 in
theorem step_col (x : Win) (hx : Ok x) (ki ti no si : Int) (fu : Bool) (r : Win) (t n s : Int) (w : World) (HK : Hid (ki % 8 = 7)) (HT : Hid (ti % 9007199254740992 = t)) (HN : Hid (no % 9007199254740992 = n)) (HS : Hid (si % 65535 = s)) (t0 : 0 ≤ t) (t1 : t < 9007199254740992) (n0 : 0 ≤ n) (n1 : n < 9007199254740992) (s0 : 0 ≤ s) (s1 : s < 65535)  (h : Hid (collapse x = r)) :
    Calls Try.prog 12 #[.agg #[.int .i64 x.d, .int .i64 x.m, .int .i64 x.c, .int .i64 x.t, .int .i64 x.s, .int .i64 x.g], .agg #[.int .i64 ki, .int .i64 ti, .int .i64 no, .int .i64 si, .bool fu]] w fun e w' => e = .returned (.tuple #[.agg #[.int .i64 r.d, .int .i64 r.m, .int .i64 r.c, .int .i64 r.t, .int .i64 r.s, .int .i64 r.g], .bool true]) ∧ Below w.heap.size w w' := by
  have HX := Lib.hid hx
  clear hx
  go_enter Try.func12, Try.ntmps12
  go_wp2_with fail
  go_quiet ((go_at_call 13; refine (bring_any _ _ _ (by omega) (by omega)).mono ?_; rintro e w' ⟨rfl, rfl⟩; exact ⟨rfl, _, rfl⟩))
  rw [HT.out, HN.out]
  go_wp2_with fail
  refine (bring_is _ _ 7 _ HK (by omega) (by omega)).mono ?_
  rintro e w' ⟨rfl, rfl⟩
  go_wp2_with fail
  refine (wcollapse_ok x HX.out r _ h).mono ?_
  rintro e w7 ⟨rfl, hb7⟩
  have hz7 := BW.kept (step_zero w _ _ nq) hb7
  have hx7 := BW.kept (step_box w x _ _ nq) hb7
  have HB7 := Lib.hid ((step_base w _ _ _ nq).trans (hb7.mono (by simp only [size_drewN', World.size_alloc]; omega)))
  clear hb7
  obtain ⟨zl, z0, z1, z2, z3, z4, z5, zf⟩ := id hz7
  obtain ⟨xl, x0, x1, x2, x3, x4, x5, xf⟩ := id hx7
  go_upto_region 10 with (fail)
  clear zl z0 z1 z2 z3 z4 z5 zf xl x0 x1 x2 x3 x4 x5 xf
  obtain ⟨W8, hW8⟩ : ∃ W, ((((((w7.setCell ⟨w.heap.size, 0, none⟩ (.int .i64 r.d)).setCell ⟨w.heap.size, 1, none⟩ (.int .i64 r.m)).setCell ⟨w.heap.size, 2, none⟩ (.int .i64 r.c)).setCell ⟨w.heap.size, 3, none⟩ (.int .i64 r.t)).setCell ⟨w.heap.size, 4, none⟩ (.int .i64 r.s)).setCell ⟨w.heap.size, 5, none⟩ (.int .i64 r.g)) = W := ⟨_, rfl⟩
  rw [hW8]
  have hx8 : BW W8 w.heap.size r := hW8 ▸ BW.set6 hx7 r
  have hz8 : BW W8 (w.heap.size + 1 + 1) zero := hW8 ▸ BW.far6 hz7 _ (by omega) _ _ _ _ _ _
  have HB8 : Hid (Below w.heap.size w W8) := hW8 ▸ (bSet6 HB7.out _ (Nat.le_refl _) _ _ _ _ _ _)
  clear hx7 hz7 HB7 hW8
  obtain ⟨zl, z0, z1, z2, z3, z4, z5, zf⟩ := hz8
  obtain ⟨xl, x0, x1, x2, x3, x4, x5, xf⟩ := hx8
  go_wp2_with fail
  refine bodyPost_ret (by simp [results, Try.results12, go_sem, z0, z1, z2, z3, z4, z5]; rfl) rfl ?_
  exact ⟨rfl, by have := HB8.out; go_grown⟩

set_option maxRecDepth 100000 in
set_option maxHeartbeats 4000000 in
theorem step_ack (x : Win) (hx : Ok x) (ki ti no si : Int) (fu : Bool) (r : Win) (k t n s : Int) (w : World) (HK : Hid (ki % 8 = k)) (HT : Hid (ti % 9007199254740992 = t)) (HN : Hid (no % 9007199254740992 = n)) (HS : Hid (si % 65535 = s)) (k0 : 0 ≤ k) (k1 : k < 8) (t0 : 0 ≤ t) (t1 : t < 9007199254740992) (n0 : 0 ≤ n) (n1 : n < 9007199254740992) (s0 : 0 ≤ s) (s1 : s < 65535) (hk : k < 5) (h : Hid (acked x t (1 + s) fu = r)) :
    Calls Try.prog 12 #[.agg #[.int .i64 x.d, .int .i64 x.m, .int .i64 x.c, .int .i64 x.t, .int .i64 x.s, .int .i64 x.g], .agg #[.int .i64 ki, .int .i64 ti, .int .i64 no, .int .i64 si, .bool fu]] w fun e w' => e = .returned (.tuple #[.agg #[.int .i64 r.d, .int .i64 r.m, .int .i64 r.c, .int .i64 r.t, .int .i64 r.s, .int .i64 r.g], .bool true]) ∧ Below w.heap.size w w' := by
  have HX := Lib.hid hx
  clear hx
  go_enter Try.func12, Try.ntmps12
  go_wp2_with fail
  go_quiet ((go_at_call 13; refine (bring_any _ _ _ (by omega) (by omega)).mono ?_; rintro e w' ⟨rfl, rfl⟩; exact ⟨rfl, _, rfl⟩))
  rw [HT.out, HN.out]
  go_wp2_with fail
  refine (bring_is _ _ k _ HK (by omega) (by omega)).mono ?_
  rintro e w' ⟨rfl, rfl⟩
  go_wp2_with fail
  obtain ⟨W5, hW5⟩ : ∃ W, ((((w.alloc (.cells #[.int .i64 x.d, .int .i64 x.m, .int .i64 x.c, .int .i64 x.t, .int .i64 x.s, .int .i64 x.g] 26)).alloc (.cells #[.int .i64 ki, .int .i64 ti, .int .i64 no, .int .i64 si, .bool fu] 31)).alloc (.cells #[.int .i64 0, .int .i64 0, .int .i64 0, .int .i64 0, .int .i64 0, .int .i64 0] 26)).drewN nq) = W := ⟨_, rfl⟩
  rw [hW5]
  have hX : BW W5 w.heap.size x := hW5 ▸ step_box w x _ _ nq
  have hZ : BW W5 (w.heap.size + 1 + 1) zero := hW5 ▸ step_zero w _ _ nq
  have HSI : Hid (W5.cell? ⟨w.heap.size + 1, 3, none⟩ = some (.int .i64 si)) := Lib.hid (show W5.cell? ⟨w.heap.size + 1, 3, none⟩ = some (.int .i64 si) by rw [← hW5]; exact cell_old (W := (w.alloc (.cells #[.int .i64 x.d, .int .i64 x.m, .int .i64 x.c, .int .i64 x.t, .int .i64 x.s, .int .i64 x.g] 26)).alloc (.cells #[.int .i64 ki, .int .i64 ti, .int .i64 no, .int .i64 si, .bool fu] 31)) (by simp) (by simp))
  have HFU : Hid (W5.cell? ⟨w.heap.size + 1, 4, none⟩ = some (.bool fu)) := Lib.hid (show W5.cell? ⟨w.heap.size + 1, 4, none⟩ = some (.bool fu) by rw [← hW5]; exact cell_old (W := (w.alloc (.cells #[.int .i64 x.d, .int .i64 x.m, .int .i64 x.c, .int .i64 x.t, .int .i64 x.s, .int .i64 x.g] 26)).alloc (.cells #[.int .i64 ki, .int .i64 ti, .int .i64 no, .int .i64 si, .bool fu] 31)) (by simp) (by simp))
  have hB5 : Below w.heap.size w W5 := hW5 ▸ step_base w _ _ _ nq
  have hl : w.heap.size + 1 + 1 < W5.heap.size := by rw [← hW5]; simp only [size_drewN', World.size_alloc]; omega
  clear hW5
  have hsi := HSI.out
  have hfu := HFU.out
  have HXX := Lib.hid hX
  have HZZ := Lib.hid hZ
  obtain ⟨xl, x0, x1, x2, x3, x4, x5, xf⟩ := hX
  clear hZ
  have e1 : IntKind.i64.wrap (1 + s) = 1 + s := IntWalk.i64_in _ (by omega)
  go_region_with (first | (go_at_call 13; refine (bring_is _ _ s _ HS (by omega) (by omega)).mono ?_; rintro e w' ⟨rfl, rfl⟩) | (go_at_call 14; refine (wacked_ok x HX.out 0 t (1 + s) false false false fu r _ (by omega) (by omega) (by omega) h).mono ?_; rintro e w7 ⟨rfl, hb7⟩; have hz7 := BW.kept (Bx.drew HZZ.out) hb7; have hx7 := BW.kept (Bx.drew HXX.out) hb7; have HB7 := Lib.hid (hB5.drew.trans (hb7.mono (Nat.le_trans hB5.size (Nat.le_refl _)))); clear hb7; clear x0 x1 x2 x3 x4 x5 xf xl hsi hfu; obtain ⟨zl, z0, z1, z2, z3, z4, z5, zf⟩ := id hz7; obtain ⟨xl, x0, x1, x2, x3, x4, x5, xf⟩ := id hx7))
  all_goals
    go_upto_region 10 with (fail)
    clear zl z0 z1 z2 z3 z4 z5 zf xl x0 x1 x2 x3 x4 x5 xf
    obtain ⟨W8, hW8⟩ : ∃ W, ((((((w7.setCell ⟨w.heap.size, 0, none⟩ (.int .i64 r.d)).setCell ⟨w.heap.size, 1, none⟩ (.int .i64 r.m)).setCell ⟨w.heap.size, 2, none⟩ (.int .i64 r.c)).setCell ⟨w.heap.size, 3, none⟩ (.int .i64 r.t)).setCell ⟨w.heap.size, 4, none⟩ (.int .i64 r.s)).setCell ⟨w.heap.size, 5, none⟩ (.int .i64 r.g)) = W := ⟨_, rfl⟩
    rw [hW8]
    have hx8 : BW W8 w.heap.size r := hW8 ▸ BW.set6 hx7 r
    have hz8 : BW W8 (w.heap.size + 1 + 1) zero := hW8 ▸ BW.far6 hz7 _ (by omega) _ _ _ _ _ _
    have HB8 : Hid (Below w.heap.size w W8) := hW8 ▸ (bSet6 HB7.out _ (Nat.le_refl _) _ _ _ _ _ _)
    clear hx7 hz7 HB7 hW8
    obtain ⟨zl, z0, z1, z2, z3, z4, z5, zf⟩ := hz8
    obtain ⟨xl, x0, x1, x2, x3, x4, x5, xf⟩ := hx8
    go_wp2_with fail
    refine bodyPost_ret (by simp [results, Try.results12, go_sem, z0, z1, z2, z3, z4, z5]; rfl) rfl ?_
    exact ⟨rfl, by have := HB8.out; go_grown⟩
end Go.Proofs.Ytcjhankepchioaa
