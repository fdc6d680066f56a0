/-
  Bring, bad, acked, is, step, made.
-/
import Derived.Test.YtcjhankepchioaaG
import Derived.Deep.QuietTactic
import Derived.Deep.DeepCutAuto
namespace Go.Proofs.Ytcjhankepchioaa
open Go.RowKit (wrap32 wrap64)
open Go.RowKit
set_option linter.unusedVariables false
set_option linter.unusedSimpArgs false

theorem emod_lo (i n : Int) (h0 : 1 ≤ n) (h : i.tmod n < 0) : i.tmod n + n = i % n := by
  rw [Int.tmod_eq_emod] at h ⊢
  have h2 := Int.emod_nonneg i (b := n) (by omega)
  split
  · rename_i hc
    rw [if_pos hc] at h
    omega
  · have : ((n.natAbs : Nat) : Int) = n := by omega
    omega
theorem emod_hi (i n : Int) (h0 : 1 ≤ n) (h : 0 ≤ i.tmod n) : i.tmod n = i % n := by
  rw [Int.tmod_eq_emod] at h ⊢
  have h2 := Int.emod_lt_of_pos i (b := n) (by omega)
  split
  · omega
  · rename_i hc
    rw [if_neg hc] at h
    have : ((n.natAbs : Nat) : Int) = n := by omega
    omega
theorem bring_any (i n : Int) (w : World) (h0 : 1 ≤ n) (h1 : n ≤ 9223372036854775807) :
    Calls Try.prog 13 #[.int .i64 i, .int .i64 n] w fun e w' => e = .returned (.int .i64 (i % n)) ∧ w = w' := by
  have b1 := Int.emod_nonneg i (b := n) (by omega)
  have b2 := Int.emod_lt_of_pos i (b := n) (by omega)
  go_enter Try.func13, Try.ntmps13
  go_wp2
  · go_ret
    have h : i.tmod n < 0 := by assumption
    refine ⟨?_, rfl⟩
    have e := emod_lo i n h0 h
    rw [IntWalk.wrap64_in _ (by omega), e]; rfl
  · go_ret
    have h : 0 ≤ i.tmod n := by assumption
    exact ⟨by rw [emod_hi i n h0 h]; rfl, rfl⟩
theorem bring_is (i n r : Int) (w : World) (h : Hid (i % n = r)) (h0 : 1 ≤ n) (h1 : n ≤ 9223372036854775807) :
    Calls Try.prog 13 #[.int .i64 i, .int .i64 n] w fun e w' => e = .returned (.int .i64 r) ∧ w = w' := by
  have h' := h.out
  subst h'
  exact bring_any i n w h0 h1
theorem name_mod (i n : Int) (h0 : 1 ≤ n) : ∃ r : Int, Hid (i % n = r) ∧ 0 ≤ r ∧ r < n :=
  ⟨i % n, rfl, Int.emod_nonneg i (by omega), Int.emod_lt_of_pos i (by omega)⟩

theorem BW.set6 {W : World} {p : Nat} {x : Win} (h : BW W p x) (y : Win) :
    BW ((((((W.setCell ⟨p, 0, none⟩ (.int .i64 y.d)).setCell ⟨p, 1, none⟩ (.int .i64 y.m)).setCell ⟨p, 2, none⟩ (.int .i64 y.c)).setCell ⟨p, 3, none⟩ (.int .i64 y.t)).setCell ⟨p, 4, none⟩ (.int .i64 y.s)).setCell ⟨p, 5, none⟩ (.int .i64 y.g)) p y := by
  obtain ⟨l, k0, k1, k2, k3, k4, k5, kf⟩ := h
  exact ⟨by simpa using l, by simp [go_sem, k0, k1, k2, k3, k4, k5], by simp [go_sem, k0, k1, k2, k3, k4, k5], by simp [go_sem, k0, k1, k2, k3, k4, k5], by simp [go_sem, k0, k1, k2, k3, k4, k5], by simp [go_sem, k0, k1, k2, k3, k4, k5], by simp [go_sem, k0, k1, k2, k3, k4, k5], fun o => by simp [go_sem, kf]⟩
theorem BW.far6 {W : World} {g : Nat} {x : Win} (h : BW W g x) (p : Nat) (hp : p ≠ g) (v0 v1 v2 v3 v4 v5 : Value) :
    BW ((((((W.setCell ⟨p, 0, none⟩ v0).setCell ⟨p, 1, none⟩ v1).setCell ⟨p, 2, none⟩ v2).setCell ⟨p, 3, none⟩ v3).setCell ⟨p, 4, none⟩ v4).setCell ⟨p, 5, none⟩ v5) g x := by
  obtain ⟨l, k0, k1, k2, k3, k4, k5, kf⟩ := h
  have far : ∀ (W : World) (o q : Nat) (v : Value), (W.setCell ⟨p, o, none⟩ v).cell? ⟨g, q, none⟩ = W.cell? ⟨g, q, none⟩ := fun W o q v => World.cell?_setCell_far W _ _ v hp
  exact ⟨by simpa using l, by simp only [far, k0], by simp only [far, k1], by simp only [far, k2], by simp only [far, k3], by simp only [far, k4], by simp only [far, k5], fun o => by simp [go_sem, kf]⟩
theorem chW_ok {x y : Win} (h : Ok x) : chW x y true = y := if_pos ⟨h, rfl⟩
theorem chE_ok {x : Win} (h : Ok x) : chE x true = 0 := by unfold chE; rw [if_pos h, if_pos rfl]

theorem wacked_ok (x : Win) (hx : Ok x) (nu ti si : Int) (b1 b2 b3 full : Bool) (r : Win) (w : World) (ht : 0 ≤ ti ∧ ti ≤ 9007199254740991) (s1 : 1 ≤ si) (s2 : si ≤ 65535) (h : Hid (acked x ti si full = r)) :
    Calls Try.prog 14 #[.agg #[.int .i64 x.d, .int .i64 x.m, .int .i64 x.c, .int .i64 x.t, .int .i64 x.s, .int .i64 x.g], .agg #[.int .i64 nu, .int .i64 ti, .int .i64 si, .bool b1, .bool b2, .bool b3], .bool full] w fun e w' => e = .returned (.tuple #[.agg #[.int .i64 r.d, .int .i64 r.m, .int .i64 r.c, .int .i64 r.t, .int .i64 r.s, .int .i64 r.g], .int .i64 0]) ∧ Below w.heap.size w w' :=
  wacked_r x nu ti si b1 b2 b3 full r 0 w ht s1 s2 ((chW_ok hx).trans h.out) (chE_ok hx)
theorem wbad_ok (x : Win) (hx : Ok x) (se no : Int) (r : Win) (w : World) (h1 : 0 ≤ se ∧ se ≤ 9007199254740991) (h2 : 0 ≤ no ∧ no ≤ 9007199254740991) (h : Hid (bad x se no = r)) :
    Calls Try.prog 17 #[.agg #[.int .i64 x.d, .int .i64 x.m, .int .i64 x.c, .int .i64 x.t, .int .i64 x.s, .int .i64 x.g], .int .i64 se, .int .i64 no] w fun e w' => e = .returned (.tuple #[.agg #[.int .i64 r.d, .int .i64 r.m, .int .i64 r.c, .int .i64 r.t, .int .i64 r.s, .int .i64 r.g], .int .i64 0]) ∧ Below w.heap.size w w' :=
  wbad_r x se no r 0 w (decide_eq_true h1) (decide_eq_true h2) ((chW_ok hx).trans h.out) (chE_ok hx)
theorem wcollapse_ok (x : Win) (hx : Ok x) (r : Win) (w : World) (h : Hid (collapse x = r)) :
    Calls Try.prog 19 #[.agg #[.int .i64 x.d, .int .i64 x.m, .int .i64 x.c, .int .i64 x.t, .int .i64 x.s, .int .i64 x.g]] w fun e w' => e = .returned (.tuple #[.agg #[.int .i64 r.d, .int .i64 r.m, .int .i64 r.c, .int .i64 r.t, .int .i64 r.s, .int .i64 r.g], .int .i64 0]) ∧ Below w.heap.size w w' :=
  wcollapse_any x r 0 w ((chW_ok hx).trans h.out) (chE_ok hx)

set_option maxRecDepth 100000 in
set_option maxHeartbeats 4000000 in
theorem fbad_ok (x : Win) (hx : Ok x) (se no : Int) (r : Win) (H1 : Hid (0 ≤ se ∧ se ≤ 9007199254740991)) (H2 : Hid (0 ≤ no ∧ no ≤ 9007199254740991)) (w : World) (h : Hid (bad x se no = r)) :
    Calls Try.prog 27 #[.agg #[.int .i64 x.d, .int .i64 x.m, .int .i64 x.c, .int .i64 x.t, .int .i64 x.s, .int .i64 x.g], .int .i64 se, .int .i64 no] w fun e w' => e = .returned (.agg #[.int .i64 r.d, .int .i64 r.m, .int .i64 r.c, .int .i64 r.t, .int .i64 r.s, .int .i64 r.g]) ∧ Below w.heap.size w w' := by
  have HX := Lib.hid hx
  clear hx
  go_enter Try.func27, Try.ntmps27
  go_wp2_with fail
  refine (wbad_ok x HX.out se no r _ H1.out H2.out h).mono ?_
  rintro e w7 ⟨rfl, hb7⟩
  have hz7 := BW.kept (BW.new1 w _ zero 26) hb7
  have hx7 := BW.kept (BW.alloc (BW.new w x 26) _) hb7
  have HB7 := Lib.hid (((Below.refl w.heap.size w).alloc (Nat.le_refl _) _ |>.alloc (by simp) _).trans (hb7.mono (by simp only [World.size_alloc]; omega)))
  clear hb7
  obtain ⟨zl, z0, z1, z2, z3, z4, z5, zf⟩ := id hz7
  obtain ⟨xl, x0, x1, x2, x3, x4, x5, xf⟩ := id hx7
  go_upto_region 2 with (fail)
  clear zl z0 z1 z2 z3 z4 z5 zf xl x0 x1 x2 x3 x4 x5 xf
  obtain ⟨W8, hW8⟩ : ∃ W, ((((((w7.setCell ⟨w.heap.size, 0, none⟩ (.int .i64 r.d)).setCell ⟨w.heap.size, 1, none⟩ (.int .i64 r.m)).setCell ⟨w.heap.size, 2, none⟩ (.int .i64 r.c)).setCell ⟨w.heap.size, 3, none⟩ (.int .i64 r.t)).setCell ⟨w.heap.size, 4, none⟩ (.int .i64 r.s)).setCell ⟨w.heap.size, 5, none⟩ (.int .i64 r.g)) = W := ⟨_, rfl⟩
  rw [hW8]
  have hx8 : BW W8 w.heap.size r := hW8 ▸ BW.set6 hx7 r
  have hz8 : BW W8 (w.heap.size + 1) zero := hW8 ▸ BW.far6 hz7 _ (by omega) _ _ _ _ _ _
  have HB8 : Hid (Below w.heap.size w W8) := hW8 ▸ (bSet6 HB7.out _ (Nat.le_refl _) _ _ _ _ _ _)
  clear hx7 hz7 HB7 hW8
  obtain ⟨zl, z0, z1, z2, z3, z4, z5, zf⟩ := hz8
  obtain ⟨xl, x0, x1, x2, x3, x4, x5, xf⟩ := hx8
  go_wp2_with fail
  refine bodyPost_ret (by simp [results, Try.results27, go_sem, z0, z1, z2, z3, z4, z5]; rfl) rfl ?_
  exact ⟨rfl, by have := HB8.out; go_grown⟩

set_option maxRecDepth 100000 in
set_option maxHeartbeats 4000000 in
theorem facked_ok (x : Win) (hx : Ok x) (ti si : Int) (r : Win) (H1 : Hid (0 ≤ ti ∧ ti ≤ 9007199254740991)) (H2 : Hid (1 ≤ si ∧ si ≤ 65535)) (w : World) (h : Hid (acked x ti si true = r)) :
    Calls Try.prog 28 #[.agg #[.int .i64 x.d, .int .i64 x.m, .int .i64 x.c, .int .i64 x.t, .int .i64 x.s, .int .i64 x.g], .int .i64 ti, .int .i64 si] w fun e w' => e = .returned (.agg #[.int .i64 r.d, .int .i64 r.m, .int .i64 r.c, .int .i64 r.t, .int .i64 r.s, .int .i64 r.g]) ∧ Below w.heap.size w w' := by
  have HX := Lib.hid hx
  clear hx
  go_enter Try.func28, Try.ntmps28
  go_wp2_with fail
  refine (wacked_ok x HX.out 0 ti si false false false true r _ H1.out H2.out.1 H2.out.2 h).mono ?_
  rintro e w7 ⟨rfl, hb7⟩
  have hz7 := BW.kept (BW.new1 w _ zero 26) hb7
  have hx7 := BW.kept (BW.alloc (BW.new w x 26) _) hb7
  have HB7 := Lib.hid (((Below.refl w.heap.size w).alloc (Nat.le_refl _) _ |>.alloc (by simp) _).trans (hb7.mono (by simp only [World.size_alloc]; omega)))
  clear hb7
  obtain ⟨zl, z0, z1, z2, z3, z4, z5, zf⟩ := id hz7
  obtain ⟨xl, x0, x1, x2, x3, x4, x5, xf⟩ := id hx7
  go_upto_region 2 with (fail)
  clear zl z0 z1 z2 z3 z4 z5 zf xl x0 x1 x2 x3 x4 x5 xf
  obtain ⟨W8, hW8⟩ : ∃ W, ((((((w7.setCell ⟨w.heap.size, 0, none⟩ (.int .i64 r.d)).setCell ⟨w.heap.size, 1, none⟩ (.int .i64 r.m)).setCell ⟨w.heap.size, 2, none⟩ (.int .i64 r.c)).setCell ⟨w.heap.size, 3, none⟩ (.int .i64 r.t)).setCell ⟨w.heap.size, 4, none⟩ (.int .i64 r.s)).setCell ⟨w.heap.size, 5, none⟩ (.int .i64 r.g)) = W := ⟨_, rfl⟩
  rw [hW8]
  have hx8 : BW W8 w.heap.size r := hW8 ▸ BW.set6 hx7 r
  have hz8 : BW W8 (w.heap.size + 1) zero := hW8 ▸ BW.far6 hz7 _ (by omega) _ _ _ _ _ _
  have HB8 : Hid (Below w.heap.size w W8) := hW8 ▸ (bSet6 HB7.out _ (Nat.le_refl _) _ _ _ _ _ _)
  clear hx7 hz7 HB7 hW8
  obtain ⟨zl, z0, z1, z2, z3, z4, z5, zf⟩ := hz8
  obtain ⟨xl, x0, x1, x2, x3, x4, x5, xf⟩ := hx8
  go_wp2_with fail
  refine bodyPost_ret (by simp [results, Try.results28, go_sem, z0, z1, z2, z3, z4, z5]; rfl) rfl ?_
  exact ⟨rfl, by have := HB8.out; go_grown⟩

set_option maxHeartbeats 1000000 in
theorem is_yes (d m c t s g : Int) (W : World) :
    Calls Try.prog 36 #[.agg #[.int .i64 d, .int .i64 m, .int .i64 c, .int .i64 t, .int .i64 s, .int .i64 g], .int .i64 c, .int .i64 t, .slice (some ⟨W.heap.size, 0, none⟩) 2 2] (W.alloc (.cells #[.int .i64 s, .int .i64 g] 3)) fun e w' => e = .returned (.bool true) ∧ Below W.heap.size W w' := by
  go_enter Try.func36, Try.ntmps36
  go_wp2_with fail
  go_quiet (fail)
  go_wp2_with fail
  go_ret
  exact ⟨rfl, (by (repeat (with_reducible refine belowDrewN ?_ _)); go_grown)⟩
end Go.Proofs.Ytcjhankepchioaa
