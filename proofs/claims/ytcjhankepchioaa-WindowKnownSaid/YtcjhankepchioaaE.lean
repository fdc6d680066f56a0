/-
  may, joined; changed; the program's Acked, Bad, Collapse, Check, Slow, New.
-/
import Derived.Test.YtcjhankepchioaaC
import Derived.Test.YtcjhankepchioaaD
namespace Go.Proofs.Ytcjhankepchioaa
open Go.RowKit (wrap32 wrap64)
open Go.RowKit
set_option linter.unusedVariables false
set_option linter.unusedSimpArgs false

theorem ok_iff (x : Win) : Ok x ↔ (1200 ≤ x.d ∧ x.d ≤ 65527 ∧ x.m ≤ 1099511627776 ∧ 2 * x.d ≤ x.c ∧ x.c ≤ x.m ∧ (x.t = -1 ∨ (x.d ≤ x.t ∧ x.t ≤ x.m)) ∧ (x.s = -1 ∨ (0 ≤ x.s ∧ x.s ≤ 9007199254740991)) ∧ 0 ≤ x.g ∧ x.g < x.c) :=
  ⟨fun ⟨a, b, c, d, e, f, g, h, i⟩ => ⟨a, b, c, d, e, f, g, h, i⟩, fun ⟨a, b, c, d, e, f, g, h, i⟩ => ⟨a, b, c, d, e, f, g, h, i⟩⟩
instance (x : Win) : Decidable (Ok x) := decidable_of_iff _ (ok_iff x).symm

theorem may_any (x : Win) (p : Nat) (w : World) (h : BW w p x) :
    Calls Try.prog 42 #[.pointer (some ⟨p, 0, none⟩)] w fun e w' => e = .returned (.bool (decide (Ok x))) ∧ BW w' p x ∧ Below p w w' := by
  have no : ∀ {Q : Prop}, ¬ Ok x → (decide (Ok x) = false → Q) → Q := fun hn k => k (decide_eq_false hn)
  by_cases a1 : 1200 ≤ x.d
  rotate_left; · rw [show decide (Ok x) = false from decide_eq_false fun k => a1 k.d0]; exact may_d0 p _ _ _ _ _ _ w h (by omega)
  by_cases a2 : x.d ≤ 65527
  rotate_left; · rw [show decide (Ok x) = false from decide_eq_false fun k => a2 k.d1]; exact may_d1 p _ _ _ _ _ _ w h a1 (by omega)
  by_cases a3 : x.m ≤ 1099511627776
  rotate_left; · rw [show decide (Ok x) = false from decide_eq_false fun k => a3 k.m1]; exact may_m p _ _ _ _ _ _ w h a1 a2 (by omega)
  by_cases b1 : 2 * x.d ≤ x.c
  rotate_left; · rw [show decide (Ok x) = false from decide_eq_false fun k => b1 k.c0]; exact may_c0 p _ _ _ _ _ _ w h a1 a2 a3 (by omega)
  by_cases b2 : x.c ≤ x.m
  rotate_left; · rw [show decide (Ok x) = false from decide_eq_false fun k => b2 k.c1]; exact may_c1 p _ _ _ _ _ _ w h a1 a2 a3 b1 (by omega)
  by_cases b3 : 0 ≤ x.g
  rotate_left; · rw [show decide (Ok x) = false from decide_eq_false fun k => b3 k.g0]; exact may_r0 p _ _ _ _ _ _ w h a1 a2 a3 b1 b2 (by omega)
  by_cases b4 : x.g < x.c
  rotate_left; · rw [show decide (Ok x) = false from decide_eq_false fun k => b4 k.g1]; exact may_r1 p _ _ _ _ _ _ w h a1 a2 a3 b1 b2 b3 (by omega)
  by_cases y1 : x.t = -1
  · by_cases y4 : x.s = -1
    · rw [show decide (Ok x) = true from decide_eq_true ⟨a1, a2, a3, b1, b2, Or.inl y1, Or.inl y4, b3, b4⟩]
      exact may_s_n p _ _ _ _ _ _ w h a1 a2 a3 b1 b2 b3 b4 y1 y4
    · by_cases z2 : 0 ≤ x.s
      · by_cases z3 : x.s ≤ 9007199254740991
        · rw [show decide (Ok x) = true from decide_eq_true ⟨a1, a2, a3, b1, b2, Or.inl y1, Or.inr ⟨z2, z3⟩, b3, b4⟩]
          exact may_y_n p _ _ _ _ _ _ w h a1 a2 a3 b1 b2 b3 b4 y1 y4 z2 z3
        · rw [show decide (Ok x) = false from decide_eq_false fun k => by have := k.s0; omega]
          exact may_z_n p _ _ _ _ _ _ w h a1 a2 a3 b1 b2 b3 b4 y1 y4 z2 (by omega)
      · rw [show decide (Ok x) = false from decide_eq_false fun k => by have := k.s0; omega]
        exact may_x_n p _ _ _ _ _ _ w h a1 a2 a3 b1 b2 b3 b4 y1 y4 (by omega)
  · by_cases y2 : x.d ≤ x.t
    rotate_left; · rw [show decide (Ok x) = false from decide_eq_false fun k => by have := k.t0; omega]; exact may_t0 p _ _ _ _ _ _ w h a1 a2 a3 b1 b2 b3 b4 y1 (by omega)
    by_cases y3 : x.t ≤ x.m
    rotate_left; · rw [show decide (Ok x) = false from decide_eq_false fun k => by have := k.t0; omega]; exact may_t1 p _ _ _ _ _ _ w h a1 a2 a3 b1 b2 b3 b4 y1 y2 (by omega)
    by_cases y4 : x.s = -1
    · rw [show decide (Ok x) = true from decide_eq_true ⟨a1, a2, a3, b1, b2, Or.inr ⟨y2, y3⟩, Or.inl y4, b3, b4⟩]
      exact may_s_t p _ _ _ _ _ _ w h a1 a2 a3 b1 b2 b3 b4 y1 y2 y3 y4
    · by_cases z2 : 0 ≤ x.s
      · by_cases z3 : x.s ≤ 9007199254740991
        · rw [show decide (Ok x) = true from decide_eq_true ⟨a1, a2, a3, b1, b2, Or.inr ⟨y2, y3⟩, Or.inr ⟨z2, z3⟩, b3, b4⟩]
          exact may_y_t p _ _ _ _ _ _ w h a1 a2 a3 b1 b2 b3 b4 y1 y2 y3 y4 z2 z3
        · rw [show decide (Ok x) = false from decide_eq_false fun k => by have := k.s0; omega]
          exact may_z_t p _ _ _ _ _ _ w h a1 a2 a3 b1 b2 b3 b4 y1 y2 y3 y4 z2 (by omega)
      · rw [show decide (Ok x) = false from decide_eq_false fun k => by have := k.s0; omega]
        exact may_x_t p _ _ _ _ _ _ w h a1 a2 a3 b1 b2 b3 b4 y1 y2 y3 y4 (by omega)

/-- A window as a value. -/
def Win.v (x : Win) : Value := .agg #[.int .i64 x.d, .int .i64 x.m, .int .i64 x.c, .int .i64 x.t, .int .i64 x.s, .int .i64 x.g]

theorem BW.new1 (W : World) (o : Obj) (x : Win) (ty : Nat) : BW ((W.alloc o).alloc (.cells #[.int .i64 x.d, .int .i64 x.m, .int .i64 x.c, .int .i64 x.t, .int .i64 x.s, .int .i64 x.g] ty)) (W.heap.size + 1) x :=
  Bx.new (W.alloc o) x.d x.m x.c x.t x.s x.g ty |> (by simpa [BW] using ·)
theorem below1 (w : World) (o o' : Obj) {w1 : World} (h : Below (w.heap.size + 1) ((w.alloc o).alloc o') w1) : Below w.heap.size w w1 :=
  (((Below.refl _ w).alloc (Nat.le_refl _) o).alloc (by simp) o').trans (h.mono (by omega))

theorem check_any (x : Win) (w : World) :
    Calls Try.prog 23 #[.agg #[.int .i64 x.d, .int .i64 x.m, .int .i64 x.c, .int .i64 x.t, .int .i64 x.s, .int .i64 x.g]] w fun e w' => e = .returned (.int .i64 (if Ok x then 0 else 2)) ∧ Below w.heap.size w w' := by
  have hi : ∀ b, decide (Ok x) = b → (if Ok x then (0 : Int) else 2) = (if b = true then 0 else 2) := fun b hb => by subst hb; simp
  cases hd : decide (Ok x)
  · rw [hi _ hd]
    go_enter Try.func23, Try.ntmps23
    go_wp2_with (first | (go_at_call 42; refine (may_any x _ _ (BW.new1 _ _ x 61)).mono ?_; rintro e w1 ⟨rfl, hX, hB⟩; rw [hd]))
    go_ret
    exact ⟨rfl, below1 _ _ _ hB⟩
  · rw [hi _ hd]
    go_enter Try.func23, Try.ntmps23
    go_wp2_with (first | (go_at_call 42; refine (may_any x _ _ (BW.new1 _ _ x 61)).mono ?_; rintro e w1 ⟨rfl, hX, hB⟩; rw [hd]))
    go_ret
    exact ⟨rfl, below1 _ _ _ hB⟩
end Go.Proofs.Ytcjhankepchioaa
