/-
  Contracts of the state's small methods of chapter 11: least, isTime, behind, slow, grow, acked, slowly.
-/
import Derived.Test.YtcjhankepchioaaP
import Derived.WalkKit
import Derived.WalkSpells
import Derived.WalkLawsBesides
import Derived.BigQuiet
import Derived.Handy
import Derived.Below
import Derived.Lib.Hide
import Derived.Deep.RegionHeld3
namespace Go.Proofs.Ytcjhankepchioaa
open Go.RowKit (wrap32 wrap64)
open Go.RowKit
set_option linter.unusedVariables false
set_option linter.unusedSimpArgs false

theorem bcell {W w1 : World} (hb : Below W.heap.size W w1) : (∀ b o, b < W.heap.size → w1.cell? ⟨b, o, none⟩ = W.cell? ⟨b, o, none⟩) ∧ (∀ b o, b < W.heap.size → w1.frozen? ⟨b, o, none⟩ = W.frozen? ⟨b, o, none⟩) :=
  ⟨fun b o h => hb.cell (p := ⟨b, o, none⟩) h, fun b o h => hb.frozen (p := ⟨b, o, none⟩) h⟩

/-- A window lies in its box. -/
structure Bx (W : World) (p : Nat) (d m c t s r : Int) : Prop where
  lt : p < W.heap.size
  c0 : W.cell? ⟨p, 0, none⟩ = some (.int .i64 d)
  c1 : W.cell? ⟨p, 1, none⟩ = some (.int .i64 m)
  c2 : W.cell? ⟨p, 2, none⟩ = some (.int .i64 c)
  c3 : W.cell? ⟨p, 3, none⟩ = some (.int .i64 t)
  c4 : W.cell? ⟨p, 4, none⟩ = some (.int .i64 s)
  c5 : W.cell? ⟨p, 5, none⟩ = some (.int .i64 r)
  fz : ∀ o, W.frozen? ⟨p, o, none⟩ = false
section
variable {W w' : World} {p : Nat} {d m c t s r : Int}
theorem Bx.kept (h : Bx W p d m c t s r) (hb : Below W.heap.size W w') : Bx w' p d m c t s r := by
  obtain ⟨x, y⟩ := bcell hb
  exact ⟨Nat.lt_of_lt_of_le h.lt hb.size, (x _ _ h.lt).trans h.c0, (x _ _ h.lt).trans h.c1, (x _ _ h.lt).trans h.c2, (x _ _ h.lt).trans h.c3, (x _ _ h.lt).trans h.c4, (x _ _ h.lt).trans h.c5, fun o => (y _ o h.lt).trans (h.fz o)⟩
theorem Bx.new (W : World) (d m c t s r : Int) (ty : Nat) : Bx (W.alloc (.cells #[.int .i64 d, .int .i64 m, .int .i64 c, .int .i64 t, .int .i64 s, .int .i64 r] ty)) W.heap.size d m c t s r :=
  ⟨by simp, by simp, by simp, by simp, by simp, by simp, by simp, fun o => by simp⟩
theorem Bx.alloc (h : Bx W p d m c t s r) (o : Obj) : Bx (W.alloc o) p d m c t s r := h.kept ((Below.refl _ _).alloc (Nat.le_refl _) _)
theorem Bx.drew (h : Bx W p d m c t s r) : Bx W.drew p d m c t s r := ⟨h.lt, h.c0, h.c1, h.c2, h.c3, h.c4, h.c5, h.fz⟩
end

theorem belowDrewN {B : Nat} {a w : World} (h : Below B a w) (n : Nat) : Below B a (w.drewN n) := ⟨h.os, h.tape, h.output, h.size, h.block⟩
theorem Bx.drewN {W : World} {p : Nat} {d m c t s r : Int} (h : Bx W p d m c t s r) (n : Nat) : Bx (W.drewN n) p d m c t s r := ⟨h.lt, h.c0, h.c1, h.c2, h.c3, h.c4, h.c5, h.fz⟩
theorem least_any (p : Nat) (d : Int) (w : World) (h0 : 0 ≤ d) (h1 : d ≤ 9007199254740991) (c0 : w.cell? ⟨p, 0, none⟩ = some (.int .i64 d)) :
    Calls Try.prog 40 #[.pointer (some ⟨p, 0, none⟩)] w fun e w' => e = .returned (.int .i64 (2 * d)) ∧ w = w' := by
  go_enter Try.func40, Try.ntmps40
  go_wp2
  go_ret
  exact ⟨rfl, rfl⟩
theorem isTime_any (n : Int) (w : World) : Calls Try.prog 30 #[.int .i64 n] w fun e w' => e = .returned (.bool (decide (0 ≤ n) && decide (n ≤ 9007199254740991))) ∧ w = w' := by
  go_enter Try.func30, Try.ntmps30
  go_wp2
  all_goals
    go_ret
    exact ⟨by simp [*] <;> omega, rfl⟩
theorem rtime_any (n : Int) (w : World) : Calls Try.prog 37 #[.int .i64 n] w fun e w' => e = .returned (.bool (decide (0 ≤ n) && decide (n ≤ 9007199254740991))) ∧ w = w' := by
  go_enter Try.func37, Try.ntmps37
  go_wp2
  all_goals
    go_ret
    exact ⟨by simp [*] <;> omega, rfl⟩
theorem behind_any (p : Nat) (s n : Int) (w : World) (c4 : w.cell? ⟨p, 4, none⟩ = some (.int .i64 s)) :
    Calls Try.prog 32 #[.pointer (some ⟨p, 0, none⟩), .int .i64 n] w fun e w' => e = .returned (.bool (s == -1 || decide (s < n))) ∧ w = w' := by
  go_enter Try.func32, Try.ntmps32
  go_wp2
  all_goals
    go_ret
    exact ⟨by simp [*], rfl⟩
theorem Bx.setC {W : World} {p : Nat} {d m c t s r : Int} (h : Bx W p d m c t s r) (x : Int) : Bx (W.setCell ⟨p, 2, none⟩ (.int .i64 x)) p d m x t s r := by
  obtain ⟨l, k0, k1, k2, k3, k4, k5, kf⟩ := h
  exact ⟨by simpa using l, by simp [go_sem, k0], by simp [go_sem, k1], by simp [go_sem, k2], by simp [go_sem, k3], by simp [go_sem, k4], by simp [go_sem, k5], fun o => by simp [go_sem, kf]⟩
theorem Bx.setR {W : World} {p : Nat} {d m c t s r : Int} (h : Bx W p d m c t s r) (x : Int) : Bx (W.setCell ⟨p, 5, none⟩ (.int .i64 x)) p d m c t s x := by
  obtain ⟨l, k0, k1, k2, k3, k4, k5, kf⟩ := h
  exact ⟨by simpa using l, by simp [go_sem, k0], by simp [go_sem, k1], by simp [go_sem, k2], by simp [go_sem, k3], by simp [go_sem, k4], by simp [go_sem, k5], fun o => by simp [go_sem, kf]⟩
theorem Bx.setS {W : World} {p : Nat} {d m c t s r : Int} (h : Bx W p d m c t s r) (x : Int) : Bx (W.setCell ⟨p, 4, none⟩ (.int .i64 x)) p d m c t x r := by
  obtain ⟨l, k0, k1, k2, k3, k4, k5, kf⟩ := h
  exact ⟨by simpa using l, by simp [go_sem, k0], by simp [go_sem, k1], by simp [go_sem, k2], by simp [go_sem, k3], by simp [go_sem, k4], by simp [go_sem, k5], fun o => by simp [go_sem, kf]⟩
theorem Bx.setT {W : World} {p : Nat} {d m c t s r : Int} (h : Bx W p d m c t s r) (x : Int) : Bx (W.setCell ⟨p, 3, none⟩ (.int .i64 x)) p d m c x s r := by
  obtain ⟨l, k0, k1, k2, k3, k4, k5, kf⟩ := h
  exact ⟨by simpa using l, by simp [go_sem, k0], by simp [go_sem, k1], by simp [go_sem, k2], by simp [go_sem, k3], by simp [go_sem, k4], by simp [go_sem, k5], fun o => by simp [go_sem, kf]⟩

theorem mn_lt (x m : Int) : (if m < x then m else x) = mn x m := by unfold mn; split <;> split <;> omega
theorem grow_any (p : Nat) (d m c t s r n : Int) (w : World) (h : Bx w p d m c t s r) (hn : 0 ≤ n) (hn' : n ≤ 9007199254740991) (hc : 0 ≤ c) (hc' : c ≤ 9007199254740991) :
    Calls Try.prog 43 #[.pointer (some ⟨p, 0, none⟩), .int .i64 n] w fun e w' => (∃ v, e = .returned v) ∧ Bx w' p d m (mn (c + n) m) t s r ∧ Below p w w' := by
  have hB := (h.setC (mn (c + n) m)).drew
  obtain ⟨hl, k0, k1, k2, k3, k4, k5, kf⟩ := h
  have e1 : IntKind.i64.wrap (c + n) = c + n := IntWalk.i64_in _ (by omega)
  go_enter Try.func43, Try.ntmps43
  go_wp2
  go_region_with (fail)
  all_goals
    go_returns
    rw [mn_lt]
    exact ⟨⟨_, rfl⟩, hB, by go_grown⟩

/-- Twice is never more: grow, by a whole packet, and acked. -/
theorem acked35_any (p : Nat) (d m c t s r n : Int) (w : World) (h : Bx w p d m c t s r) (hn : 0 ≤ n) (hn' : n ≤ 9007199254740991) (hc : 0 ≤ c) (hc' : c ≤ 9007199254740991) :
    Calls Try.prog 35 #[.pointer (some ⟨p, 0, none⟩), .int .i64 n] w fun e w' => (∃ v, e = .returned v) ∧ Bx w' p d m (mn (c + n) m) t s r ∧ Below p w w' := by
  go_enter Try.func35, Try.ntmps35
  go_wp2_with (first | (go_at_call 43; refine (grow_any p d m c t s r n _ h hn hn' hc hc').mono ?_; rintro e w' ⟨⟨v, rfl⟩, hb, hB⟩))
  go_returns
  exact ⟨⟨_, rfl⟩, hb, hB⟩

theorem slow_any (p : Nat) (d m c t s r : Int) (w : World) (h : Bx w p d m c t s r) :
    Calls Try.prog 34 #[.pointer (some ⟨p, 0, none⟩)] w fun e w' => e = .returned (.bool (t == -1 || decide (c < t))) ∧ Bx w' p d m c t s r ∧ Below p w w' := by
  have h' := h
  obtain ⟨hl, k0, k1, k2, k3, k4, k5, kf⟩ := h'
  by_cases ht : t = -1
  · subst ht
    go_enter Try.func34, Try.ntmps34
    go_wp2
    go_quiet (fail)
    go_wp2
    go_ret
    exact ⟨rfl, ⟨hl, k0, k1, k2, k3, k4, k5, kf⟩, belowDrewN (Below.refl _ _) _⟩
  · have e1 : (t == -1) = false := beq_eq_false_iff_ne.2 ht
    go_enter Try.func34, Try.ntmps34
    go_wp2
    go_quiet (fail)
    go_wp2
    go_ret
    exact ⟨by simp [*], ⟨hl, k0, k1, k2, k3, k4, k5, kf⟩, belowDrewN (Below.refl _ _) _⟩
end Go.Proofs.Ytcjhankepchioaa
