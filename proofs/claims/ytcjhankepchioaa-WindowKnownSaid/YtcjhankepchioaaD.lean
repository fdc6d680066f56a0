/-
  Contracts of the closures: what Acked, Bad, Collapse do to a boxed window.
-/
import Derived.Test.YtcjhankepchioaaB
import Derived.Deep.DeepCutAuto
namespace Go.Proofs.Ytcjhankepchioaa
open Go.RowKit (wrap32 wrap64)
open Go.RowKit
set_option linter.unusedVariables false
set_option linter.unusedSimpArgs false

/-- A window lies in its box, as one thing. -/
def BW (W : World) (p : Nat) (x : Win) : Prop := Bx W p x.d x.m x.c x.t x.s x.g

theorem mx_lt (a b : Int) : (if a < b then b else a) = mx a b := by unfold mx; split <;> split <;> omega
theorem behind_iff (x : Win) (n : Int) : (x.s == -1 || decide (x.s < n)) = decide (Behind x n) := by
  unfold Behind
  by_cases h : x.s = -1 <;> by_cases h' : x.s < n <;> simp [h, h']
theorem slow_iff (x : Win) : (x.t == -1 || decide (x.c < x.t)) = decide (Slow x) := by
  unfold Slow
  by_cases h : x.t = -1 <;> by_cases h' : x.c < x.t <;> simp [h, h']

set_option maxHeartbeats 1000000 in
theorem acked31_any (x : Win) (hx : Ok x) (p fb pb : Nat) (full : Bool) (time size : Int) (w : World) (h : BW w p x) (hf : w.cell? ⟨fb, 0, none⟩ = some (.bool full)) (ht : w.cell? ⟨pb, 1, none⟩ = some (.int .i64 time)) (hs : w.cell? ⟨pb, 2, none⟩ = some (.int .i64 size))
    (h1 : 1 ≤ size) (h2 : size ≤ 65535) (hpf : fb < p) (hpb : pb < p) :
    Calls Try.prog 31 #[.pointer (some ⟨p, 0, none⟩), .pointer (some ⟨fb, 0, none⟩), .pointer (some ⟨pb, 0, none⟩)] w fun e w' => (∃ v, e = .returned v) ∧ BW w' p (acked x time size full) ∧ Below p w w' := by
  have hmf : ∀ (fn : Fn) (first cap : Array Value) (w : World), (Instr.makeFunc fn first cap).run Try.prog w = .ok (.func fn first cap) w := fun _ _ _ _ => rfl
  obtain ⟨d0, d1, m1, c0, c1, t0, s0, g0, g1⟩ := hx
  have h' := h
  obtain ⟨hl, k0, k1, k2, k3, k4, k5, kf⟩ := h'
  cases full
  · rw [acked_idle]
    go_enter Try.func31, Try.ntmps31
    go_wp2_with fail
    go_returns
    exact ⟨⟨_, rfl⟩, h, by go_grown⟩
  · by_cases hb : Behind x time
    · have hbe : (x.s == -1 || decide (x.s < time)) = true := by rw [behind_iff]; exact decide_eq_true hb
      by_cases hsl : Slow x
      · have e : acked x time size true = { x with c := mn (x.c + size) x.m } := by unfold acked; rw [if_pos ⟨rfl, hb⟩, if_pos hsl]
        have hse : (x.t == -1 || decide (x.c < x.t)) = true := by rw [slow_iff]; exact decide_eq_true hsl
        rw [e]
        go_enter Try.func31, Try.ntmps31
        go_wp2_with (first | (go_at_call 32; refine (behind_any p x.s time _ (by simp [*])).mono ?_; rintro e w' ⟨rfl, rfl⟩; rw [hbe]) | (go_at_call 34; refine (slow_any p x.d x.m x.c x.t x.s x.g _ h).mono ?_; rintro e w1 ⟨rfl, hX1, hB1⟩; rw [hse]; have hs1 := (hB1.cell (p := ⟨pb, 2, none⟩) hpb).trans hs) | (go_at_call 35; refine (acked35_any p x.d x.m x.c x.t x.s x.g size _ hX1 (by omega) (by omega) (by omega) (by omega)).mono ?_; rintro e w2 ⟨⟨v, rfl⟩, hX2, hB2⟩))
        go_returns
        exact ⟨⟨_, rfl⟩, hX2, hB1.trans hB2⟩
      · have e : acked x time size true = { x with c := (slowly x.d x.m (x.g + size) x.c).2, g := (slowly x.d x.m (x.g + size) x.c).1 } := by unfold acked; rw [if_pos ⟨rfl, hb⟩, if_neg hsl]
        have hse : (x.t == -1 || decide (x.c < x.t)) = false := by rw [slow_iff]; exact decide_eq_false hsl
        rw [e]
        go_enter Try.func31, Try.ntmps31
        go_wp2_with (first | (go_at_call 32; refine (behind_any p x.s time _ (by simp [*])).mono ?_; rintro e w' ⟨rfl, rfl⟩; rw [hbe]) | (go_at_call 34; refine (slow_any p x.d x.m x.c x.t x.s x.g _ h).mono ?_; rintro e w1 ⟨rfl, hX1, hB1⟩; rw [hse]; have hs1 := (hB1.cell (p := ⟨pb, 2, none⟩) hpb).trans hs) | (go_at_call 33; refine (slowly_any p x.d x.m x.c x.t x.s x.g size _ hX1 (by omega) (by omega) (by omega) (by omega) (by omega) (by omega) (by omega) (by omega)).mono ?_; rintro e w2 ⟨⟨v, rfl⟩, hX2, hB2⟩))
        go_returns
        exact ⟨⟨_, rfl⟩, hX2, hB1.trans hB2⟩
    · have hbe : (x.s == -1 || decide (x.s < time)) = false := by rw [behind_iff]; exact decide_eq_false hb
      rw [acked_past x time size true hb]
      go_enter Try.func31, Try.ntmps31
      go_wp2_with (first | (go_at_call 32; refine (behind_any p x.s time _ (by simp [*])).mono ?_; rintro e w' ⟨rfl, rfl⟩; rw [hbe]))
      go_returns
      exact ⟨⟨_, rfl⟩, h, by go_grown⟩

set_option maxHeartbeats 1000000 in
theorem bad39_any (x : Win) (hx : Ok x) (p sb nb : Nat) (sent now : Int) (w : World) (h : BW w p x) (hs : w.cell? ⟨sb, 0, none⟩ = some (.int .i64 sent)) (hn : w.cell? ⟨nb, 0, none⟩ = some (.int .i64 now)) :
    Calls Try.prog 39 #[.pointer (some ⟨p, 0, none⟩), .pointer (some ⟨sb, 0, none⟩), .pointer (some ⟨nb, 0, none⟩)] w fun e w' => (∃ v, e = .returned v) ∧ BW w' p (bad x sent now) ∧ Below p w w' := by
  obtain ⟨d0, d1, m1, c0, c1, t0, s0, g0, g1⟩ := hx
  have h' := h
  obtain ⟨hl, k0, k1, k2, k3, k4, k5, kf⟩ := h'
  by_cases hb : Behind x sent
  · have hbe : (x.s == -1 || decide (x.s < sent)) = true := by rw [behind_iff]; exact decide_eq_true hb
    have e : bad x sent now = { x with s := now, t := x.c / 2, c := mx (x.c / 2) (2 * x.d), g := 0 } := by unfold bad; rw [if_pos hb]
    rw [e]
    have e2 : IntKind.i64.wrap (x.c.tdiv 2) = x.c / 2 := by rw [Int.tdiv_eq_ediv_of_nonneg (by omega)]; exact IntWalk.i64_in _ (by omega)
    go_enter Try.func39, Try.ntmps39
    go_wp2_with (first | (go_at_call 32; refine (behind_any p x.s sent _ (by simp [*])).mono ?_; rintro e w' ⟨rfl, rfl⟩; rw [hbe]))
    go_cut [] from 8 to 26 (fun wx => Bx wx p x.d x.m x.c (x.c / 2) now 0 ∧ Below p w wx)
    case first =>
      go_region_with (fail)
      all_goals
        go_wp2_with fail
        go_meet
        exact ⟨(((Bx.setS h now).setT (x.c / 2)).setR 0).drew, by go_grown⟩
    case rest =>
      obtain ⟨hX, hB⟩ := hcut
      have hX' := hX
      obtain ⟨hl', q0, q1, q2, q3, q4, q5, qf⟩ := hX'
      clear k0 k1 k2 k3 k4 k5 kf hl hs hn
      go_wp2_with fail
      go_region_with (first | (go_at_call 40; refine (least_any p x.d _ (by omega) (by omega) (by simp [*])).mono ?_; rintro e w' ⟨rfl, rfl⟩))
      all_goals
        go_returns
        rw [mx_lt]
        exact ⟨⟨_, rfl⟩, (hX.setC _).drew, by go_grown⟩
  · have hbe : (x.s == -1 || decide (x.s < sent)) = false := by rw [behind_iff]; exact decide_eq_false hb
    rw [bad_past x sent now hb]
    go_enter Try.func39, Try.ntmps39
    go_wp2_with (first | (go_at_call 32; refine (behind_any p x.s sent _ (by simp [*])).mono ?_; rintro e w' ⟨rfl, rfl⟩; rw [hbe]))
    go_returns
    exact ⟨⟨_, rfl⟩, h, by go_grown⟩

set_option maxHeartbeats 1000000 in
theorem collapse41_any (x : Win) (hx : Ok x) (p : Nat) (w : World) (h : BW w p x) :
    Calls Try.prog 41 #[.pointer (some ⟨p, 0, none⟩)] w fun e w' => (∃ v, e = .returned v) ∧ BW w' p (collapse x) ∧ Below p w w' := by
  obtain ⟨d0, d1, m1, c0, c1, t0, s0, g0, g1⟩ := hx
  have h' := h
  have hX := ((Bx.setC h (2 * x.d)).setS (-1)).setR 0
  obtain ⟨hl, k0, k1, k2, k3, k4, k5, kf⟩ := h'
  go_enter Try.func41, Try.ntmps41
  go_wp2_with (first | (go_at_call 40; refine (least_any p x.d _ (by omega) (by omega) (by simp [*])).mono ?_; rintro e w' ⟨rfl, rfl⟩))
  go_returns
  exact ⟨⟨_, rfl⟩, hX, by go_grown⟩
end Go.Proofs.Ytcjhankepchioaa
