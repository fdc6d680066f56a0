/-
  changed, by each closure.
-/
import Derived.Test.YtcjhankepchioaaE
namespace Go.Proofs.Ytcjhankepchioaa
open Go.RowKit (wrap32 wrap64)
open Go.RowKit
set_option linter.unusedVariables false
set_option linter.unusedSimpArgs false

theorem BW.new2 (W : World) (o o' : Obj) (x : Win) (ty : Nat) : BW (((W.alloc o).alloc o').alloc (.cells #[.int .i64 x.d, .int .i64 x.m, .int .i64 x.c, .int .i64 x.t, .int .i64 x.s, .int .i64 x.g] ty)) (W.heap.size + 1 + 1) x :=
  Bx.new ((W.alloc o).alloc o') x.d x.m x.c x.t x.s x.g ty |> (by simpa [BW] using ·)
theorem base2 (w : World) (o o' o'' : Obj) : Below w.heap.size w (((w.alloc o).alloc o').alloc o'') :=
  (((Below.refl _ w).alloc (Nat.le_refl _) o).alloc (by simp) o').alloc (by simp; omega) o''
theorem below2 (w : World) (o o' o'' : Obj) {w1 : World} (h : Below (w.heap.size + 1 + 1) (((w.alloc o).alloc o').alloc o'') w1) : Below w.heap.size w w1 :=
  (base2 w o o' o'').trans (h.mono (by omega))

theorem BW.keptB {W w' : World} {q B : Nat} {x : Win} (h : BW W q x) (hb : Below B W w') (hq : q < B) : BW w' q x :=
  ⟨Nat.lt_of_lt_of_le h.lt hb.size, (hb.cell (p := ⟨q, 0, none⟩) hq).trans h.c0, (hb.cell (p := ⟨q, 1, none⟩) hq).trans h.c1, (hb.cell (p := ⟨q, 2, none⟩) hq).trans h.c2, (hb.cell (p := ⟨q, 3, none⟩) hq).trans h.c3, (hb.cell (p := ⟨q, 4, none⟩) hq).trans h.c4, (hb.cell (p := ⟨q, 5, none⟩) hq).trans h.c5, fun o => (hb.frozen (p := ⟨q, o, none⟩) hq).trans (h.fz o)⟩
/-- The result's box, while the state is changed. -/
theorem BW.res (w : World) (o o'' : Obj) {w1 : World} (hB : Below (w.heap.size + 1 + 1) (((w.alloc o).alloc (.cells #[.int .i64 0, .int .i64 0, .int .i64 0, .int .i64 0, .int .i64 0, .int .i64 0] 26)).alloc o'') w1) : BW w1 (w.heap.size + 1) zero :=
  BW.keptB (Bx.alloc (BW.new1 w o zero 26) o'') hB (by omega)
/-- A cell of a caller's. -/
theorem oldcell {w w1 : World} {b o : Nat} {v : Value} (h : w.cell? ⟨b, o, none⟩ = some v) (hb : Below w.heap.size w w1) (hl : b < w.heap.size) : w1.cell? ⟨b, o, none⟩ = some v := (hb.cell (p := ⟨b, o, none⟩) hl).trans h
/-- What changed answers. -/
def chR (x y : Win) (right : Bool) : Array Value := if Ok x then (if right = true then #[y.v, .int .i64 0] else #[zero.v, .int .i64 9]) else #[zero.v, .int .i64 2]

set_option maxHeartbeats 1000000 in
theorem changed31_any (x : Win) (right : Bool) (full : Bool) (time size : Int) (fb pb : Nat) (w : World) (hf : w.cell? ⟨fb, 0, none⟩ = some (.bool full)) (ht : w.cell? ⟨pb, 1, none⟩ = some (.int .i64 time)) (hs : w.cell? ⟨pb, 2, none⟩ = some (.int .i64 size)) (hr : right = true → 1 ≤ size ∧ size ≤ 65535) (hfb : fb < w.heap.size) (hpb : pb < w.heap.size) :
    Calls Try.prog 29 #[.agg #[.int .i64 x.d, .int .i64 x.m, .int .i64 x.c, .int .i64 x.t, .int .i64 x.s, .int .i64 x.g], .bool right, .func (.func 31) #[] #[.pointer (some ⟨fb, 0, none⟩), .pointer (some ⟨pb, 0, none⟩)]] w fun e w' =>
      e = .returned (.tuple (chR x (acked x time size full) right)) ∧ Below w.heap.size w w' := by
  unfold chR
  cases hd : decide (Ok x)
  · rw [if_neg (of_decide_eq_false hd)]
    go_enter Try.func29, Try.ntmps29
    go_wp2_with (first | (go_at_call 42; refine (may_any x _ _ (BW.new2 _ _ _ x 61)).mono ?_; rintro e w1 ⟨rfl, hX, hB⟩; rw [hd]; obtain ⟨rl, r0, r1, r2, r3, r4, r5, rf⟩ := BW.res w _ _ hB))
    refine bodyPost_ret (by simp [results, Try.results29, go_sem, r0, r1, r2, r3, r4, r5]; rfl) rfl ?_
    exact ⟨rfl, by have := below2 _ _ _ _ hB; go_grown⟩
  · rw [if_pos (of_decide_eq_true hd)]
    cases right
    · go_enter Try.func29, Try.ntmps29
      go_wp2_with (first | (go_at_call 42; refine (may_any x _ _ (BW.new2 _ _ _ x 61)).mono ?_; rintro e w1 ⟨rfl, hX, hB⟩; rw [hd]; obtain ⟨rl, r0, r1, r2, r3, r4, r5, rf⟩ := BW.res w _ _ hB))
      refine bodyPost_ret (by simp [results, Try.results29, go_sem, r0, r1, r2, r3, r4, r5]; rfl) rfl ?_
      exact ⟨rfl, by have := below2 _ _ _ _ hB; go_grown⟩
    · have ho := of_decide_eq_true hd
      obtain ⟨h1, h2⟩ := hr rfl; clear hr
      go_enter Try.func29, Try.ntmps29
      go_wp2_with (first | (go_at_call 42; refine (may_any x _ _ (BW.new2 _ _ _ x 61)).mono ?_; rintro e w1 ⟨rfl, hX, hB⟩; rw [hd]; have HB0 := Lib.hid (below2 _ _ _ _ hB); have HR := Lib.hid (BW.res w _ _ hB); clear hB))
      have Hf := oldcell hf HB0.out hfb
      have Ht := oldcell ht HB0.out hpb
      have Hs := oldcell hs HB0.out hpb
      refine (acked31_any x ho (w.heap.size + 1 + 1) fb pb full time size _ hX Hf Ht Hs h1 h2 (by omega) (by omega)).mono ?_
      clear Hf Ht Hs
      rintro e w2 ⟨⟨v, rfl⟩, hX2, hB2⟩
      have HB2 := Lib.hid (HB0.out.trans (hB2.mono (by omega)))
      obtain ⟨rl, r0, r1, r2, r3, r4, r5, rf⟩ := BW.keptB HR.out hB2 (by omega)
      obtain ⟨xl, x0, x1, x2, x3, x4, x5, xf⟩ := hX2
      clear hB2 hX
      go_wp2_with fail
      refine bodyPost_ret (by simp [results, Try.results29, go_sem, r0, r1, r2, r3, r4, r5]; rfl) rfl ?_
      exact ⟨rfl, by have := HB2.out; go_grown⟩

set_option maxHeartbeats 1000000 in
theorem changed39_any (x : Win) (right : Bool) (sent now : Int) (sb nb : Nat) (w : World) (hs : w.cell? ⟨sb, 0, none⟩ = some (.int .i64 sent)) (hn : w.cell? ⟨nb, 0, none⟩ = some (.int .i64 now)) (hsb : sb < w.heap.size) (hnb : nb < w.heap.size) :
    Calls Try.prog 29 #[.agg #[.int .i64 x.d, .int .i64 x.m, .int .i64 x.c, .int .i64 x.t, .int .i64 x.s, .int .i64 x.g], .bool right, .func (.func 39) #[] #[.pointer (some ⟨sb, 0, none⟩), .pointer (some ⟨nb, 0, none⟩)]] w fun e w' =>
      e = .returned (.tuple (chR x (bad x sent now) right)) ∧ Below w.heap.size w w' := by
  unfold chR
  cases hd : decide (Ok x)
  · rw [if_neg (of_decide_eq_false hd)]
    go_enter Try.func29, Try.ntmps29
    go_wp2_with (first | (go_at_call 42; refine (may_any x _ _ (BW.new2 _ _ _ x 61)).mono ?_; rintro e w1 ⟨rfl, hX, hB⟩; rw [hd]; obtain ⟨rl, r0, r1, r2, r3, r4, r5, rf⟩ := BW.res w _ _ hB))
    refine bodyPost_ret (by simp [results, Try.results29, go_sem, r0, r1, r2, r3, r4, r5]; rfl) rfl ?_
    exact ⟨rfl, by have := below2 _ _ _ _ hB; go_grown⟩
  · rw [if_pos (of_decide_eq_true hd)]
    cases right
    · go_enter Try.func29, Try.ntmps29
      go_wp2_with (first | (go_at_call 42; refine (may_any x _ _ (BW.new2 _ _ _ x 61)).mono ?_; rintro e w1 ⟨rfl, hX, hB⟩; rw [hd]; obtain ⟨rl, r0, r1, r2, r3, r4, r5, rf⟩ := BW.res w _ _ hB))
      refine bodyPost_ret (by simp [results, Try.results29, go_sem, r0, r1, r2, r3, r4, r5]; rfl) rfl ?_
      exact ⟨rfl, by have := below2 _ _ _ _ hB; go_grown⟩
    · have ho := of_decide_eq_true hd
      skip
      go_enter Try.func29, Try.ntmps29
      go_wp2_with (first | (go_at_call 42; refine (may_any x _ _ (BW.new2 _ _ _ x 61)).mono ?_; rintro e w1 ⟨rfl, hX, hB⟩; rw [hd]; have HB0 := Lib.hid (below2 _ _ _ _ hB); have HR := Lib.hid (BW.res w _ _ hB); clear hB))
      have Hs := oldcell hs HB0.out hsb
      have Hn := oldcell hn HB0.out hnb
      refine (bad39_any x ho (w.heap.size + 1 + 1) sb nb sent now _ hX Hs Hn).mono ?_
      clear Hs Hn
      rintro e w2 ⟨⟨v, rfl⟩, hX2, hB2⟩
      have HB2 := Lib.hid (HB0.out.trans (hB2.mono (by omega)))
      obtain ⟨rl, r0, r1, r2, r3, r4, r5, rf⟩ := BW.keptB HR.out hB2 (by omega)
      obtain ⟨xl, x0, x1, x2, x3, x4, x5, xf⟩ := hX2
      clear hB2 hX
      go_wp2_with fail
      refine bodyPost_ret (by simp [results, Try.results29, go_sem, r0, r1, r2, r3, r4, r5]; rfl) rfl ?_
      exact ⟨rfl, by have := HB2.out; go_grown⟩

set_option maxHeartbeats 1000000 in
theorem changed41_any (x : Win) (right : Bool)  (w : World)  :
    Calls Try.prog 29 #[.agg #[.int .i64 x.d, .int .i64 x.m, .int .i64 x.c, .int .i64 x.t, .int .i64 x.s, .int .i64 x.g], .bool right, .func (.func 41) #[] #[]] w fun e w' =>
      e = .returned (.tuple (chR x (collapse x) right)) ∧ Below w.heap.size w w' := by
  unfold chR
  cases hd : decide (Ok x)
  · rw [if_neg (of_decide_eq_false hd)]
    go_enter Try.func29, Try.ntmps29
    go_wp2_with (first | (go_at_call 42; refine (may_any x _ _ (BW.new2 _ _ _ x 61)).mono ?_; rintro e w1 ⟨rfl, hX, hB⟩; rw [hd]; obtain ⟨rl, r0, r1, r2, r3, r4, r5, rf⟩ := BW.res w _ _ hB))
    refine bodyPost_ret (by simp [results, Try.results29, go_sem, r0, r1, r2, r3, r4, r5]; rfl) rfl ?_
    exact ⟨rfl, by have := below2 _ _ _ _ hB; go_grown⟩
  · rw [if_pos (of_decide_eq_true hd)]
    cases right
    · go_enter Try.func29, Try.ntmps29
      go_wp2_with (first | (go_at_call 42; refine (may_any x _ _ (BW.new2 _ _ _ x 61)).mono ?_; rintro e w1 ⟨rfl, hX, hB⟩; rw [hd]; obtain ⟨rl, r0, r1, r2, r3, r4, r5, rf⟩ := BW.res w _ _ hB))
      refine bodyPost_ret (by simp [results, Try.results29, go_sem, r0, r1, r2, r3, r4, r5]; rfl) rfl ?_
      exact ⟨rfl, by have := below2 _ _ _ _ hB; go_grown⟩
    · have ho := of_decide_eq_true hd
      skip
      go_enter Try.func29, Try.ntmps29
      go_wp2_with (first | (go_at_call 42; refine (may_any x _ _ (BW.new2 _ _ _ x 61)).mono ?_; rintro e w1 ⟨rfl, hX, hB⟩; rw [hd]; have HB0 := Lib.hid (below2 _ _ _ _ hB); have HR := Lib.hid (BW.res w _ _ hB); clear hB))
      refine (collapse41_any x ho (w.heap.size + 1 + 1) _ hX).mono ?_
      rintro e w2 ⟨⟨v, rfl⟩, hX2, hB2⟩
      have HB2 := Lib.hid (HB0.out.trans (hB2.mono (by omega)))
      obtain ⟨rl, r0, r1, r2, r3, r4, r5, rf⟩ := BW.keptB HR.out hB2 (by omega)
      obtain ⟨xl, x0, x1, x2, x3, x4, x5, xf⟩ := hX2
      clear hB2 hX
      go_wp2_with fail
      refine bodyPost_ret (by simp [results, Try.results29, go_sem, r0, r1, r2, r3, r4, r5]; rfl) rfl ?_
      exact ⟨rfl, by have := HB2.out; go_grown⟩
end Go.Proofs.Ytcjhankepchioaa
