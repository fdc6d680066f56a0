/-
  The contract of the reference's Acked, way by way.
-/
import Derived.Test.YtiocifmebnaabaaD
import Derived.Test.YtiocifmebnaabaaF
namespace Go.Proofs.Ytiocifmebnaabaa
open Go.RowKit (wrap32 wrap64)
open Go.RowKit
set_option linter.unusedVariables false

/-- Within Acked: the count's box, the frame's, the result's variable; all older is as it was. -/
structure Ar (n a b c : Int) (d : Int) (A : Option Addr) (l k : Nat) (m : Bool) (e0 e1 e2 : Int) (w W : World) : Prop where
  below : Below w.heap.size w W
  cnt : W.heap[w.heap.size]? = some (.cells #[.int .i64 n, .int .i64 a, .int .i64 b, .int .i64 c, .bool false] 31 (0, 0))
  fr : W.heap[w.heap.size + 1]? = some (.cells #[.int .i64 d, .slice A l k, .bool m, .int .i64 e0, .int .i64 e1, .int .i64 e2] 27 (0, 0))
  res : W.heap[w.heap.size + 1 + 1]? = some (.cells #[.int .i64 0, .int .i64 0, .int .i64 0, .int .i64 0, .bool false] 31 (0, 0))
section
variable {n a b c : Int} {d : Int} {A : Option Addr} {l k : Nat} {m : Bool} {e0 e1 e2 : Int} {w W w' : World}
theorem Ar.kept (h : Ar n a b c d A l k m e0 e1 e2 w W) (hb : Below W.heap.size W w') : Ar n a b c d A l k m e0 e1 e2 w w' :=
  ⟨h.below.trans (hb.mono h.below.size), (hb.block _ (blk_lt h.cnt)).trans h.cnt, (hb.block _ (blk_lt h.fr)).trans h.fr, (hb.block _ (blk_lt h.res)).trans h.res⟩
theorem Ar.start (w : World) (o3 o4 o5 : Obj) : Ar n a b c d A l k m e0 e1 e2 w ((((((w.alloc (.cells #[.int .i64 n, .int .i64 a, .int .i64 b, .int .i64 c, .bool false] 31)).alloc (.cells #[.int .i64 d, .slice A l k, .bool m, .int .i64 e0, .int .i64 e1, .int .i64 e2] 27)).alloc (.cells #[.int .i64 0, .int .i64 0, .int .i64 0, .int .i64 0, .bool false] 31)).alloc o3).alloc o4).alloc o5) := by
  have h0 : Ar n a b c d A l k m e0 e1 e2 w (((w.alloc (.cells #[.int .i64 n, .int .i64 a, .int .i64 b, .int .i64 c, .bool false] 31)).alloc (.cells #[.int .i64 d, .slice A l k, .bool m, .int .i64 e0, .int .i64 e1, .int .i64 e2] 27)).alloc (.cells #[.int .i64 0, .int .i64 0, .int .i64 0, .int .i64 0, .bool false] 31)) := by
    refine ⟨by go_grown, ?_, ?_, ?_⟩
    · exact (heap_alloc_old _ _ (by simp; omega)).trans (heap_alloc2_old w _ _)
    · exact (heap_alloc_old _ _ (by simp)).trans (heap_alloc2_new w _ _)
    · have := heap_alloc_new ((w.alloc (.cells #[.int .i64 n, .int .i64 a, .int .i64 b, .int .i64 c, .bool false] 31)).alloc (.cells #[.int .i64 d, .slice A l k, .bool m, .int .i64 e0, .int .i64 e1, .int .i64 e2] 27)) (.cells #[.int .i64 0, .int .i64 0, .int .i64 0, .int .i64 0, .bool false] 31)
      simpa using this
  exact h0.kept ((((Below.refl _ _).alloc (Nat.le_refl _) _).alloc (by simp) _).alloc (by simp) _)
/-- The cells, as the walk asks them. -/
theorem Ar.cells (h : Ar n a b c d A l k m e0 e1 e2 w W) :
    (W.cell? ⟨w.heap.size, 0, none⟩ = some (.int .i64 n) ∧ W.cell? ⟨w.heap.size, 1, none⟩ = some (.int .i64 a) ∧ W.cell? ⟨w.heap.size, 2, none⟩ = some (.int .i64 b) ∧ W.cell? ⟨w.heap.size, 3, none⟩ = some (.int .i64 c) ∧ W.cell? ⟨w.heap.size, 4, none⟩ = some (.bool false)) ∧
    (W.cell? ⟨w.heap.size + 1, 2, none⟩ = some (.bool m) ∧ W.cell? ⟨w.heap.size + 1, 3, none⟩ = some (.int .i64 e0) ∧ W.cell? ⟨w.heap.size + 1, 4, none⟩ = some (.int .i64 e1) ∧ W.cell? ⟨w.heap.size + 1, 5, none⟩ = some (.int .i64 e2)) ∧
    (W.cell? ⟨w.heap.size + 1 + 1, 0, none⟩ = some (.int .i64 0) ∧ W.cell? ⟨w.heap.size + 1 + 1, 1, none⟩ = some (.int .i64 0) ∧ W.cell? ⟨w.heap.size + 1 + 1, 2, none⟩ = some (.int .i64 0) ∧ W.cell? ⟨w.heap.size + 1 + 1, 3, none⟩ = some (.int .i64 0) ∧ W.cell? ⟨w.heap.size + 1 + 1, 4, none⟩ = some (.bool false)) ∧
    (∀ o, W.frozen? ⟨w.heap.size, o, none⟩ = false) ∧ (∀ o, W.frozen? ⟨w.heap.size + 1 + 1, o, none⟩ = false) :=
  ⟨⟨cell_of_row _ _ 0 _ _ _ h.cnt, cell_of_row _ _ 1 _ _ _ h.cnt, cell_of_row _ _ 2 _ _ _ h.cnt, cell_of_row _ _ 3 _ _ _ h.cnt, cell_of_row _ _ 4 _ _ _ h.cnt⟩,
    ⟨cell_of_row _ _ 2 _ _ _ h.fr, cell_of_row _ _ 3 _ _ _ h.fr, cell_of_row _ _ 4 _ _ _ h.fr, cell_of_row _ _ 5 _ _ _ h.fr⟩,
    ⟨cell_of_row _ _ 0 _ _ _ h.res, cell_of_row _ _ 1 _ _ _ h.res, cell_of_row _ _ 2 _ _ _ h.res, cell_of_row _ _ 3 _ _ _ h.res, cell_of_row _ _ 4 _ _ _ h.res⟩,
    fun o => frozen_of_row _ _ o _ _ h.cnt, fun o => frozen_of_row _ _ o _ _ h.res⟩
end

set_option maxHeartbeats 1000000 in
theorem racked_bad_n (n a b c : Int) (f : Bool) (d : Int) (A : Option Addr) (l k : Nat) (m : Bool) (e0 e1 e2 newly : Int) (w : World) (h : ¬ Num n) :
    Calls Try.prog 12 #[.agg #[.int .i64 n, .int .i64 a, .int .i64 b, .int .i64 c, .bool f], .agg #[.int .i64 d, .slice A l k, .bool m, .int .i64 e0, .int .i64 e1, .int .i64 e2], .int .i64 newly] w fun e w' =>
      e = .returned (.tuple #[.agg #[.int .i64 0, .int .i64 0, .int .i64 0, .int .i64 0, .bool false], .bool false, .int .i64 2]) ∧ Below w.heap.size w w' := by
  have H := Lib.hid h
  clear h
  go_enter Try.func12, Try.ntmps12
  go_wp2_with (first | (go_at_call 14; refine (rcheck_n _ _ _ _ _ _ H.out).mono ?_; rintro e w1 ⟨rfl, rfl⟩))
  go_returns
  exact ⟨rfl, by go_grown⟩

set_option maxHeartbeats 1000000 in
theorem racked_bad_m (n a b c : Int) (f : Bool) (d : Int) (A : Option Addr) (l k : Nat) (m : Bool) (e0 e1 e2 newly : Int) (w : World) (h : Num n) (h' : ¬ (Num a ∧ Num b ∧ Num c)) :
    Calls Try.prog 12 #[.agg #[.int .i64 n, .int .i64 a, .int .i64 b, .int .i64 c, .bool f], .agg #[.int .i64 d, .slice A l k, .bool m, .int .i64 e0, .int .i64 e1, .int .i64 e2], .int .i64 newly] w fun e w' =>
      e = .returned (.tuple #[.agg #[.int .i64 0, .int .i64 0, .int .i64 0, .int .i64 0, .bool false], .bool false, .int .i64 2]) ∧ Below w.heap.size w w' := by
  have H := Lib.hid h
  have H' := Lib.hid h'
  clear h h'
  go_enter Try.func12, Try.ntmps12
  go_wp2_with (first | (go_at_call 14; refine (rcheck_m _ _ _ _ _ _ H.out H'.out).mono ?_; rintro e w1 ⟨rfl, rfl⟩))
  go_returns
  exact ⟨rfl, by go_grown⟩

set_option maxHeartbeats 1000000 in
theorem racked_range_lo (n a b c : Int) (f : Bool) (d : Int) (A : Option Addr) (l k : Nat) (m : Bool) (e0 e1 e2 newly : Int) (w : World) (h : OkC n a b c) (h3 : newly < 0) :
    Calls Try.prog 12 #[.agg #[.int .i64 n, .int .i64 a, .int .i64 b, .int .i64 c, .bool f], .agg #[.int .i64 d, .slice A l k, .bool m, .int .i64 e0, .int .i64 e1, .int .i64 e2], .int .i64 newly] w fun e w' =>
      e = .returned (.tuple #[.agg #[.int .i64 0, .int .i64 0, .int .i64 0, .int .i64 0, .bool false], .bool false, .int .i64 9]) ∧ Below w.heap.size w w' := by
  have H0 := Lib.hid h
  clear h
  go_enter Try.func12, Try.ntmps12
  go_wp2_with (first | (go_at_call 14; refine (rcheck_yes _ _ _ _ _ _ H0.out).mono ?_; rintro e w1 ⟨rfl, rfl⟩) | (go_at_call 21; go_in))
  go_returns
  exact ⟨rfl, by go_grown⟩

set_option maxHeartbeats 1000000 in
theorem racked_range_hi (n a b c : Int) (f : Bool) (d : Int) (A : Option Addr) (l k : Nat) (m : Bool) (e0 e1 e2 newly : Int) (w : World) (h : OkC n a b c) (h3 : 9007199254740991 < newly) :
    Calls Try.prog 12 #[.agg #[.int .i64 n, .int .i64 a, .int .i64 b, .int .i64 c, .bool f], .agg #[.int .i64 d, .slice A l k, .bool m, .int .i64 e0, .int .i64 e1, .int .i64 e2], .int .i64 newly] w fun e w' =>
      e = .returned (.tuple #[.agg #[.int .i64 0, .int .i64 0, .int .i64 0, .int .i64 0, .bool false], .bool false, .int .i64 9]) ∧ Below w.heap.size w w' := by
  have H0 := Lib.hid h
  clear h
  have h4 : 0 ≤ newly := by omega
  have h5 : decide (newly ≤ 9007199254740991) = false := by rw [decide_eq_false_iff_not]; omega
  go_enter Try.func12, Try.ntmps12
  go_wp2_with (first | (go_at_call 14; refine (rcheck_yes _ _ _ _ _ _ H0.out).mono ?_; rintro e w1 ⟨rfl, rfl⟩) | (go_at_call 21; go_in))
  go_returns
  exact ⟨rfl, by go_grown⟩

set_option maxHeartbeats 1000000 in
theorem racked_range_m (n a b c : Int) (f : Bool) (d : Int) (A : Option Addr) (l k : Nat) (m : Bool) (e0 e1 e2 newly : Int) (w : World) (h : OkC n a b c) (hw : Num newly) (h' : ¬ (Num e0 ∧ Num e1 ∧ Num e2)) :
    Calls Try.prog 12 #[.agg #[.int .i64 n, .int .i64 a, .int .i64 b, .int .i64 c, .bool f], .agg #[.int .i64 d, .slice A l k, .bool m, .int .i64 e0, .int .i64 e1, .int .i64 e2], .int .i64 newly] w fun e w' =>
      e = .returned (.tuple #[.agg #[.int .i64 0, .int .i64 0, .int .i64 0, .int .i64 0, .bool false], .bool false, .int .i64 9]) ∧ Below w.heap.size w w' := by
  have H0 := Lib.hid h
  have H' := Lib.hid h'
  obtain ⟨w0, w1⟩ := hw
  clear h h'
  go_enter Try.func12, Try.ntmps12
  go_wp2_with (first | (go_at_call 14; refine (rcheck_yes _ _ _ _ _ _ H0.out).mono ?_; rintro e w1 ⟨rfl, rfl⟩) | (go_at_call 21; go_in) | (go_at_call 22; refine (three_no _ _ _ _ H'.out).mono ?_; rintro e w1 ⟨rfl, rfl⟩))
  go_returns
  exact ⟨rfl, by go_grown⟩

set_option maxHeartbeats 1000000 in
theorem racked_failed (n a b c : Int) (d : Int) (A : Option Addr) (l k : Nat) (m : Bool) (e0 e1 e2 newly : Int) (w : World) (h : OkC n a b c) (h' : Num newly ∧ Num e0 ∧ Num e1 ∧ Num e2) :
    Calls Try.prog 12 #[.agg #[.int .i64 n, .int .i64 a, .int .i64 b, .int .i64 c, .bool true], .agg #[.int .i64 d, .slice A l k, .bool m, .int .i64 e0, .int .i64 e1, .int .i64 e2], .int .i64 newly] w fun e w' =>
      e = .returned (.tuple #[.agg #[.int .i64 n, .int .i64 a, .int .i64 b, .int .i64 c, .bool true], .bool false, .int .i64 0]) ∧ Below w.heap.size w w' := by
  have H0 := Lib.hid h
  have H := Lib.hid h'
  obtain ⟨⟨w0, w1⟩, _⟩ := h'
  clear h
  go_enter Try.func12, Try.ntmps12
  go_wp2_with (first | (go_at_call 14; refine (rcheck_yes _ _ _ _ _ _ H0.out).mono ?_; rintro e w1 ⟨rfl, rfl⟩) | (go_at_call 21; go_in) | (go_at_call 22; refine (three_yes _ _ _ _ H.out.2.1 H.out.2.2.1 H.out.2.2.2).mono ?_; rintro e w1 ⟨rfl, rfl⟩))
  go_returns
  exact ⟨rfl, by go_grown⟩

set_option maxHeartbeats 1000000 in
theorem racked_f (n a b c : Int) (d : Int) (A : Option Addr) (l k : Nat) (m : Bool) (e0 e1 e2 newly : Int) (w : World) (h : OkC n a b c) (h' : Num newly ∧ Num e0 ∧ Num e1 ∧ Num e2) (hF : (if m = true then failsB n a b c e0 e1 e2 newly else decide (0 < newly)) = true) :
    Calls Try.prog 12 #[.agg #[.int .i64 n, .int .i64 a, .int .i64 b, .int .i64 c, .bool false], .agg #[.int .i64 d, .slice A l k, .bool m, .int .i64 e0, .int .i64 e1, .int .i64 e2], .int .i64 newly] w fun e w' =>
      e = .returned (.tuple #[.agg #[.int .i64 n, .int .i64 a, .int .i64 b, .int .i64 c, .bool true], .bool false, .int .i64 0]) ∧ Below w.heap.size w w' := by
  have H0 := Lib.hid h
  have H := Lib.hid h'
  obtain ⟨⟨w0, w1⟩, _⟩ := h'
  clear h
  have HF := Lib.hid hF
  clear hF
  go_enter Try.func12, Try.ntmps12
  go_wp2_with (first | (go_at_call 14; refine (rcheck_yes _ _ _ _ _ _ H0.out).mono ?_; rintro e w1 ⟨rfl, rfl⟩) | (go_at_call 21; go_in) | (go_at_call 22; refine (three_yes _ _ _ _ H.out.2.1 H.out.2.2.1 H.out.2.2.2).mono ?_; rintro e w1 ⟨rfl, rfl⟩))
  refine (rfails_any n a b c false d A l k m e0 e1 e2 newly _ H0.out.1 H0.out.2.1 H0.out.2.2.2 H.out.2.1 H.out.2.2.2 H.out.1).mono ?_
  rintro e w2 ⟨rfl, hb⟩
  rw [HF.out]
  have hA := Ar.kept (Ar.start w _ _ _) hb
  clear hb
  obtain ⟨⟨k0, k1, k2, k3, k4⟩, ⟨f2, f3, f4, f5⟩, ⟨z0, z1, z2, z3, z4⟩, zf, zr⟩ := hA.cells
  have hbel := hA.below
  clear hA
  have y0 : (w2.setCell ⟨w.heap.size, 4, none⟩ (.bool true)).cell? ⟨w.heap.size + 1 + 1, 0, none⟩ = some (.int .i64 0) := (World.cell?_setCell_other _ _ _ _ (by simp)).trans z0
  have y1 : (w2.setCell ⟨w.heap.size, 4, none⟩ (.bool true)).cell? ⟨w.heap.size + 1 + 1, 1, none⟩ = some (.int .i64 0) := (World.cell?_setCell_other _ _ _ _ (by simp)).trans z1
  have y2 : (w2.setCell ⟨w.heap.size, 4, none⟩ (.bool true)).cell? ⟨w.heap.size + 1 + 1, 2, none⟩ = some (.int .i64 0) := (World.cell?_setCell_other _ _ _ _ (by simp)).trans z2
  have y3 : (w2.setCell ⟨w.heap.size, 4, none⟩ (.bool true)).cell? ⟨w.heap.size + 1 + 1, 3, none⟩ = some (.int .i64 0) := (World.cell?_setCell_other _ _ _ _ (by simp)).trans z3
  have y4 : (w2.setCell ⟨w.heap.size, 4, none⟩ (.bool true)).cell? ⟨w.heap.size + 1 + 1, 4, none⟩ = some (.bool false) := (World.cell?_setCell_other _ _ _ _ (by simp)).trans z4
  go_wp2_with fail
  refine bodyPost_ret (by simp [results, Try.results12, go_sem, y0, y1, y2, y3, y4]; rfl) rfl ?_
  exact ⟨rfl, by go_grown⟩

set_option maxHeartbeats 1000000 in
theorem racked_p (n a b c : Int) (d : Int) (A : Option Addr) (l k : Nat) (e0 e1 e2 newly : Int) (w : World) (h : OkC n a b c) (h' : Num newly ∧ Num e0 ∧ Num e1 ∧ Num e2) (hF : decide (0 < newly) = false) :
    Calls Try.prog 12 #[.agg #[.int .i64 n, .int .i64 a, .int .i64 b, .int .i64 c, .bool false], .agg #[.int .i64 d, .slice A l k, .bool false, .int .i64 e0, .int .i64 e1, .int .i64 e2], .int .i64 newly] w fun e w' =>
      e = .returned (.tuple #[.agg #[.int .i64 n, .int .i64 a, .int .i64 b, .int .i64 c, .bool false], .bool false, .int .i64 0]) ∧ Below w.heap.size w w' := by
  have H0 := Lib.hid h
  have H := Lib.hid h'
  obtain ⟨⟨w0, w1⟩, _⟩ := h'
  clear h
  have HF := Lib.hid hF
  clear hF
  go_enter Try.func12, Try.ntmps12
  go_wp2_with (first | (go_at_call 14; refine (rcheck_yes _ _ _ _ _ _ H0.out).mono ?_; rintro e w1 ⟨rfl, rfl⟩) | (go_at_call 21; go_in) | (go_at_call 22; refine (three_yes _ _ _ _ H.out.2.1 H.out.2.2.1 H.out.2.2.2).mono ?_; rintro e w1 ⟨rfl, rfl⟩))
  refine (rfails_any n a b c false d A l k false e0 e1 e2 newly _ H0.out.1 H0.out.2.1 H0.out.2.2.2 H.out.2.1 H.out.2.2.2 H.out.1).mono ?_
  rintro e w2 ⟨rfl, hb⟩
  rw [if_neg (by decide), HF.out]
  have hA := Ar.kept (Ar.start w _ _ _) hb
  clear hb
  obtain ⟨⟨k0, k1, k2, k3, k4⟩, ⟨f2, f3, f4, f5⟩, ⟨z0, z1, z2, z3, z4⟩, zf, zr⟩ := hA.cells
  have hbel := hA.below
  clear hA
  go_wp2_with fail
  refine bodyPost_ret (by simp [results, Try.results12, go_sem, z0, z1, z2, z3, z4]; rfl) rfl ?_
  exact ⟨rfl, by go_grown⟩

set_option maxHeartbeats 1000000 in
theorem racked_s (n a b c : Int) (d : Int) (A : Option Addr) (l k : Nat) (e0 e1 e2 newly : Int) (w : World) (h : OkC n a b c) (h' : Num newly ∧ Num e0 ∧ Num e1 ∧ Num e2) (hF : failsB n a b c e0 e1 e2 newly = false) :
    Calls Try.prog 12 #[.agg #[.int .i64 n, .int .i64 a, .int .i64 b, .int .i64 c, .bool false], .agg #[.int .i64 d, .slice A l k, .bool true, .int .i64 e0, .int .i64 e1, .int .i64 e2], .int .i64 newly] w fun e w' =>
      e = .returned (.tuple #[.agg #[.int .i64 n, .int .i64 e0, .int .i64 e1, .int .i64 e2, .bool false], .bool (decide (c < e2)), .int .i64 0]) ∧ Below w.heap.size w w' := by
  have H0 := Lib.hid h
  have H := Lib.hid h'
  obtain ⟨⟨w0, w1⟩, _⟩ := h'
  clear h
  have HF := Lib.hid hF
  clear hF
  go_enter Try.func12, Try.ntmps12
  go_wp2_with (first | (go_at_call 14; refine (rcheck_yes _ _ _ _ _ _ H0.out).mono ?_; rintro e w1 ⟨rfl, rfl⟩) | (go_at_call 21; go_in) | (go_at_call 22; refine (three_yes _ _ _ _ H.out.2.1 H.out.2.2.1 H.out.2.2.2).mono ?_; rintro e w1 ⟨rfl, rfl⟩))
  refine (rfails_any n a b c false d A l k true e0 e1 e2 newly _ H0.out.1 H0.out.2.1 H0.out.2.2.2 H.out.2.1 H.out.2.2.2 H.out.1).mono ?_
  rintro e w2 ⟨rfl, hb⟩
  rw [if_pos rfl, HF.out]
  have hA := Ar.kept (Ar.start w _ _ _) hb
  clear hb
  obtain ⟨⟨k0, k1, k2, k3, k4⟩, ⟨f2, f3, f4, f5⟩, ⟨z0, z1, z2, z3, z4⟩, zf, zr⟩ := hA.cells
  have hbel := hA.below
  clear hA
  have y0 : (((w2.setCell ⟨w.heap.size, 1, none⟩ (.int .i64 e0)).setCell ⟨w.heap.size, 2, none⟩ (.int .i64 e1)).setCell ⟨w.heap.size, 3, none⟩ (.int .i64 e2)).cell? ⟨w.heap.size + 1 + 1, 0, none⟩ = some (.int .i64 0) := (World.cell?_setCell_other _ _ _ _ (by simp)).trans ((World.cell?_setCell_other _ _ _ _ (by simp)).trans ((World.cell?_setCell_other _ _ _ _ (by simp)).trans z0))
  have y1 : (((w2.setCell ⟨w.heap.size, 1, none⟩ (.int .i64 e0)).setCell ⟨w.heap.size, 2, none⟩ (.int .i64 e1)).setCell ⟨w.heap.size, 3, none⟩ (.int .i64 e2)).cell? ⟨w.heap.size + 1 + 1, 1, none⟩ = some (.int .i64 0) := (World.cell?_setCell_other _ _ _ _ (by simp)).trans ((World.cell?_setCell_other _ _ _ _ (by simp)).trans ((World.cell?_setCell_other _ _ _ _ (by simp)).trans z1))
  have y2 : (((w2.setCell ⟨w.heap.size, 1, none⟩ (.int .i64 e0)).setCell ⟨w.heap.size, 2, none⟩ (.int .i64 e1)).setCell ⟨w.heap.size, 3, none⟩ (.int .i64 e2)).cell? ⟨w.heap.size + 1 + 1, 2, none⟩ = some (.int .i64 0) := (World.cell?_setCell_other _ _ _ _ (by simp)).trans ((World.cell?_setCell_other _ _ _ _ (by simp)).trans ((World.cell?_setCell_other _ _ _ _ (by simp)).trans z2))
  have y3 : (((w2.setCell ⟨w.heap.size, 1, none⟩ (.int .i64 e0)).setCell ⟨w.heap.size, 2, none⟩ (.int .i64 e1)).setCell ⟨w.heap.size, 3, none⟩ (.int .i64 e2)).cell? ⟨w.heap.size + 1 + 1, 3, none⟩ = some (.int .i64 0) := (World.cell?_setCell_other _ _ _ _ (by simp)).trans ((World.cell?_setCell_other _ _ _ _ (by simp)).trans ((World.cell?_setCell_other _ _ _ _ (by simp)).trans z3))
  have y4 : (((w2.setCell ⟨w.heap.size, 1, none⟩ (.int .i64 e0)).setCell ⟨w.heap.size, 2, none⟩ (.int .i64 e1)).setCell ⟨w.heap.size, 3, none⟩ (.int .i64 e2)).cell? ⟨w.heap.size + 1 + 1, 4, none⟩ = some (.bool false) := (World.cell?_setCell_other _ _ _ _ (by simp)).trans ((World.cell?_setCell_other _ _ _ _ (by simp)).trans ((World.cell?_setCell_other _ _ _ _ (by simp)).trans z4))
  go_wp2_with fail
  refine bodyPost_ret (by simp [results, Try.results12, go_sem, y0, y1, y2, y3, y4]; rfl) rfl ?_
  exact ⟨rfl, by go_grown⟩
end Go.Proofs.Ytiocifmebnaabaa
