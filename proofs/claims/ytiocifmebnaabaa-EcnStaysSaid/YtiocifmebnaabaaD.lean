/-
  The contract of Acked, way by way.
-/
import Derived.Test.YtiocifmebnaabaaC
import Derived.Test.YtiocifmebnaabaaE
namespace Go.Proofs.Ytiocifmebnaabaa
open Go.RowKit (wrap32 wrap64)
open Go.RowKit
set_option linter.unusedVariables false
theorem acked_bad (n a b c : Int) (f : Bool) (d : Int) (A : Option Addr) (l k : Nat) (m : Bool) (e0 e1 e2 newly : Int) (w : World) (h : ¬ OkC n a b c) :
    Calls Try.prog 11 #[.agg #[.int .i64 n, .int .i64 a, .int .i64 b, .int .i64 c, .bool f], .agg #[.int .i64 d, .slice A l k, .bool m, .int .i64 e0, .int .i64 e1, .int .i64 e2], .int .i64 newly] w fun e w' =>
      e = .returned (.tuple #[.agg #[.int .i64 0, .int .i64 0, .int .i64 0, .int .i64 0, .bool false], .bool false, .int .i64 2]) ∧ Below w.heap.size w w' := by
  have he : checkE n a b c = 2 := if_neg h
  clear h
  go_enter Try.func11, Try.ntmps11
  go_wp2_with (first | (go_at_call 13; refine (check_any _ _ _ _ _ _).mono ?_; rintro e w1 ⟨rfl, rfl⟩; rw [he]))
  go_returns
  exact ⟨rfl, by go_grown⟩
theorem acked_range (n a b c : Int) (f : Bool) (d : Int) (A : Option Addr) (l k : Nat) (m : Bool) (e0 e1 e2 newly : Int) (w : World) (h : OkC n a b c) (h' : ¬ (Num newly ∧ Num e0 ∧ Num e1 ∧ Num e2)) :
    Calls Try.prog 11 #[.agg #[.int .i64 n, .int .i64 a, .int .i64 b, .int .i64 c, .bool f], .agg #[.int .i64 d, .slice A l k, .bool m, .int .i64 e0, .int .i64 e1, .int .i64 e2], .int .i64 newly] w fun e w' =>
      e = .returned (.tuple #[.agg #[.int .i64 0, .int .i64 0, .int .i64 0, .int .i64 0, .bool false], .bool false, .int .i64 9]) ∧ Below w.heap.size w w' := by
  have he : checkE n a b c = 0 := if_pos h
  have H := Lib.hid h'
  clear h h'
  go_enter Try.func11, Try.ntmps11
  go_wp2_with (first | (go_at_call 13; refine (check_any _ _ _ _ _ _).mono ?_; rintro e w1 ⟨rfl, rfl⟩; rw [he]))
  refine (in_no _ _ _ _ _ _ _ H.out ?_ ?_ ?_ ?_).mono ?_
  · go_cell
  · go_cell
  · go_cell
  · go_cell
  rintro e w' ⟨rfl, rfl⟩
  go_wp2_with fail
  go_returns
  exact ⟨rfl, by go_grown⟩
theorem acked_failed (n a b c : Int) (d : Int) (A : Option Addr) (l k : Nat) (m : Bool) (e0 e1 e2 newly : Int) (w : World) (h : OkC n a b c) (h' : Num newly ∧ Num e0 ∧ Num e1 ∧ Num e2) :
    Calls Try.prog 11 #[.agg #[.int .i64 n, .int .i64 a, .int .i64 b, .int .i64 c, .bool true], .agg #[.int .i64 d, .slice A l k, .bool m, .int .i64 e0, .int .i64 e1, .int .i64 e2], .int .i64 newly] w fun e w' =>
      e = .returned (.tuple #[.agg #[.int .i64 n, .int .i64 a, .int .i64 b, .int .i64 c, .bool true], .bool false, .int .i64 0]) ∧ Below w.heap.size w w' := by
  have he : checkE n a b c = 0 := if_pos h
  have H := Lib.hid h'
  clear h h'
  go_enter Try.func11, Try.ntmps11
  go_wp2_with (first | (go_at_call 13; refine (check_any _ _ _ _ _ _).mono ?_; rintro e w1 ⟨rfl, rfl⟩; rw [he]))
  refine (in_yes _ _ _ _ _ _ _ H.out.1 H.out.2.1 H.out.2.2.1 H.out.2.2.2 ?_ ?_ ?_ ?_).mono ?_
  · go_cell
  · go_cell
  · go_cell
  · go_cell
  rintro e w' ⟨rfl, rfl⟩
  go_wp2_with fail
  go_returns
  exact ⟨rfl, by go_grown⟩
theorem acked_plain (n a b c : Int) (d : Int) (A : Option Addr) (l k : Nat) (e0 e1 e2 newly : Int) (w : World) (h : OkC n a b c) (h' : Num newly ∧ Num e0 ∧ Num e1 ∧ Num e2) :
    Calls Try.prog 11 #[.agg #[.int .i64 n, .int .i64 a, .int .i64 b, .int .i64 c, .bool false], .agg #[.int .i64 d, .slice A l k, .bool false, .int .i64 e0, .int .i64 e1, .int .i64 e2], .int .i64 newly] w fun e w' =>
      e = .returned (.tuple #[.agg #[.int .i64 n, .int .i64 a, .int .i64 b, .int .i64 c, .bool (decide (0 < newly))], .bool false, .int .i64 0]) ∧ Below w.heap.size w w' := by
  have he : checkE n a b c = 0 := if_pos h
  have H := Lib.hid h'
  clear h h'
  go_enter Try.func11, Try.ntmps11
  go_wp2_with (first | (go_at_call 13; refine (check_any _ _ _ _ _ _).mono ?_; rintro e w1 ⟨rfl, rfl⟩; rw [he]))
  refine (in_yes _ _ _ _ _ _ _ H.out.1 H.out.2.1 H.out.2.2.1 H.out.2.2.2 ?_ ?_ ?_ ?_).mono ?_
  · go_cell
  · go_cell
  · go_cell
  · go_cell
  rintro e w' ⟨rfl, rfl⟩
  go_wp2_with fail
  go_returns
  exact ⟨rfl, by go_grown⟩

/-- Within Acked: the count's box, the frame's, the result's variable; all older is as it was. -/
structure Ak (n a b c : Int) (d : Int) (A : Option Addr) (l k : Nat) (e0 e1 e2 : Int) (w W : World) : Prop where
  below : Below w.heap.size w W
  cnt : W.heap[w.heap.size]? = some (.cells #[.int .i64 n, .int .i64 a, .int .i64 b, .int .i64 c, .bool false] 24 (0, 0))
  fr : W.heap[w.heap.size + 1]? = some (.cells #[.int .i64 d, .slice A l k, .bool true, .int .i64 e0, .int .i64 e1, .int .i64 e2] 27 (0, 0))
  res : W.heap[w.heap.size + 1 + 1]? = some (.cells #[.int .i64 0, .int .i64 0, .int .i64 0, .int .i64 0, .bool false] 24 (0, 0))
section
variable {n a b c : Int} {d : Int} {A : Option Addr} {l k : Nat} {e0 e1 e2 : Int} {w W w' : World}
theorem Ak.kept (h : Ak n a b c d A l k e0 e1 e2 w W) (hb : Below W.heap.size W w') : Ak n a b c d A l k e0 e1 e2 w w' :=
  ⟨h.below.trans (hb.mono h.below.size), (hb.block _ (blk_lt h.cnt)).trans h.cnt, (hb.block _ (blk_lt h.fr)).trans h.fr, (hb.block _ (blk_lt h.res)).trans h.res⟩
theorem Ak.drewN (h : Ak n a b c d A l k e0 e1 e2 w W) (m : Nat) : Ak n a b c d A l k e0 e1 e2 w (W.drewN m) :=
  ⟨⟨h.below.os, h.below.tape, h.below.output, h.below.size, h.below.block⟩, h.cnt, h.fr, h.res⟩
theorem Ak.start (w : World) (o3 o4 o5 : Obj) : Ak n a b c d A l k e0 e1 e2 w ((((((w.alloc (.cells #[.int .i64 n, .int .i64 a, .int .i64 b, .int .i64 c, .bool false] 24)).alloc (.cells #[.int .i64 d, .slice A l k, .bool true, .int .i64 e0, .int .i64 e1, .int .i64 e2] 27)).alloc (.cells #[.int .i64 0, .int .i64 0, .int .i64 0, .int .i64 0, .bool false] 24)).alloc o3).alloc o4).alloc o5) := by
  have h0 : Ak n a b c d A l k e0 e1 e2 w (((w.alloc (.cells #[.int .i64 n, .int .i64 a, .int .i64 b, .int .i64 c, .bool false] 24)).alloc (.cells #[.int .i64 d, .slice A l k, .bool true, .int .i64 e0, .int .i64 e1, .int .i64 e2] 27)).alloc (.cells #[.int .i64 0, .int .i64 0, .int .i64 0, .int .i64 0, .bool false] 24)) := by
    refine ⟨by go_grown, ?_, ?_, ?_⟩
    · exact (heap_alloc_old _ _ (by simp; omega)).trans (heap_alloc2_old w _ _)
    · exact (heap_alloc_old _ _ (by simp)).trans (heap_alloc2_new w _ _)
    · have := heap_alloc_new ((w.alloc (.cells #[.int .i64 n, .int .i64 a, .int .i64 b, .int .i64 c, .bool false] 24)).alloc (.cells #[.int .i64 d, .slice A l k, .bool true, .int .i64 e0, .int .i64 e1, .int .i64 e2] 27)) (.cells #[.int .i64 0, .int .i64 0, .int .i64 0, .int .i64 0, .bool false] 24)
      simpa using this
  exact h0.kept ((((Below.refl _ _).alloc (Nat.le_refl _) _).alloc (by simp) _).alloc (by simp) _)
/-- The cells, as the walk asks them. -/
theorem Ak.cells (h : Ak n a b c d A l k e0 e1 e2 w W) :
    (W.cell? ⟨w.heap.size, 0, none⟩ = some (.int .i64 n) ∧ W.cell? ⟨w.heap.size, 1, none⟩ = some (.int .i64 a) ∧ W.cell? ⟨w.heap.size, 2, none⟩ = some (.int .i64 b) ∧ W.cell? ⟨w.heap.size, 3, none⟩ = some (.int .i64 c) ∧ W.cell? ⟨w.heap.size, 4, none⟩ = some (.bool false)) ∧
    (W.cell? ⟨w.heap.size + 1, 2, none⟩ = some (.bool true) ∧ W.cell? ⟨w.heap.size + 1, 3, none⟩ = some (.int .i64 e0) ∧ W.cell? ⟨w.heap.size + 1, 4, none⟩ = some (.int .i64 e1) ∧ W.cell? ⟨w.heap.size + 1, 5, none⟩ = some (.int .i64 e2)) ∧
    (W.cell? ⟨w.heap.size + 1 + 1, 0, none⟩ = some (.int .i64 0) ∧ W.cell? ⟨w.heap.size + 1 + 1, 1, none⟩ = some (.int .i64 0) ∧ W.cell? ⟨w.heap.size + 1 + 1, 2, none⟩ = some (.int .i64 0) ∧ W.cell? ⟨w.heap.size + 1 + 1, 3, none⟩ = some (.int .i64 0) ∧ W.cell? ⟨w.heap.size + 1 + 1, 4, none⟩ = some (.bool false)) ∧
    (∀ o, W.frozen? ⟨w.heap.size, o, none⟩ = false) ∧ (∀ o, W.frozen? ⟨w.heap.size + 1 + 1, o, none⟩ = false) :=
  ⟨⟨cell_of_row _ _ 0 _ _ _ h.cnt, cell_of_row _ _ 1 _ _ _ h.cnt, cell_of_row _ _ 2 _ _ _ h.cnt, cell_of_row _ _ 3 _ _ _ h.cnt, cell_of_row _ _ 4 _ _ _ h.cnt⟩,
    ⟨cell_of_row _ _ 2 _ _ _ h.fr, cell_of_row _ _ 3 _ _ _ h.fr, cell_of_row _ _ 4 _ _ _ h.fr, cell_of_row _ _ 5 _ _ _ h.fr⟩,
    ⟨cell_of_row _ _ 0 _ _ _ h.res, cell_of_row _ _ 1 _ _ _ h.res, cell_of_row _ _ 2 _ _ _ h.res, cell_of_row _ _ 3 _ _ _ h.res, cell_of_row _ _ 4 _ _ _ h.res⟩,
    fun o => frozen_of_row _ _ o _ _ h.cnt, fun o => frozen_of_row _ _ o _ _ h.res⟩
theorem Ak.drew (h : Ak n a b c d A l k e0 e1 e2 w W) : Ak n a b c d A l k e0 e1 e2 w W.drew :=
  ⟨h.below.drew, h.cnt, h.fr, h.res⟩
theorem Ak.all (h : Ak n a b c d A l k e0 e1 e2 w W) : W.cell? ⟨w.heap.size, 0, none⟩ = some (.int .i64 n) ∧ W.cell? ⟨w.heap.size, 1, none⟩ = some (.int .i64 a) ∧ W.cell? ⟨w.heap.size, 2, none⟩ = some (.int .i64 b) ∧ W.cell? ⟨w.heap.size, 3, none⟩ = some (.int .i64 c) ∧
    W.cell? ⟨w.heap.size + 1, 3, none⟩ = some (.int .i64 e0) ∧ W.cell? ⟨w.heap.size + 1, 4, none⟩ = some (.int .i64 e1) ∧ W.cell? ⟨w.heap.size + 1, 5, none⟩ = some (.int .i64 e2) ∧ Ak n a b c d A l k e0 e1 e2 w W :=
  ⟨h.cells.1.1, h.cells.1.2.1, h.cells.1.2.2.1, h.cells.1.2.2.2.1, h.cells.2.1.2.1, h.cells.2.1.2.2.1, h.cells.2.1.2.2.2, h⟩
theorem ours_A (h : Ak n a b c d A l k e0 e1 e2 w W) (x y z : Int) (hx : Num x) (hz : Num z) :
    Calls Try.prog 19 #[.agg #[.int .i64 x, .int .i64 y, .int .i64 z]] W fun e w' => e = .returned (.int .i64 (x + z)) ∧ Ak n a b c d A l k e0 e1 e2 w w' :=
  (ours_any x y z W hx hz).mono fun _ _ ⟨he, hw⟩ => ⟨he, hw ▸ h.kept ((Below.refl _ _).alloc (Nat.le_refl _) _)⟩
theorem over_W {C : Code} {Q : Exit → Act → World → Prop} {act : Act} {o3 o4 o5 : Obj} (h : ∀ W, Ak n a b c d A l k e0 e1 e2 w W → Code.wp Try.prog C Q act W) :
    Code.wp Try.prog C Q act ((((((w.alloc (.cells #[.int .i64 n, .int .i64 a, .int .i64 b, .int .i64 c, .bool false] 24)).alloc (.cells #[.int .i64 d, .slice A l k, .bool true, .int .i64 e0, .int .i64 e1, .int .i64 e2] 27)).alloc (.cells #[.int .i64 0, .int .i64 0, .int .i64 0, .int .i64 0, .bool false] 24)).alloc o3).alloc o4).alloc o5) :=
  h _ (Ak.start w o3 o4 o5)
end

set_option maxHeartbeats 1000000 in
theorem acked_nf (n a b c : Int) (d : Int) (A : Option Addr) (l k : Nat) (e0 e1 e2 newly : Int) (w : World) (h : OkC n a b c) (h' : Num newly ∧ Num e0 ∧ Num e1 ∧ Num e2) (hne : ¬ (e0 = a ∧ e1 = b ∧ e2 = c)) (hF : failsB n a b c e0 e1 e2 newly = true) :
    Calls Try.prog 11 #[.agg #[.int .i64 n, .int .i64 a, .int .i64 b, .int .i64 c, .bool false], .agg #[.int .i64 d, .slice A l k, .bool true, .int .i64 e0, .int .i64 e1, .int .i64 e2], .int .i64 newly] w fun e w' =>
      e = .returned (.tuple #[.agg #[.int .i64 n, .int .i64 a, .int .i64 b, .int .i64 c, .bool true], .bool false, .int .i64 0]) ∧ Below w.heap.size w w' := by
  have he : checkE n a b c = 0 := if_pos h
  have H := Lib.hid h'
  have H0 := Lib.hid h
  have HF := Lib.hid hF
  clear hF
  have hq : ∀ w : World, (binOp .eql 22 (.agg #[.int .i64 e0, .int .i64 e1, .int .i64 e2]) (.agg #[.int .i64 a, .int .i64 b, .int .i64 c])).run Try.prog w = .ok (.bool false) w := fun w => by
    rw [eql_three]; simp only [Result.ok.injEq, Value.bool.injEq, and_true]; simp; intro p q r; exact hne ⟨p, q, r⟩
  clear hne
  clear h h'
  go_enter Try.func11, Try.ntmps11
  go_wp2_with (first | (go_at_call 13; refine (check_any _ _ _ _ _ _).mono ?_; rintro e w1 ⟨rfl, rfl⟩; rw [he]))
  refine (in_yes _ _ _ _ _ _ _ H.out.1 H.out.2.1 H.out.2.2.1 H.out.2.2.2 ?_ ?_ ?_ ?_).mono ?_
  · go_cell
  · go_cell
  · go_cell
  · go_cell
  rintro e w' ⟨rfl, rfl⟩
  go_wp2_with fail
  refine over_W ?_
  intro W hA
  obtain ⟨⟨k0, k1, k2, k3, k4⟩, ⟨f2, f3, f4, f5⟩, ⟨z0, z1, z2, z3, z4⟩, zf, zr⟩ := hA.cells
  have HA := Lib.hid hA
  clear hA
  go_quiet (fail)
  go_wp2_with fail
  have hA := HA.out.drewN nq
  clear k0 k1 k2 k3 k4 f2 f3 f4 f5 z0 z1 z2 z3 z4 zf zr hq
  clear HA
  have HA := Lib.hid hA
  clear hA
  refine (fails_any n a b c false e0 e1 e2 newly _ H0.out.1 H0.out.2.1 H0.out.2.2.2 H.out.2.1 H.out.2.2.2 H.out.1).mono ?_
  rintro e w2 ⟨rfl, hb⟩
  rw [HF.out]
  have hA := HA.out.kept hb
  clear hb
  obtain ⟨⟨k0, k1, k2, k3, k4⟩, ⟨f2, f3, f4, f5⟩, ⟨z0, z1, z2, z3, z4⟩, zf, zr⟩ := hA.cells
  have hbel := hA.below
  clear hA
  have y0 : (w2.setCell ⟨w.heap.size, 4, none⟩ (.bool true)).cell? ⟨w.heap.size + 1 + 1, 0, none⟩ = some (.int .i64 0) := (World.cell?_setCell_other _ _ _ _ (by simp)).trans z0
  have y1 : (w2.setCell ⟨w.heap.size, 4, none⟩ (.bool true)).cell? ⟨w.heap.size + 1 + 1, 1, none⟩ = some (.int .i64 0) := (World.cell?_setCell_other _ _ _ _ (by simp)).trans z1
  have y2 : (w2.setCell ⟨w.heap.size, 4, none⟩ (.bool true)).cell? ⟨w.heap.size + 1 + 1, 2, none⟩ = some (.int .i64 0) := (World.cell?_setCell_other _ _ _ _ (by simp)).trans z2
  have y3 : (w2.setCell ⟨w.heap.size, 4, none⟩ (.bool true)).cell? ⟨w.heap.size + 1 + 1, 3, none⟩ = some (.int .i64 0) := (World.cell?_setCell_other _ _ _ _ (by simp)).trans z3
  have y4 : (w2.setCell ⟨w.heap.size, 4, none⟩ (.bool true)).cell? ⟨w.heap.size + 1 + 1, 4, none⟩ = some (.bool false) := (World.cell?_setCell_other _ _ _ _ (by simp)).trans z4
  go_wp2_with fail
  refine bodyPost_ret (by simp [results, Try.results11, go_sem, y0, y1, y2, y3, y4]; rfl) rfl ?_
  exact ⟨rfl, by go_grown⟩

set_option maxHeartbeats 1000000 in
theorem acked_ns (n a b c : Int) (d : Int) (A : Option Addr) (l k : Nat) (e0 e1 e2 newly : Int) (w : World) (h : OkC n a b c) (h' : Num newly ∧ Num e0 ∧ Num e1 ∧ Num e2) (hne : ¬ (e0 = a ∧ e1 = b ∧ e2 = c)) (hF : failsB n a b c e0 e1 e2 newly = false) :
    Calls Try.prog 11 #[.agg #[.int .i64 n, .int .i64 a, .int .i64 b, .int .i64 c, .bool false], .agg #[.int .i64 d, .slice A l k, .bool true, .int .i64 e0, .int .i64 e1, .int .i64 e2], .int .i64 newly] w fun e w' =>
      e = .returned (.tuple #[.agg #[.int .i64 n, .int .i64 e0, .int .i64 e1, .int .i64 e2, .bool false], .bool (decide (c < e2)), .int .i64 0]) ∧ Below w.heap.size w w' := by
  have he : checkE n a b c = 0 := if_pos h
  have H := Lib.hid h'
  have H0 := Lib.hid h
  have HF := Lib.hid hF
  clear hF
  have hq : ∀ w : World, (binOp .eql 22 (.agg #[.int .i64 e0, .int .i64 e1, .int .i64 e2]) (.agg #[.int .i64 a, .int .i64 b, .int .i64 c])).run Try.prog w = .ok (.bool false) w := fun w => by
    rw [eql_three]; simp only [Result.ok.injEq, Value.bool.injEq, and_true]; simp; intro p q r; exact hne ⟨p, q, r⟩
  clear hne
  clear h h'
  go_enter Try.func11, Try.ntmps11
  go_wp2_with (first | (go_at_call 13; refine (check_any _ _ _ _ _ _).mono ?_; rintro e w1 ⟨rfl, rfl⟩; rw [he]))
  refine (in_yes _ _ _ _ _ _ _ H.out.1 H.out.2.1 H.out.2.2.1 H.out.2.2.2 ?_ ?_ ?_ ?_).mono ?_
  · go_cell
  · go_cell
  · go_cell
  · go_cell
  rintro e w' ⟨rfl, rfl⟩
  go_wp2_with fail
  refine over_W ?_
  intro W hA
  obtain ⟨⟨k0, k1, k2, k3, k4⟩, ⟨f2, f3, f4, f5⟩, ⟨z0, z1, z2, z3, z4⟩, zf, zr⟩ := hA.cells
  have HA := Lib.hid hA
  clear hA
  go_quiet (fail)
  go_wp2_with fail
  have hA := HA.out.drewN nq
  clear k0 k1 k2 k3 k4 f2 f3 f4 f5 z0 z1 z2 z3 z4 zf zr hq
  clear HA
  have HA := Lib.hid hA
  clear hA
  refine (fails_any n a b c false e0 e1 e2 newly _ H0.out.1 H0.out.2.1 H0.out.2.2.2 H.out.2.1 H.out.2.2.2 H.out.1).mono ?_
  rintro e w2 ⟨rfl, hb⟩
  rw [HF.out]
  have hA := HA.out.kept hb
  clear hb
  obtain ⟨⟨k0, k1, k2, k3, k4⟩, ⟨f2, f3, f4, f5⟩, ⟨z0, z1, z2, z3, z4⟩, zf, zr⟩ := hA.cells
  have hbel := hA.below
  clear hA
  have y0 : (((w2.setCell ⟨w.heap.size, 1, none⟩ (.int .i64 e0)).setCell ⟨w.heap.size, 2, none⟩ (.int .i64 e1)).setCell ⟨w.heap.size, 3, none⟩ (.int .i64 e2)).cell? ⟨w.heap.size + 1 + 1, 0, none⟩ = some (.int .i64 0) := (World.cell?_setCell_other _ _ _ _ (by simp)).trans ((World.cell?_setCell_other _ _ _ _ (by simp)).trans ((World.cell?_setCell_other _ _ _ _ (by simp)).trans z0))
  have y1 : (((w2.setCell ⟨w.heap.size, 1, none⟩ (.int .i64 e0)).setCell ⟨w.heap.size, 2, none⟩ (.int .i64 e1)).setCell ⟨w.heap.size, 3, none⟩ (.int .i64 e2)).cell? ⟨w.heap.size + 1 + 1, 1, none⟩ = some (.int .i64 0) := (World.cell?_setCell_other _ _ _ _ (by simp)).trans ((World.cell?_setCell_other _ _ _ _ (by simp)).trans ((World.cell?_setCell_other _ _ _ _ (by simp)).trans z1))
  have y2 : (((w2.setCell ⟨w.heap.size, 1, none⟩ (.int .i64 e0)).setCell ⟨w.heap.size, 2, none⟩ (.int .i64 e1)).setCell ⟨w.heap.size, 3, none⟩ (.int .i64 e2)).cell? ⟨w.heap.size + 1 + 1, 2, none⟩ = some (.int .i64 0) := (World.cell?_setCell_other _ _ _ _ (by simp)).trans ((World.cell?_setCell_other _ _ _ _ (by simp)).trans ((World.cell?_setCell_other _ _ _ _ (by simp)).trans z2))
  have y3 : (((w2.setCell ⟨w.heap.size, 1, none⟩ (.int .i64 e0)).setCell ⟨w.heap.size, 2, none⟩ (.int .i64 e1)).setCell ⟨w.heap.size, 3, none⟩ (.int .i64 e2)).cell? ⟨w.heap.size + 1 + 1, 3, none⟩ = some (.int .i64 0) := (World.cell?_setCell_other _ _ _ _ (by simp)).trans ((World.cell?_setCell_other _ _ _ _ (by simp)).trans ((World.cell?_setCell_other _ _ _ _ (by simp)).trans z3))
  have y4 : (((w2.setCell ⟨w.heap.size, 1, none⟩ (.int .i64 e0)).setCell ⟨w.heap.size, 2, none⟩ (.int .i64 e1)).setCell ⟨w.heap.size, 3, none⟩ (.int .i64 e2)).cell? ⟨w.heap.size + 1 + 1, 4, none⟩ = some (.bool false) := (World.cell?_setCell_other _ _ _ _ (by simp)).trans ((World.cell?_setCell_other _ _ _ _ (by simp)).trans ((World.cell?_setCell_other _ _ _ _ (by simp)).trans z4))
  go_wp2_with fail
  refine bodyPost_ret (by simp [results, Try.results11, go_sem, y0, y1, y2, y3, y4]; rfl) rfl ?_
  exact ⟨rfl, by go_grown⟩

set_option maxHeartbeats 1000000 in
theorem acked_zf (n a b c : Int) (d : Int) (A : Option Addr) (l k : Nat) (e0 e1 e2 newly : Int) (w : World) (h : OkC n a b c) (h' : Num newly ∧ Num e0 ∧ Num e1 ∧ Num e2) (x0 : a = e0) (x1 : b = e1) (x2 : c = e2) (hn : ¬ newly = 0) (hF : failsB n a b c e0 e1 e2 newly = true) :
    Calls Try.prog 11 #[.agg #[.int .i64 n, .int .i64 a, .int .i64 b, .int .i64 c, .bool false], .agg #[.int .i64 d, .slice A l k, .bool true, .int .i64 e0, .int .i64 e1, .int .i64 e2], .int .i64 newly] w fun e w' =>
      e = .returned (.tuple #[.agg #[.int .i64 n, .int .i64 a, .int .i64 b, .int .i64 c, .bool true], .bool false, .int .i64 0]) ∧ Below w.heap.size w w' := by
  subst x0 x1 x2
  have HF := Lib.hid hF
  clear hF
  have hq : ∀ w : World, (binOp .eql 22 (.agg #[.int .i64 a, .int .i64 b, .int .i64 c]) (.agg #[.int .i64 a, .int .i64 b, .int .i64 c])).run Try.prog w = .ok (.bool true) w := fun w => by
    rw [eql_three]; simp
  have hz : (newly == 0) = false := beq_eq_false_iff_ne.2 hn
  clear hn
  have he : checkE n a b c = 0 := if_pos h
  have H := Lib.hid h'
  have H0 := Lib.hid h
  clear h h'
  go_enter Try.func11, Try.ntmps11
  go_wp2_with (first | (go_at_call 13; refine (check_any _ _ _ _ _ _).mono ?_; rintro e w1 ⟨rfl, rfl⟩; rw [he]))
  refine (in_yes _ _ _ _ _ _ _ H.out.1 H.out.2.1 H.out.2.2.1 H.out.2.2.2 ?_ ?_ ?_ ?_).mono ?_
  · go_cell
  · go_cell
  · go_cell
  · go_cell
  rintro e w' ⟨rfl, rfl⟩
  go_wp2_with fail
  refine over_W ?_
  intro W hA
  obtain ⟨⟨k0, k1, k2, k3, k4⟩, ⟨f2, f3, f4, f5⟩, ⟨z0, z1, z2, z3, z4⟩, zf, zr⟩ := hA.cells
  have HA := Lib.hid hA
  clear hA
  go_quiet (fail)
  clear hz
  go_wp2_with fail
  have hA := HA.out.drewN nq
  clear k0 k1 k2 k3 k4 f2 f3 f4 f5 z0 z1 z2 z3 z4 zf zr hq
  clear HA
  have HA := Lib.hid hA
  clear hA
  refine (fails_any n a b c false a b c newly _ H0.out.1 H0.out.2.1 H0.out.2.2.2 H.out.2.1 H.out.2.2.2 H.out.1).mono ?_
  rintro e w2 ⟨rfl, hb⟩
  rw [HF.out]
  have hA := HA.out.kept hb
  clear hb
  obtain ⟨⟨k0, k1, k2, k3, k4⟩, ⟨f2, f3, f4, f5⟩, ⟨z0, z1, z2, z3, z4⟩, zf, zr⟩ := hA.cells
  have hbel := hA.below
  clear hA
  have y0 : (w2.setCell ⟨w.heap.size, 4, none⟩ (.bool true)).cell? ⟨w.heap.size + 1 + 1, 0, none⟩ = some (.int .i64 0) := (World.cell?_setCell_other _ _ _ _ (by simp)).trans z0
  have y1 : (w2.setCell ⟨w.heap.size, 4, none⟩ (.bool true)).cell? ⟨w.heap.size + 1 + 1, 1, none⟩ = some (.int .i64 0) := (World.cell?_setCell_other _ _ _ _ (by simp)).trans z1
  have y2 : (w2.setCell ⟨w.heap.size, 4, none⟩ (.bool true)).cell? ⟨w.heap.size + 1 + 1, 2, none⟩ = some (.int .i64 0) := (World.cell?_setCell_other _ _ _ _ (by simp)).trans z2
  have y3 : (w2.setCell ⟨w.heap.size, 4, none⟩ (.bool true)).cell? ⟨w.heap.size + 1 + 1, 3, none⟩ = some (.int .i64 0) := (World.cell?_setCell_other _ _ _ _ (by simp)).trans z3
  have y4 : (w2.setCell ⟨w.heap.size, 4, none⟩ (.bool true)).cell? ⟨w.heap.size + 1 + 1, 4, none⟩ = some (.bool false) := (World.cell?_setCell_other _ _ _ _ (by simp)).trans z4
  go_wp2_with fail
  refine bodyPost_ret (by simp [results, Try.results11, go_sem, y0, y1, y2, y3, y4]; rfl) rfl ?_
  exact ⟨rfl, by go_grown⟩

set_option maxHeartbeats 1000000 in
theorem acked_zs (n a b c : Int) (d : Int) (A : Option Addr) (l k : Nat) (e0 e1 e2 newly : Int) (w : World) (h : OkC n a b c) (h' : Num newly ∧ Num e0 ∧ Num e1 ∧ Num e2) (x0 : a = e0) (x1 : b = e1) (x2 : c = e2) (hn : ¬ newly = 0) (hF : failsB n a b c e0 e1 e2 newly = false) :
    Calls Try.prog 11 #[.agg #[.int .i64 n, .int .i64 a, .int .i64 b, .int .i64 c, .bool false], .agg #[.int .i64 d, .slice A l k, .bool true, .int .i64 e0, .int .i64 e1, .int .i64 e2], .int .i64 newly] w fun e w' =>
      e = .returned (.tuple #[.agg #[.int .i64 n, .int .i64 e0, .int .i64 e1, .int .i64 e2, .bool false], .bool false, .int .i64 0]) ∧ Below w.heap.size w w' := by
  subst x0 x1 x2
  have HF := Lib.hid hF
  clear hF
  have hq : ∀ w : World, (binOp .eql 22 (.agg #[.int .i64 a, .int .i64 b, .int .i64 c]) (.agg #[.int .i64 a, .int .i64 b, .int .i64 c])).run Try.prog w = .ok (.bool true) w := fun w => by
    rw [eql_three]; simp
  have hz : (newly == 0) = false := beq_eq_false_iff_ne.2 hn
  clear hn
  have he : checkE n a b c = 0 := if_pos h
  have H := Lib.hid h'
  have H0 := Lib.hid h
  clear h h'
  go_enter Try.func11, Try.ntmps11
  go_wp2_with (first | (go_at_call 13; refine (check_any _ _ _ _ _ _).mono ?_; rintro e w1 ⟨rfl, rfl⟩; rw [he]))
  refine (in_yes _ _ _ _ _ _ _ H.out.1 H.out.2.1 H.out.2.2.1 H.out.2.2.2 ?_ ?_ ?_ ?_).mono ?_
  · go_cell
  · go_cell
  · go_cell
  · go_cell
  rintro e w' ⟨rfl, rfl⟩
  go_wp2_with fail
  refine over_W ?_
  intro W hA
  obtain ⟨⟨k0, k1, k2, k3, k4⟩, ⟨f2, f3, f4, f5⟩, ⟨z0, z1, z2, z3, z4⟩, zf, zr⟩ := hA.cells
  have HA := Lib.hid hA
  clear hA
  go_quiet (fail)
  clear hz
  go_wp2_with fail
  have hA := HA.out.drewN nq
  clear k0 k1 k2 k3 k4 f2 f3 f4 f5 z0 z1 z2 z3 z4 zf zr hq
  clear HA
  have HA := Lib.hid hA
  clear hA
  refine (fails_any n a b c false a b c newly _ H0.out.1 H0.out.2.1 H0.out.2.2.2 H.out.2.1 H.out.2.2.2 H.out.1).mono ?_
  rintro e w2 ⟨rfl, hb⟩
  rw [HF.out]
  have hA := HA.out.kept hb
  clear hb
  obtain ⟨⟨k0, k1, k2, k3, k4⟩, ⟨f2, f3, f4, f5⟩, ⟨z0, z1, z2, z3, z4⟩, zf, zr⟩ := hA.cells
  have hbel := hA.below
  clear hA
  have y0 : (((w2.setCell ⟨w.heap.size, 1, none⟩ (.int .i64 a)).setCell ⟨w.heap.size, 2, none⟩ (.int .i64 b)).setCell ⟨w.heap.size, 3, none⟩ (.int .i64 c)).cell? ⟨w.heap.size + 1 + 1, 0, none⟩ = some (.int .i64 0) := (World.cell?_setCell_other _ _ _ _ (by simp)).trans ((World.cell?_setCell_other _ _ _ _ (by simp)).trans ((World.cell?_setCell_other _ _ _ _ (by simp)).trans z0))
  have y1 : (((w2.setCell ⟨w.heap.size, 1, none⟩ (.int .i64 a)).setCell ⟨w.heap.size, 2, none⟩ (.int .i64 b)).setCell ⟨w.heap.size, 3, none⟩ (.int .i64 c)).cell? ⟨w.heap.size + 1 + 1, 1, none⟩ = some (.int .i64 0) := (World.cell?_setCell_other _ _ _ _ (by simp)).trans ((World.cell?_setCell_other _ _ _ _ (by simp)).trans ((World.cell?_setCell_other _ _ _ _ (by simp)).trans z1))
  have y2 : (((w2.setCell ⟨w.heap.size, 1, none⟩ (.int .i64 a)).setCell ⟨w.heap.size, 2, none⟩ (.int .i64 b)).setCell ⟨w.heap.size, 3, none⟩ (.int .i64 c)).cell? ⟨w.heap.size + 1 + 1, 2, none⟩ = some (.int .i64 0) := (World.cell?_setCell_other _ _ _ _ (by simp)).trans ((World.cell?_setCell_other _ _ _ _ (by simp)).trans ((World.cell?_setCell_other _ _ _ _ (by simp)).trans z2))
  have y3 : (((w2.setCell ⟨w.heap.size, 1, none⟩ (.int .i64 a)).setCell ⟨w.heap.size, 2, none⟩ (.int .i64 b)).setCell ⟨w.heap.size, 3, none⟩ (.int .i64 c)).cell? ⟨w.heap.size + 1 + 1, 3, none⟩ = some (.int .i64 0) := (World.cell?_setCell_other _ _ _ _ (by simp)).trans ((World.cell?_setCell_other _ _ _ _ (by simp)).trans ((World.cell?_setCell_other _ _ _ _ (by simp)).trans z3))
  have y4 : (((w2.setCell ⟨w.heap.size, 1, none⟩ (.int .i64 a)).setCell ⟨w.heap.size, 2, none⟩ (.int .i64 b)).setCell ⟨w.heap.size, 3, none⟩ (.int .i64 c)).cell? ⟨w.heap.size + 1 + 1, 4, none⟩ = some (.bool false) := (World.cell?_setCell_other _ _ _ _ (by simp)).trans ((World.cell?_setCell_other _ _ _ _ (by simp)).trans ((World.cell?_setCell_other _ _ _ _ (by simp)).trans z4))
  go_wp2_with fail
  refine bodyPost_ret (by simp [results, Try.results11, go_sem, y0, y1, y2, y3, y4]; rfl) rfl ?_
  exact ⟨rfl, by go_grown⟩

set_option maxHeartbeats 1000000 in
theorem acked_same (n a b c : Int) (d : Int) (A : Option Addr) (l k : Nat) (e0 e1 e2 newly : Int) (w : World) (h : OkC n a b c) (h' : Num newly ∧ Num e0 ∧ Num e1 ∧ Num e2) (x0 : a = e0) (x1 : b = e1) (x2 : c = e2) (hn : newly = 0) (hs : a + c ≤ n) :
    Calls Try.prog 11 #[.agg #[.int .i64 n, .int .i64 a, .int .i64 b, .int .i64 c, .bool false], .agg #[.int .i64 d, .slice A l k, .bool true, .int .i64 e0, .int .i64 e1, .int .i64 e2], .int .i64 newly] w fun e w' =>
      e = .returned (.tuple #[.agg #[.int .i64 n, .int .i64 a, .int .i64 b, .int .i64 c, .bool false], .bool false, .int .i64 0]) ∧ Below w.heap.size w w' := by
  subst x0 x1 x2
  subst hn
  have hq : ∀ w : World, (binOp .eql 22 (.agg #[.int .i64 a, .int .i64 b, .int .i64 c]) (.agg #[.int .i64 a, .int .i64 b, .int .i64 c])).run Try.prog w = .ok (.bool true) w := fun w => by
    rw [eql_three]; simp
  have he : checkE n a b c = 0 := if_pos h
  have H := Lib.hid h'
  have H0 := Lib.hid h
  clear h h'
  go_enter Try.func11, Try.ntmps11
  go_wp2_with (first | (go_at_call 13; refine (check_any _ _ _ _ _ _).mono ?_; rintro e w1 ⟨rfl, rfl⟩; rw [he]))
  refine (in_yes _ _ _ _ _ _ _ H.out.1 H.out.2.1 H.out.2.2.1 H.out.2.2.2 ?_ ?_ ?_ ?_).mono ?_
  · go_cell
  · go_cell
  · go_cell
  · go_cell
  rintro e w' ⟨rfl, rfl⟩
  go_wp2_with fail
  refine over_W ?_
  intro W hA
  obtain ⟨⟨k0, k1, k2, k3, k4⟩, ⟨f2, f3, f4, f5⟩, ⟨z0, z1, z2, z3, z4⟩, zf, zr⟩ := hA.cells
  have HA := Lib.hid hA
  clear hA
  have hA0 := HA.out
  go_region_held3 (fun w' => w'.cell? ⟨w.heap.size, 0, none⟩ = some (.int .i64 n) ∧ w'.cell? ⟨w.heap.size, 1, none⟩ = some (.int .i64 a) ∧ w'.cell? ⟨w.heap.size, 2, none⟩ = some (.int .i64 b) ∧ w'.cell? ⟨w.heap.size, 3, none⟩ = some (.int .i64 c) ∧
      w'.cell? ⟨w.heap.size + 1, 3, none⟩ = some (.int .i64 a) ∧ w'.cell? ⟨w.heap.size + 1, 4, none⟩ = some (.int .i64 b) ∧ w'.cell? ⟨w.heap.size + 1, 5, none⟩ = some (.int .i64 c) ∧ Ak n a b c d A l k a b c w w')
    (first | exact Ak.all (by assumption) | exact Ak.all (Ak.drew (by assumption)))
    (first | (go_at_call 19; refine (@ours_A n a b c d A l k a b c w _ ?_ _ _ _ H0.out.2.1 H0.out.2.2.2).mono ?_; (first | assumption | (refine Ak.drew ?_; assumption)); rintro e w' ⟨rfl, hFn⟩))
  rename_i hH
  have hA := hH.2.2.2.2.2.2.2
  clear hH hA0 hFn
  clear k0 k1 k2 k3 k4 f2 f3 f4 f5 z0 z1 z2 z3 z4 zf zr hq
  obtain ⟨⟨k0, k1, k2, k3, k4⟩, ⟨f2, f3, f4, f5⟩, ⟨z0, z1, z2, z3, z4⟩, zf, zr⟩ := hA.cells
  have hbel := hA.below
  clear hA
  go_wp2_with fail
  refine bodyPost_ret (by simp [results, Try.results11, go_sem, z0, z1, z2, z3, z4]; rfl) rfl ?_
  exact ⟨rfl, by go_grown⟩

set_option maxHeartbeats 1000000 in
theorem acked_over (n a b c : Int) (d : Int) (A : Option Addr) (l k : Nat) (e0 e1 e2 newly : Int) (w : World) (h : OkC n a b c) (h' : Num newly ∧ Num e0 ∧ Num e1 ∧ Num e2) (x0 : a = e0) (x1 : b = e1) (x2 : c = e2) (hn : newly = 0) (hs : n < a + c) (hF : failsB n a b c e0 e1 e2 newly = true) :
    Calls Try.prog 11 #[.agg #[.int .i64 n, .int .i64 a, .int .i64 b, .int .i64 c, .bool false], .agg #[.int .i64 d, .slice A l k, .bool true, .int .i64 e0, .int .i64 e1, .int .i64 e2], .int .i64 newly] w fun e w' =>
      e = .returned (.tuple #[.agg #[.int .i64 n, .int .i64 a, .int .i64 b, .int .i64 c, .bool true], .bool false, .int .i64 0]) ∧ Below w.heap.size w w' := by
  subst x0 x1 x2
  have HF := Lib.hid hF
  clear hF
  subst hn
  have hq : ∀ w : World, (binOp .eql 22 (.agg #[.int .i64 a, .int .i64 b, .int .i64 c]) (.agg #[.int .i64 a, .int .i64 b, .int .i64 c])).run Try.prog w = .ok (.bool true) w := fun w => by
    rw [eql_three]; simp
  have he : checkE n a b c = 0 := if_pos h
  have H := Lib.hid h'
  have H0 := Lib.hid h
  clear h h'
  go_enter Try.func11, Try.ntmps11
  go_wp2_with (first | (go_at_call 13; refine (check_any _ _ _ _ _ _).mono ?_; rintro e w1 ⟨rfl, rfl⟩; rw [he]))
  refine (in_yes _ _ _ _ _ _ _ H.out.1 H.out.2.1 H.out.2.2.1 H.out.2.2.2 ?_ ?_ ?_ ?_).mono ?_
  · go_cell
  · go_cell
  · go_cell
  · go_cell
  rintro e w' ⟨rfl, rfl⟩
  go_wp2_with fail
  refine over_W ?_
  intro W hA
  obtain ⟨⟨k0, k1, k2, k3, k4⟩, ⟨f2, f3, f4, f5⟩, ⟨z0, z1, z2, z3, z4⟩, zf, zr⟩ := hA.cells
  have HA := Lib.hid hA
  clear hA
  have hA0 := HA.out
  go_region_held3 (fun w' => w'.cell? ⟨w.heap.size, 0, none⟩ = some (.int .i64 n) ∧ w'.cell? ⟨w.heap.size, 1, none⟩ = some (.int .i64 a) ∧ w'.cell? ⟨w.heap.size, 2, none⟩ = some (.int .i64 b) ∧ w'.cell? ⟨w.heap.size, 3, none⟩ = some (.int .i64 c) ∧
      w'.cell? ⟨w.heap.size + 1, 3, none⟩ = some (.int .i64 a) ∧ w'.cell? ⟨w.heap.size + 1, 4, none⟩ = some (.int .i64 b) ∧ w'.cell? ⟨w.heap.size + 1, 5, none⟩ = some (.int .i64 c) ∧ Ak n a b c d A l k a b c w w')
    (first | exact Ak.all (by assumption) | exact Ak.all (Ak.drew (by assumption)))
    (first | (go_at_call 19; refine (@ours_A n a b c d A l k a b c w _ ?_ _ _ _ H0.out.2.1 H0.out.2.2.2).mono ?_; (first | assumption | (refine Ak.drew ?_; assumption)); rintro e w' ⟨rfl, hFn⟩))
  rename_i hH
  have hA := hH.2.2.2.2.2.2.2
  clear hH hA0 hFn
  clear k0 k1 k2 k3 k4 f2 f3 f4 f5 z0 z1 z2 z3 z4 zf zr hq
  obtain ⟨⟨k0, k1, k2, k3, k4⟩, ⟨f2, f3, f4, f5⟩, ⟨z0, z1, z2, z3, z4⟩, zf, zr⟩ := hA.cells
  clear HA
  have HA := Lib.hid hA
  clear hA
  go_wp2_with fail
  clear k0 k1 k2 k3 k4 f2 f3 f4 f5 z0 z1 z2 z3 z4 zf zr
  refine (fails_any n a b c false a b c 0 _ H0.out.1 H0.out.2.1 H0.out.2.2.2 H.out.2.1 H.out.2.2.2 H.out.1).mono ?_
  rintro e w2 ⟨rfl, hb⟩
  rw [HF.out]
  have hA := HA.out.kept hb
  clear hb
  obtain ⟨⟨k0, k1, k2, k3, k4⟩, ⟨f2, f3, f4, f5⟩, ⟨z0, z1, z2, z3, z4⟩, zf, zr⟩ := hA.cells
  have hbel := hA.below
  clear hA
  have y0 : (w2.setCell ⟨w.heap.size, 4, none⟩ (.bool true)).cell? ⟨w.heap.size + 1 + 1, 0, none⟩ = some (.int .i64 0) := (World.cell?_setCell_other _ _ _ _ (by simp)).trans z0
  have y1 : (w2.setCell ⟨w.heap.size, 4, none⟩ (.bool true)).cell? ⟨w.heap.size + 1 + 1, 1, none⟩ = some (.int .i64 0) := (World.cell?_setCell_other _ _ _ _ (by simp)).trans z1
  have y2 : (w2.setCell ⟨w.heap.size, 4, none⟩ (.bool true)).cell? ⟨w.heap.size + 1 + 1, 2, none⟩ = some (.int .i64 0) := (World.cell?_setCell_other _ _ _ _ (by simp)).trans z2
  have y3 : (w2.setCell ⟨w.heap.size, 4, none⟩ (.bool true)).cell? ⟨w.heap.size + 1 + 1, 3, none⟩ = some (.int .i64 0) := (World.cell?_setCell_other _ _ _ _ (by simp)).trans z3
  have y4 : (w2.setCell ⟨w.heap.size, 4, none⟩ (.bool true)).cell? ⟨w.heap.size + 1 + 1, 4, none⟩ = some (.bool false) := (World.cell?_setCell_other _ _ _ _ (by simp)).trans z4
  go_wp2_with fail
  refine bodyPost_ret (by simp [results, Try.results11, go_sem, y0, y1, y2, y3, y4]; rfl) rfl ?_
  exact ⟨rfl, by go_grown⟩
end Go.Proofs.Ytiocifmebnaabaa
