/-
  Contracts of ours, some, fails.
-/
import Derived.Test.YtiocifmebnaabaaB
import Derived.Deep.RegionHeld3
namespace Go.Proofs.Ytiocifmebnaabaa
open Go.RowKit (wrap32 wrap64)
open Go.RowKit
set_option linter.unusedVariables false

theorem ours_any (a b c : Int) (w : World) (ha : Num a) (hc : Num c) :
    Calls Try.prog 19 #[.agg #[.int .i64 a, .int .i64 b, .int .i64 c]] w fun e w' => e = .returned (.int .i64 (a + c)) ∧ w.alloc (.cells #[.int .i64 a, .int .i64 b, .int .i64 c] 22) = w' := by
  obtain ⟨a0, a1⟩ := ha
  obtain ⟨c0, c1⟩ := hc
  go_enter Try.func19, Try.ntmps19
  go_wp2
  go_ret
  exact ⟨rfl, rfl⟩

theorem some_any (g k : Nat) (x0 x1 x2 x3 x4 : Bool) (w : World)
    (c0 : w.cell? ⟨g, 0, none⟩ = some (.bool x0)) (c1 : w.cell? ⟨g, 1, none⟩ = some (.bool x1)) (c2 : w.cell? ⟨g, 2, none⟩ = some (.bool x2)) (c3 : w.cell? ⟨g, 3, none⟩ = some (.bool x3)) (c4 : w.cell? ⟨g, 4, none⟩ = some (.bool x4)) :
    Calls Try.prog 24 #[.slice (some ⟨g, 0, none⟩) 5 k] w fun e w' => e = .returned (.bool (x0 || x1 || x2 || x3 || x4)) ∧ w = w' := by
  cases x0
  · cases x1
    · cases x2
      · cases x3
        · cases x4
          all_goals
            go_enter Try.func24, Try.ntmps24
            go_wp2
            go_rounds 7
            go_ret
            exact ⟨rfl, rfl⟩
        · go_enter Try.func24, Try.ntmps24
          go_wp2
          go_rounds 7
          go_ret
          exact ⟨by simp, rfl⟩
      · go_enter Try.func24, Try.ntmps24
        go_wp2
        go_rounds 7
        go_ret
        exact ⟨by simp, rfl⟩
    · go_enter Try.func24, Try.ntmps24
      go_wp2
      go_rounds 7
      go_ret
      exact ⟨by simp, rfl⟩
  · go_enter Try.func24, Try.ntmps24
    go_wp2
    go_rounds 7
    go_ret
    exact ⟨by simp, rfl⟩

/-- Within a call that has boxed a count and a frame's three numbers: both are there, all older is as it was. -/
structure Fb (n a b c : Int) (f : Bool) (e0 e1 e2 : Int) (w w' : World) : Prop where
  below : Below w.heap.size w w'
  cnt : w'.heap[w.heap.size]? = some (.cells #[.int .i64 n, .int .i64 a, .int .i64 b, .int .i64 c, .bool f] 24 (0, 0))
  fr : w'.heap[w.heap.size + 1]? = some (.cells #[.int .i64 e0, .int .i64 e1, .int .i64 e2] 22 (0, 0))
theorem blk_lt {w : World} {g : Nat} {o : Obj} (h : w.heap[g]? = some o) : g < w.heap.size := by
  rcases Nat.lt_or_ge g w.heap.size with hlt | hge
  · exact hlt
  · rw [Array.getElem?_eq_none hge] at h; cases h
section
variable {n a b c : Int} {f : Bool} {e0 e1 e2 : Int} {w wr w' : World}
theorem Fb.kept (h : Fb n a b c f e0 e1 e2 w wr) (hb : Below wr.heap.size wr w') : Fb n a b c f e0 e1 e2 w w' :=
  ⟨h.below.trans (hb.mono h.below.size), (hb.block _ (blk_lt h.cnt)).trans h.cnt, (hb.block _ (blk_lt h.fr)).trans h.fr⟩
theorem Fb.drew (h : Fb n a b c f e0 e1 e2 w wr) : Fb n a b c f e0 e1 e2 w wr.drew := ⟨h.below.drew, h.cnt, h.fr⟩
theorem Fb.alloc (h : Fb n a b c f e0 e1 e2 w wr) (o : Obj) : Fb n a b c f e0 e1 e2 w (wr.alloc o) := h.kept ((Below.refl _ _).alloc (Nat.le_refl _) _)
theorem Fb.start (w : World) : Fb n a b c f e0 e1 e2 w ((w.alloc (.cells #[.int .i64 n, .int .i64 a, .int .i64 b, .int .i64 c, .bool f] 24)).alloc (.cells #[.int .i64 e0, .int .i64 e1, .int .i64 e2] 22)) :=
  ⟨((Below.refl _ _).alloc (Nat.le_refl _) _).alloc (by simp) _, heap_alloc2_old w _ _, heap_alloc2_new w _ _⟩
/-- Its cells. -/
theorem Fb.all (h : Fb n a b c f e0 e1 e2 w wr) : wr.cell? ⟨w.heap.size, 0, none⟩ = some (.int .i64 n) ∧ wr.cell? ⟨w.heap.size, 1, none⟩ = some (.int .i64 a) ∧ wr.cell? ⟨w.heap.size, 2, none⟩ = some (.int .i64 b) ∧ wr.cell? ⟨w.heap.size, 3, none⟩ = some (.int .i64 c) ∧
    wr.cell? ⟨w.heap.size + 1, 0, none⟩ = some (.int .i64 e0) ∧ wr.cell? ⟨w.heap.size + 1, 1, none⟩ = some (.int .i64 e1) ∧ wr.cell? ⟨w.heap.size + 1, 2, none⟩ = some (.int .i64 e2) ∧ Fb n a b c f e0 e1 e2 w wr :=
  ⟨cell_of_row _ _ 0 _ _ _ h.cnt, cell_of_row _ _ 1 _ _ _ h.cnt, cell_of_row _ _ 2 _ _ _ h.cnt, cell_of_row _ _ 3 _ _ _ h.cnt, cell_of_row _ _ 0 _ _ _ h.fr, cell_of_row _ _ 1 _ _ _ h.fr, cell_of_row _ _ 2 _ _ _ h.fr, h⟩
theorem ours_F (h : Fb n a b c f e0 e1 e2 w wr) (x y z : Int) (hx : Num x) (hz : Num z) :
    Calls Try.prog 19 #[.agg #[.int .i64 x, .int .i64 y, .int .i64 z]] wr fun e w' => e = .returned (.int .i64 (x + z)) ∧ Fb n a b c f e0 e1 e2 w w' :=
  (ours_any x y z wr hx hz).mono fun _ _ ⟨he, hw⟩ => ⟨he, hw ▸ h.alloc _⟩
theorem some_F (x0 x1 x2 x3 x4 : Bool) (h : Fb n a b c f e0 e1 e2 w wr) :
    Calls Try.prog 24 #[.slice (some ⟨wr.heap.size, 0, none⟩) 5 5] (wr.alloc (.cells #[.bool x0, .bool x1, .bool x2, .bool x3, .bool x4] 4)) fun e w' => e = .returned (.bool (x0 || x1 || x2 || x3 || x4)) ∧ Fb n a b c f e0 e1 e2 w w' :=
  (some_any wr.heap.size 5 x0 x1 x2 x3 x4 _ (by simp) (by simp) (by simp) (by simp) (by simp)).mono fun _ _ ⟨he, hw⟩ => ⟨he, hw ▸ h.alloc _⟩
end

/-- Does a frame with counts let a count fail? -/
def failsB (n a b c e0 e1 e2 newly : Int) : Bool := decide (e0 < a) || e1 != b || decide (e2 < c) || decide (n < e0 + e2) || decide (e0 + e2 - (a + c) < newly)

set_option maxHeartbeats 1000000 in
theorem fails_any (n a b c : Int) (f : Bool) (e0 e1 e2 newly : Int) (w : World) (hn : Num n) (ha : Num a) (hc : Num c) (h0 : Num e0) (h2 : Num e2) (hw : Num newly) :
    Calls Try.prog 20 #[.agg #[.int .i64 n, .int .i64 a, .int .i64 b, .int .i64 c, .bool f], .agg #[.int .i64 e0, .int .i64 e1, .int .i64 e2], .int .i64 newly] w fun e w' => e = .returned (.bool (failsB n a b c e0 e1 e2 newly)) ∧ Below w.heap.size w w' := by
  have HA := Lib.hid ha
  have HC := Lib.hid hc
  have H0 := Lib.hid h0
  have H2 := Lib.hid h2
  have hsum : IntKind.i64.wrap (e0 + e2 - (a + c)) = e0 + e2 - (a + c) := IntWalk.i64_in _ (by unfold Num at *; omega)
  have hF : Fb n a b c f e0 e1 e2 w ((w.alloc (.cells #[.int .i64 n, .int .i64 a, .int .i64 b, .int .i64 c, .bool f] 24)).alloc (.cells #[.int .i64 e0, .int .i64 e1, .int .i64 e2] 22)) := Fb.start w
  clear ha hc h0 h2 hn hw
  go_enter Try.func20, Try.ntmps20
  go_wp2_with fail
  go_region_held3 (fun w' => w'.cell? ⟨w.heap.size, 0, none⟩ = some (.int .i64 n) ∧ w'.cell? ⟨w.heap.size, 1, none⟩ = some (.int .i64 a) ∧ w'.cell? ⟨w.heap.size, 2, none⟩ = some (.int .i64 b) ∧ w'.cell? ⟨w.heap.size, 3, none⟩ = some (.int .i64 c) ∧
      w'.cell? ⟨w.heap.size + 1, 0, none⟩ = some (.int .i64 e0) ∧ w'.cell? ⟨w.heap.size + 1, 1, none⟩ = some (.int .i64 e1) ∧ w'.cell? ⟨w.heap.size + 1, 2, none⟩ = some (.int .i64 e2) ∧ Fb n a b c f e0 e1 e2 w w')
    (first | exact Fb.all (by assumption) | exact Fb.all (Fb.drew (by assumption)))
    (first | (go_at_call 19; refine (ours_F (n := n) (a := a) (b := b) (c := c) (f := f) (e0 := e0) (e1 := e1) (e2 := e2) (w := w) ?_ _ _ _ ?_ ?_).mono ?_; (first | assumption | (refine Fb.drew ?_; assumption)); (first | exact HA.out | exact H0.out); (first | exact HC.out | exact H2.out); rintro e w' ⟨rfl, hFn⟩))
  clear hF
  rename_i hH
  have hF := hH.2.2.2.2.2.2.2
  clear hH
  go_wp2_with fail
  go_region_held3 (fun w' => w'.cell? ⟨w.heap.size, 0, none⟩ = some (.int .i64 n) ∧ w'.cell? ⟨w.heap.size, 1, none⟩ = some (.int .i64 a) ∧ w'.cell? ⟨w.heap.size, 2, none⟩ = some (.int .i64 b) ∧ w'.cell? ⟨w.heap.size, 3, none⟩ = some (.int .i64 c) ∧
      w'.cell? ⟨w.heap.size + 1, 0, none⟩ = some (.int .i64 e0) ∧ w'.cell? ⟨w.heap.size + 1, 1, none⟩ = some (.int .i64 e1) ∧ w'.cell? ⟨w.heap.size + 1, 2, none⟩ = some (.int .i64 e2) ∧ Fb n a b c f e0 e1 e2 w w')
    (first | exact Fb.all (by assumption) | exact Fb.all (Fb.drew (by assumption)) | exact Fb.all (Fb.alloc (by assumption) _))
    (first | (go_at_call 19; refine (ours_F (n := n) (a := a) (b := b) (c := c) (f := f) (e0 := e0) (e1 := e1) (e2 := e2) (w := w) ?_ _ _ _ ?_ ?_).mono ?_; (first | assumption | (refine Fb.drew ?_; assumption)); (first | exact HA.out | exact H0.out); (first | exact HC.out | exact H2.out); rintro e w' ⟨rfl, hFn⟩) | (go_at_call 24; refine (some_F (n := n) (a := a) (b := b) (c := c) (f := f) (e0 := e0) (e1 := e1) (e2 := e2) (w := w) _ _ _ _ _ ?_).mono ?_; (first | assumption | (refine Fb.drew ?_; assumption)); rintro e w' ⟨rfl, hFn⟩))
  clear hF
  rename_i hH
  have hF := hH.2.2.2.2.2.2.2
  clear hH
  go_wp2_with fail
  go_ret
  exact ⟨rfl, hF.below⟩
end Go.Proofs.Ytiocifmebnaabaa
