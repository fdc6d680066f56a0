/-
  The walk of PnumNear, one a width.
-/
import Derived.Test.YtgmgbhpecnmfeaaL
namespace Go.Proofs.Ytgmgbhpecnmfeaa
open Go.RowKit (wrap32 wrap64)
open Go.RowKit
set_option linter.unusedVariables false

set_option maxHeartbeats 2000000 in
theorem near_1 (a0 a2 x g v : Int) (A : Option Addr) (n c : Nat) (ys : List Int) (xs : List Int) (w : World) (hA : Hid (Bs w A n xs)) (hys : Hid (into 1 n xs = ys)) (h0 : a0 % 9007199254740993 = x) (h1 : x - 1 = g) (x0 : 0 ≤ x) (x1 : x ≤ 9007199254740992) (hr : a2 % 4 = 0)
    (hv : Hid (wholeV g (cutV ys) 256 = v)) (hcut : Hid (bytesV v 1 = ys)) (v0 : 0 ≤ v) (v1 : v ≤ 9007199254740991) (up : 9007199254740991 < v + 256 ∨ 0 < 2 * (v - (g + 1)) + 256) (down : v < 256 ∨ 2 * (v - (g + 1)) ≤ 256) :
    Calls Try.prog 6 #[.int .i64 a0, .slice A n c, .int .i64 a2] w fun e w' => e = .returned (.bool true) ∧ Below w.heap.size w w' := by
  have hmk : ∀ w, (Instr.makeSlice 22 (.int .i64 1) (.int .i64 1)).run Try.prog w = .ok (.slice (some ⟨w.heap.size, 0, none⟩) 1 1) (w.alloc (.cells #[.int .u8 0] 5)) := fun _ => by kernel_rfl
  go_enter Try.func6, Try.ntmps6
  go_wp2_with (first
    | (go_at_call 18; refine (bring_any _ _ _ (by omega) (by omega)).mono ?_; rintro e w' ⟨rfl, rfl⟩)
    | ((with_reducible refine wpList_copy_splice rfl (.tmp 24) (.tmp 25) 22 22 rfl 5 Try.underlying22 (by kernel_rfl) _ _ _ _ _ _ rfl rfl w.heap.size 0 (List.replicate 1 (Value.int .u8 0)) 5 (heap_alloc_new w _) ((xs.take (Nat.min n 1)).map (Value.int .u8)) (src_len hA.out) (fun h => ⟨rfl, src_cells hA.out _ h⟩) (src_fit hA.out) (ints_oneCell _ _) w.heap.size w ((Below.refl _ _).alloc (Nat.le_refl _) _) (Nat.le_refl _) ?_)))
  intro w3 hg3 hb3
  have HB := Lib.hid (into_block (m := 1) hA.out hys.out hg3.out)
  have H3 := Lib.hid hb3
  clear hg3 hb3
  go_wp2_with fail
  refine (whole_any g _ 1 _ ys _ (by omega) (by omega) HB.out (by omega) (by omega)).mono ?_
  rintro e w4 ⟨rfl, k4, rfl⟩
  rw [show wholeV g (cutV ys) (allV 1) = v from hv.out]
  go_wp2_with fail
  refine (cut_any v 1 _ v0 v1 (by omega) (by omega)).mono ?_
  rintro e w5 ⟨⟨A5, c5, rfl, hB5, _⟩, hb5⟩
  have HB5 := Lib.hid (show Bs w5 A5 1 ys from hcut.out ▸ hB5)
  have HI5 := Lib.hid ((show Bs (w3.drewN k4) _ _ _ from HB.out).kept hb5)
  have H5 := Lib.hid ((belowDrewN H3.out k4).trans (hb5.mono H3.out.size))
  clear hB5 hb5
  go_wp2_with fail
  refine (eqb_same _ _ 1 _ _ ys _ HB5.out HI5.out).mono ?_
  rintro e w6 ⟨rfl, rfl⟩
  go_wp2_with (first | (go_at_call 17; refine (works_ok _).mono ?_; rintro e w8 ⟨rfl, hb8⟩; have H8 := Lib.hid (H5.out.trans (hb8.mono H5.out.size)); clear hb8))
  all_goals
    go_ret
    exact ⟨rfl, H8.out⟩

set_option maxHeartbeats 2000000 in
theorem near_2 (a0 a2 x g v : Int) (A : Option Addr) (n c : Nat) (ys : List Int) (xs : List Int) (w : World) (hA : Hid (Bs w A n xs)) (hys : Hid (into 2 n xs = ys)) (h0 : a0 % 9007199254740993 = x) (h1 : x - 1 = g) (x0 : 0 ≤ x) (x1 : x ≤ 9007199254740992) (hr : a2 % 4 = 1)
    (hv : Hid (wholeV g (cutV ys) 65536 = v)) (hcut : Hid (bytesV v 2 = ys)) (v0 : 0 ≤ v) (v1 : v ≤ 9007199254740991) (up : 9007199254740991 < v + 65536 ∨ 0 < 2 * (v - (g + 1)) + 65536) (down : v < 65536 ∨ 2 * (v - (g + 1)) ≤ 65536) :
    Calls Try.prog 6 #[.int .i64 a0, .slice A n c, .int .i64 a2] w fun e w' => e = .returned (.bool true) ∧ Below w.heap.size w w' := by
  have hmk : ∀ w, (Instr.makeSlice 22 (.int .i64 2) (.int .i64 2)).run Try.prog w = .ok (.slice (some ⟨w.heap.size, 0, none⟩) 2 2) (w.alloc (.cells #[.int .u8 0, .int .u8 0] 5)) := fun _ => by kernel_rfl
  go_enter Try.func6, Try.ntmps6
  go_wp2_with (first
    | (go_at_call 18; refine (bring_any _ _ _ (by omega) (by omega)).mono ?_; rintro e w' ⟨rfl, rfl⟩)
    | ((with_reducible refine wpList_copy_splice rfl (.tmp 24) (.tmp 25) 22 22 rfl 5 Try.underlying22 (by kernel_rfl) _ _ _ _ _ _ rfl rfl w.heap.size 0 (List.replicate 2 (Value.int .u8 0)) 5 (heap_alloc_new w _) ((xs.take (Nat.min n 2)).map (Value.int .u8)) (src_len hA.out) (fun h => ⟨rfl, src_cells hA.out _ h⟩) (src_fit hA.out) (ints_oneCell _ _) w.heap.size w ((Below.refl _ _).alloc (Nat.le_refl _) _) (Nat.le_refl _) ?_)))
  intro w3 hg3 hb3
  have HB := Lib.hid (into_block (m := 2) hA.out hys.out hg3.out)
  have H3 := Lib.hid hb3
  clear hg3 hb3
  go_wp2_with fail
  refine (whole_any g _ 2 _ ys _ (by omega) (by omega) HB.out (by omega) (by omega)).mono ?_
  rintro e w4 ⟨rfl, k4, rfl⟩
  rw [show wholeV g (cutV ys) (allV 2) = v from hv.out]
  go_wp2_with fail
  refine (cut_any v 2 _ v0 v1 (by omega) (by omega)).mono ?_
  rintro e w5 ⟨⟨A5, c5, rfl, hB5, _⟩, hb5⟩
  have HB5 := Lib.hid (show Bs w5 A5 2 ys from hcut.out ▸ hB5)
  have HI5 := Lib.hid ((show Bs (w3.drewN k4) _ _ _ from HB.out).kept hb5)
  have H5 := Lib.hid ((belowDrewN H3.out k4).trans (hb5.mono H3.out.size))
  clear hB5 hb5
  go_wp2_with fail
  refine (eqb_same _ _ 2 _ _ ys _ HB5.out HI5.out).mono ?_
  rintro e w6 ⟨rfl, rfl⟩
  go_wp2_with (first | (go_at_call 17; refine (works_ok _).mono ?_; rintro e w8 ⟨rfl, hb8⟩; have H8 := Lib.hid (H5.out.trans (hb8.mono H5.out.size)); clear hb8))
  all_goals
    go_ret
    exact ⟨rfl, H8.out⟩

set_option maxHeartbeats 2000000 in
theorem near_3 (a0 a2 x g v : Int) (A : Option Addr) (n c : Nat) (ys : List Int) (xs : List Int) (w : World) (hA : Hid (Bs w A n xs)) (hys : Hid (into 3 n xs = ys)) (h0 : a0 % 9007199254740993 = x) (h1 : x - 1 = g) (x0 : 0 ≤ x) (x1 : x ≤ 9007199254740992) (hr : a2 % 4 = 2)
    (hv : Hid (wholeV g (cutV ys) 16777216 = v)) (hcut : Hid (bytesV v 3 = ys)) (v0 : 0 ≤ v) (v1 : v ≤ 9007199254740991) (up : 9007199254740991 < v + 16777216 ∨ 0 < 2 * (v - (g + 1)) + 16777216) (down : v < 16777216 ∨ 2 * (v - (g + 1)) ≤ 16777216) :
    Calls Try.prog 6 #[.int .i64 a0, .slice A n c, .int .i64 a2] w fun e w' => e = .returned (.bool true) ∧ Below w.heap.size w w' := by
  have hmk : ∀ w, (Instr.makeSlice 22 (.int .i64 3) (.int .i64 3)).run Try.prog w = .ok (.slice (some ⟨w.heap.size, 0, none⟩) 3 3) (w.alloc (.cells #[.int .u8 0, .int .u8 0, .int .u8 0] 5)) := fun _ => by kernel_rfl
  go_enter Try.func6, Try.ntmps6
  go_wp2_with (first
    | (go_at_call 18; refine (bring_any _ _ _ (by omega) (by omega)).mono ?_; rintro e w' ⟨rfl, rfl⟩)
    | ((with_reducible refine wpList_copy_splice rfl (.tmp 24) (.tmp 25) 22 22 rfl 5 Try.underlying22 (by kernel_rfl) _ _ _ _ _ _ rfl rfl w.heap.size 0 (List.replicate 3 (Value.int .u8 0)) 5 (heap_alloc_new w _) ((xs.take (Nat.min n 3)).map (Value.int .u8)) (src_len hA.out) (fun h => ⟨rfl, src_cells hA.out _ h⟩) (src_fit hA.out) (ints_oneCell _ _) w.heap.size w ((Below.refl _ _).alloc (Nat.le_refl _) _) (Nat.le_refl _) ?_)))
  intro w3 hg3 hb3
  have HB := Lib.hid (into_block (m := 3) hA.out hys.out hg3.out)
  have H3 := Lib.hid hb3
  clear hg3 hb3
  go_wp2_with fail
  refine (whole_any g _ 3 _ ys _ (by omega) (by omega) HB.out (by omega) (by omega)).mono ?_
  rintro e w4 ⟨rfl, k4, rfl⟩
  rw [show wholeV g (cutV ys) (allV 3) = v from hv.out]
  go_wp2_with fail
  refine (cut_any v 3 _ v0 v1 (by omega) (by omega)).mono ?_
  rintro e w5 ⟨⟨A5, c5, rfl, hB5, _⟩, hb5⟩
  have HB5 := Lib.hid (show Bs w5 A5 3 ys from hcut.out ▸ hB5)
  have HI5 := Lib.hid ((show Bs (w3.drewN k4) _ _ _ from HB.out).kept hb5)
  have H5 := Lib.hid ((belowDrewN H3.out k4).trans (hb5.mono H3.out.size))
  clear hB5 hb5
  go_wp2_with fail
  refine (eqb_same _ _ 3 _ _ ys _ HB5.out HI5.out).mono ?_
  rintro e w6 ⟨rfl, rfl⟩
  go_wp2_with (first | (go_at_call 17; refine (works_ok _).mono ?_; rintro e w8 ⟨rfl, hb8⟩; have H8 := Lib.hid (H5.out.trans (hb8.mono H5.out.size)); clear hb8))
  all_goals
    go_ret
    exact ⟨rfl, H8.out⟩

set_option maxHeartbeats 2000000 in
theorem near_4 (a0 a2 x g v : Int) (A : Option Addr) (n c : Nat) (ys : List Int) (xs : List Int) (w : World) (hA : Hid (Bs w A n xs)) (hys : Hid (into 4 n xs = ys)) (h0 : a0 % 9007199254740993 = x) (h1 : x - 1 = g) (x0 : 0 ≤ x) (x1 : x ≤ 9007199254740992) (hr : a2 % 4 = 3)
    (hv : Hid (wholeV g (cutV ys) 4294967296 = v)) (hcut : Hid (bytesV v 4 = ys)) (v0 : 0 ≤ v) (v1 : v ≤ 9007199254740991) (up : 9007199254740991 < v + 4294967296 ∨ 0 < 2 * (v - (g + 1)) + 4294967296) (down : v < 4294967296 ∨ 2 * (v - (g + 1)) ≤ 4294967296) :
    Calls Try.prog 6 #[.int .i64 a0, .slice A n c, .int .i64 a2] w fun e w' => e = .returned (.bool true) ∧ Below w.heap.size w w' := by
  have hmk : ∀ w, (Instr.makeSlice 22 (.int .i64 4) (.int .i64 4)).run Try.prog w = .ok (.slice (some ⟨w.heap.size, 0, none⟩) 4 4) (w.alloc (.cells #[.int .u8 0, .int .u8 0, .int .u8 0, .int .u8 0] 5)) := fun _ => by kernel_rfl
  go_enter Try.func6, Try.ntmps6
  go_wp2_with (first
    | (go_at_call 18; refine (bring_any _ _ _ (by omega) (by omega)).mono ?_; rintro e w' ⟨rfl, rfl⟩)
    | ((with_reducible refine wpList_copy_splice rfl (.tmp 24) (.tmp 25) 22 22 rfl 5 Try.underlying22 (by kernel_rfl) _ _ _ _ _ _ rfl rfl w.heap.size 0 (List.replicate 4 (Value.int .u8 0)) 5 (heap_alloc_new w _) ((xs.take (Nat.min n 4)).map (Value.int .u8)) (src_len hA.out) (fun h => ⟨rfl, src_cells hA.out _ h⟩) (src_fit hA.out) (ints_oneCell _ _) w.heap.size w ((Below.refl _ _).alloc (Nat.le_refl _) _) (Nat.le_refl _) ?_)))
  intro w3 hg3 hb3
  have HB := Lib.hid (into_block (m := 4) hA.out hys.out hg3.out)
  have H3 := Lib.hid hb3
  clear hg3 hb3
  go_wp2_with fail
  refine (whole_any g _ 4 _ ys _ (by omega) (by omega) HB.out (by omega) (by omega)).mono ?_
  rintro e w4 ⟨rfl, k4, rfl⟩
  rw [show wholeV g (cutV ys) (allV 4) = v from hv.out]
  go_wp2_with fail
  refine (cut_any v 4 _ v0 v1 (by omega) (by omega)).mono ?_
  rintro e w5 ⟨⟨A5, c5, rfl, hB5, _⟩, hb5⟩
  have HB5 := Lib.hid (show Bs w5 A5 4 ys from hcut.out ▸ hB5)
  have HI5 := Lib.hid ((show Bs (w3.drewN k4) _ _ _ from HB.out).kept hb5)
  have H5 := Lib.hid ((belowDrewN H3.out k4).trans (hb5.mono H3.out.size))
  clear hB5 hb5
  go_wp2_with fail
  refine (eqb_same _ _ 4 _ _ ys _ HB5.out HI5.out).mono ?_
  rintro e w6 ⟨rfl, rfl⟩
  go_wp2_with (first | (go_at_call 17; refine (works_ok _).mono ?_; rintro e w8 ⟨rfl, hb8⟩; have H8 := Lib.hid (H5.out.trans (hb8.mono H5.out.size)); clear hb8))
  all_goals
    go_ret
    exact ⟨rfl, H8.out⟩

theorem near_walk (a0 a2 : Int) (A : Option Addr) (n c : Nat) (xs : List Int) (w : World) (hA : Bs w A n xs) : Calls Try.prog 6 #[.int .i64 a0, .slice A n c, .int .i64 a2] w fun e w' => e = .returned (.bool true) ∧ Below w.heap.size w w' := by
  have p0 := Int.emod_nonneg a0 (b := 9007199254740993) (by decide)
  have p1 := Int.emod_lt_of_pos a0 (b := 9007199254740993) (by decide)
  have hr : a2 % 4 = 0 ∨ a2 % 4 = 1 ∨ a2 % 4 = 2 ∨ a2 % 4 = 3 := by omega
  rcases hr with hr | hr | hr | hr
  · have yl : (into 1 n xs).length = 1 := into_len hA.1
    have yb : ∀ x ∈ into 1 n xs, 0 ≤ x ∧ x ≤ 255 := into_ok hA.2.1
    have cb := cutV_bd _ 1 (by omega) (by omega) yl yb
    have L := near_lin (a0 % 9007199254740993 - 1) (cutV (into 1 n xs)) (allV 1) (by unfold Width allV; omega) (by omega) (by omega) cb.1 cb.2
    exact near_1 a0 a2 _ _ _ A n c _ xs w hA rfl rfl rfl p0 (by omega) hr rfl (bytesV_cut _ 1 _ (by omega) (by omega) yl yb L.2.2.1) L.1 L.2.1 L.2.2.2.1 L.2.2.2.2
  · have yl : (into 2 n xs).length = 2 := into_len hA.1
    have yb : ∀ x ∈ into 2 n xs, 0 ≤ x ∧ x ≤ 255 := into_ok hA.2.1
    have cb := cutV_bd _ 2 (by omega) (by omega) yl yb
    have L := near_lin (a0 % 9007199254740993 - 1) (cutV (into 2 n xs)) (allV 2) (by unfold Width allV; omega) (by omega) (by omega) cb.1 cb.2
    exact near_2 a0 a2 _ _ _ A n c _ xs w hA rfl rfl rfl p0 (by omega) hr rfl (bytesV_cut _ 2 _ (by omega) (by omega) yl yb L.2.2.1) L.1 L.2.1 L.2.2.2.1 L.2.2.2.2
  · have yl : (into 3 n xs).length = 3 := into_len hA.1
    have yb : ∀ x ∈ into 3 n xs, 0 ≤ x ∧ x ≤ 255 := into_ok hA.2.1
    have cb := cutV_bd _ 3 (by omega) (by omega) yl yb
    have L := near_lin (a0 % 9007199254740993 - 1) (cutV (into 3 n xs)) (allV 3) (by unfold Width allV; omega) (by omega) (by omega) cb.1 cb.2
    exact near_3 a0 a2 _ _ _ A n c _ xs w hA rfl rfl rfl p0 (by omega) hr rfl (bytesV_cut _ 3 _ (by omega) (by omega) yl yb L.2.2.1) L.1 L.2.1 L.2.2.2.1 L.2.2.2.2
  · have yl : (into 4 n xs).length = 4 := into_len hA.1
    have yb : ∀ x ∈ into 4 n xs, 0 ≤ x ∧ x ≤ 255 := into_ok hA.2.1
    have cb := cutV_bd _ 4 (by omega) (by omega) yl yb
    have L := near_lin (a0 % 9007199254740993 - 1) (cutV (into 4 n xs)) (allV 4) (by unfold Width allV; omega) (by omega) (by omega) cb.1 cb.2
    exact near_4 a0 a2 _ _ _ A n c _ xs w hA rfl rfl rfl p0 (by omega) hr rfl (bytesV_cut _ 4 _ (by omega) (by omega) yl yb L.2.2.1) L.1 L.2.1 L.2.2.2.1 L.2.2.2.2
end Go.Proofs.Ytgmgbhpecnmfeaa
