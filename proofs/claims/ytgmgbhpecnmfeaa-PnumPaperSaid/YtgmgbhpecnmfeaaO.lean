/-
  The walk of PnumPaper, one a width and a way of the paper's steps.
-/
import Derived.Test.YtgmgbhpecnmfeaaL
namespace Go.Proofs.Ytgmgbhpecnmfeaa
open Go.RowKit (wrap32 wrap64)
open Go.RowKit
set_option linter.unusedVariables false

set_option maxHeartbeats 2000000 in
theorem paper_1_1 (a0 a2 x g q N : Int) (A : Option Addr) (n c : Nat) (y0 : Int) (xs : List Int) (w : World) (hA : Hid (Bs w A n xs)) (hys : Hid (into 1 n xs = [y0])) (h0 : a0 % 9007199254740992 = x) (h1 : x - 1 = g) (x0 : 0 ≤ x) (x1 : x ≤ 9007199254740991) (hr : a2 % 4 = 0) (b0 : 0 ≤ y0 ∧ y0 ≤ 255)
    (e0 : bits .or .i64 0 y0 = y0) (hq : bits .andNot .i64 (g + 1) 255 = q) (hN : bits .or .i64 q y0 = N) (N0 : 0 ≤ N) (N1 : N ≤ 9007199254741248) (hv : Hid (wholeV g (cutV [y0]) 256 = (N + 256))) (c1 : N ≤ g + 1 - 128) (c2 : N < 9007199254740992 - 256) :
    Calls Try.prog 7 #[.int .i64 a0, .slice A n c, .int .i64 a2] w fun e w' => e = .returned (.bool true) ∧ Below w.heap.size w w' := by
  have hmk : ∀ w, (Instr.makeSlice 22 (.int .i64 1) (.int .i64 1)).run Try.prog w = .ok (.slice (some ⟨w.heap.size, 0, none⟩) 1 1) (w.alloc (.cells #[.int .u8 0] 5)) := fun _ => by kernel_rfl
  go_enter Try.func7, Try.ntmps7
  go_wp2_with (first
    | (go_at_call 18; refine (bring_any _ _ _ (by omega) (by omega)).mono ?_; rintro e w' ⟨rfl, rfl⟩)
    | ((with_reducible refine wpList_copy_splice rfl (.tmp 22) (.tmp 23) 22 22 rfl 5 Try.underlying22 (by kernel_rfl) _ _ _ _ _ _ rfl rfl w.heap.size 0 (List.replicate 1 (Value.int .u8 0)) 5 (heap_alloc_new w _) ((xs.take (Nat.min n 1)).map (Value.int .u8)) (src_len hA.out) (fun h => ⟨rfl, src_cells hA.out _ h⟩) (src_fit hA.out) (ints_oneCell _ _) w.heap.size w ((Below.refl _ _).alloc (Nat.le_refl _) _) (Nat.le_refl _) ?_)))
  intro w3 hg3 hb3
  have HB := Lib.hid (into_block (m := 1) hA.out hys.out hg3.out)
  have H3 := Lib.hid hb3
  obtain ⟨gb, hgb⟩ : ∃ gb, w.heap.size = gb := ⟨_, rfl⟩
  have HC : ∀ j, j < 1 → w3.cell? ⟨gb, 0 + j, none⟩ = some (.int .u8 (([y0] : List Int).getD j 0)) := by
    obtain ⟨b', off', he, hc⟩ := (HB.out).2.2 (by omega)
    injection he with he
    injection he with hbl hof
    subst hgb hbl hof
    exact hc
  have C0 := HC 0 (by omega)
  clear HC hg3 hb3
  simp only [List.getD_cons_zero, Nat.zero_add] at C0
  have HB' := Lib.hid (show Bs w3 (some ⟨gb, 0, none⟩) 1 [y0] from hgb ▸ HB.out)
  clear HB
  simp only [hgb]
  clear hgb
  go_wp2_with fail
  refine wp_loop_rounds 3 ?_; repeat any_goals (rw [rounds_succ]; go_wp2_with fail)
  go_quiet (fail)
  go_wp2_with fail
  all_goals
    refine (whole_any g _ 1 _ [y0] _ (by omega) (by omega) (show Bs (World.drewN w3 _) _ _ _ from HB'.out) (by omega) (by omega)).mono ?_
    rintro e w4 ⟨rfl, k4, hk4⟩
    have H4 := Lib.hid (hk4 ▸ belowDrewN (belowDrewN H3.out _) k4)
    clear hk4
    rw [show wholeV g (cutV [y0]) (allV 1) = (N + 256) from hv.out]
    go_wp2_with (first | (go_at_call 17; refine (works_ok _).mono ?_; rintro e w8 ⟨rfl, hb8⟩; have H8 := Lib.hid (H4.out.trans (hb8.mono H4.out.size)); clear hb8))
  all_goals
    go_ret
    exact ⟨rfl, H8.out⟩

set_option maxHeartbeats 2000000 in
theorem paper_1_2 (a0 a2 x g q N : Int) (A : Option Addr) (n c : Nat) (y0 : Int) (xs : List Int) (w : World) (hA : Hid (Bs w A n xs)) (hys : Hid (into 1 n xs = [y0])) (h0 : a0 % 9007199254740992 = x) (h1 : x - 1 = g) (x0 : 0 ≤ x) (x1 : x ≤ 9007199254740991) (hr : a2 % 4 = 0) (b0 : 0 ≤ y0 ∧ y0 ≤ 255)
    (e0 : bits .or .i64 0 y0 = y0) (hq : bits .andNot .i64 (g + 1) 255 = q) (hN : bits .or .i64 q y0 = N) (N0 : 0 ≤ N) (N1 : N ≤ 9007199254741248) (hv : Hid (wholeV g (cutV [y0]) 256 = (N - 256))) (c1 : ¬ (N ≤ g + 1 - 128 ∧ N < 9007199254740992 - 256)) (c2 : g + 1 + 128 < N) (c3 : 256 ≤ N) :
    Calls Try.prog 7 #[.int .i64 a0, .slice A n c, .int .i64 a2] w fun e w' => e = .returned (.bool true) ∧ Below w.heap.size w w' := by
  have hmk : ∀ w, (Instr.makeSlice 22 (.int .i64 1) (.int .i64 1)).run Try.prog w = .ok (.slice (some ⟨w.heap.size, 0, none⟩) 1 1) (w.alloc (.cells #[.int .u8 0] 5)) := fun _ => by kernel_rfl
  have d1 : ¬ N ≤ g + 1 - 128 := by omega
  go_enter Try.func7, Try.ntmps7
  go_wp2_with (first
    | (go_at_call 18; refine (bring_any _ _ _ (by omega) (by omega)).mono ?_; rintro e w' ⟨rfl, rfl⟩)
    | ((with_reducible refine wpList_copy_splice rfl (.tmp 22) (.tmp 23) 22 22 rfl 5 Try.underlying22 (by kernel_rfl) _ _ _ _ _ _ rfl rfl w.heap.size 0 (List.replicate 1 (Value.int .u8 0)) 5 (heap_alloc_new w _) ((xs.take (Nat.min n 1)).map (Value.int .u8)) (src_len hA.out) (fun h => ⟨rfl, src_cells hA.out _ h⟩) (src_fit hA.out) (ints_oneCell _ _) w.heap.size w ((Below.refl _ _).alloc (Nat.le_refl _) _) (Nat.le_refl _) ?_)))
  intro w3 hg3 hb3
  have HB := Lib.hid (into_block (m := 1) hA.out hys.out hg3.out)
  have H3 := Lib.hid hb3
  obtain ⟨gb, hgb⟩ : ∃ gb, w.heap.size = gb := ⟨_, rfl⟩
  have HC : ∀ j, j < 1 → w3.cell? ⟨gb, 0 + j, none⟩ = some (.int .u8 (([y0] : List Int).getD j 0)) := by
    obtain ⟨b', off', he, hc⟩ := (HB.out).2.2 (by omega)
    injection he with he
    injection he with hbl hof
    subst hgb hbl hof
    exact hc
  have C0 := HC 0 (by omega)
  clear HC hg3 hb3
  simp only [List.getD_cons_zero, Nat.zero_add] at C0
  have HB' := Lib.hid (show Bs w3 (some ⟨gb, 0, none⟩) 1 [y0] from hgb ▸ HB.out)
  clear HB
  simp only [hgb]
  clear hgb
  go_wp2_with fail
  refine wp_loop_rounds 3 ?_; repeat any_goals (rw [rounds_succ]; go_wp2_with fail)
  go_quiet (fail)
  go_wp2_with fail
  all_goals
    refine (whole_any g _ 1 _ [y0] _ (by omega) (by omega) (show Bs (World.drewN w3 _) _ _ _ from HB'.out) (by omega) (by omega)).mono ?_
    rintro e w4 ⟨rfl, k4, hk4⟩
    have H4 := Lib.hid (hk4 ▸ belowDrewN (belowDrewN H3.out _) k4)
    clear hk4
    rw [show wholeV g (cutV [y0]) (allV 1) = (N - 256) from hv.out]
    go_wp2_with (first | (go_at_call 17; refine (works_ok _).mono ?_; rintro e w8 ⟨rfl, hb8⟩; have H8 := Lib.hid (H4.out.trans (hb8.mono H4.out.size)); clear hb8))
  all_goals
    go_ret
    exact ⟨rfl, H8.out⟩

set_option maxHeartbeats 2000000 in
theorem paper_1_3 (a0 a2 x g q N : Int) (A : Option Addr) (n c : Nat) (y0 : Int) (xs : List Int) (w : World) (hA : Hid (Bs w A n xs)) (hys : Hid (into 1 n xs = [y0])) (h0 : a0 % 9007199254740992 = x) (h1 : x - 1 = g) (x0 : 0 ≤ x) (x1 : x ≤ 9007199254740991) (hr : a2 % 4 = 0) (b0 : 0 ≤ y0 ∧ y0 ≤ 255)
    (e0 : bits .or .i64 0 y0 = y0) (hq : bits .andNot .i64 (g + 1) 255 = q) (hN : bits .or .i64 q y0 = N) (N0 : 0 ≤ N) (N1 : N ≤ 9007199254741248) (hv : Hid (wholeV g (cutV [y0]) 256 = N)) (c1 : ¬ (N ≤ g + 1 - 128 ∧ N < 9007199254740992 - 256)) (c2 : ¬ (g + 1 + 128 < N ∧ 256 ≤ N)) (c3 : N ≤ 9007199254740991) :
    Calls Try.prog 7 #[.int .i64 a0, .slice A n c, .int .i64 a2] w fun e w' => e = .returned (.bool true) ∧ Below w.heap.size w w' := by
  have hmk : ∀ w, (Instr.makeSlice 22 (.int .i64 1) (.int .i64 1)).run Try.prog w = .ok (.slice (some ⟨w.heap.size, 0, none⟩) 1 1) (w.alloc (.cells #[.int .u8 0] 5)) := fun _ => by kernel_rfl
  go_enter Try.func7, Try.ntmps7
  go_wp2_with (first
    | (go_at_call 18; refine (bring_any _ _ _ (by omega) (by omega)).mono ?_; rintro e w' ⟨rfl, rfl⟩)
    | ((with_reducible refine wpList_copy_splice rfl (.tmp 22) (.tmp 23) 22 22 rfl 5 Try.underlying22 (by kernel_rfl) _ _ _ _ _ _ rfl rfl w.heap.size 0 (List.replicate 1 (Value.int .u8 0)) 5 (heap_alloc_new w _) ((xs.take (Nat.min n 1)).map (Value.int .u8)) (src_len hA.out) (fun h => ⟨rfl, src_cells hA.out _ h⟩) (src_fit hA.out) (ints_oneCell _ _) w.heap.size w ((Below.refl _ _).alloc (Nat.le_refl _) _) (Nat.le_refl _) ?_)))
  intro w3 hg3 hb3
  have HB := Lib.hid (into_block (m := 1) hA.out hys.out hg3.out)
  have H3 := Lib.hid hb3
  obtain ⟨gb, hgb⟩ : ∃ gb, w.heap.size = gb := ⟨_, rfl⟩
  have HC : ∀ j, j < 1 → w3.cell? ⟨gb, 0 + j, none⟩ = some (.int .u8 (([y0] : List Int).getD j 0)) := by
    obtain ⟨b', off', he, hc⟩ := (HB.out).2.2 (by omega)
    injection he with he
    injection he with hbl hof
    subst hgb hbl hof
    exact hc
  have C0 := HC 0 (by omega)
  clear HC hg3 hb3
  simp only [List.getD_cons_zero, Nat.zero_add] at C0
  have HB' := Lib.hid (show Bs w3 (some ⟨gb, 0, none⟩) 1 [y0] from hgb ▸ HB.out)
  clear HB
  simp only [hgb]
  clear hgb
  go_wp2_with fail
  refine wp_loop_rounds 3 ?_; repeat any_goals (rw [rounds_succ]; go_wp2_with fail)
  go_quiet (fail)
  go_wp2_with fail
  all_goals
    refine (whole_any g _ 1 _ [y0] _ (by omega) (by omega) (show Bs (World.drewN w3 _) _ _ _ from HB'.out) (by omega) (by omega)).mono ?_
    rintro e w4 ⟨rfl, k4, hk4⟩
    have H4 := Lib.hid (hk4 ▸ belowDrewN (belowDrewN H3.out _) k4)
    clear hk4
    rw [show wholeV g (cutV [y0]) (allV 1) = N from hv.out]
    go_wp2_with (first | (go_at_call 17; refine (works_ok _).mono ?_; rintro e w8 ⟨rfl, hb8⟩; have H8 := Lib.hid (H4.out.trans (hb8.mono H4.out.size)); clear hb8))
  all_goals
    go_ret
    exact ⟨rfl, H8.out⟩

set_option maxHeartbeats 2000000 in
theorem paper_1_4 (a0 a2 x g q N : Int) (v : Int) (A : Option Addr) (n c : Nat) (y0 : Int) (xs : List Int) (w : World) (hA : Hid (Bs w A n xs)) (hys : Hid (into 1 n xs = [y0])) (h0 : a0 % 9007199254740992 = x) (h1 : x - 1 = g) (x0 : 0 ≤ x) (x1 : x ≤ 9007199254740991) (hr : a2 % 4 = 0) (b0 : 0 ≤ y0 ∧ y0 ≤ 255)
    (e0 : bits .or .i64 0 y0 = y0) (hq : bits .andNot .i64 (g + 1) 255 = q) (hN : bits .or .i64 q y0 = N) (N0 : 0 ≤ N) (N1 : N ≤ 9007199254741248) (hv : Hid (wholeV g (cutV [y0]) 256 = v)) (c1 : ¬ (N ≤ g + 1 - 128 ∧ N < 9007199254740992 - 256)) (c2 : ¬ (g + 1 + 128 < N ∧ 256 ≤ N)) (c3 : 9007199254740991 < N) :
    Calls Try.prog 7 #[.int .i64 a0, .slice A n c, .int .i64 a2] w fun e w' => e = .returned (.bool true) ∧ Below w.heap.size w w' := by
  have hmk : ∀ w, (Instr.makeSlice 22 (.int .i64 1) (.int .i64 1)).run Try.prog w = .ok (.slice (some ⟨w.heap.size, 0, none⟩) 1 1) (w.alloc (.cells #[.int .u8 0] 5)) := fun _ => by kernel_rfl
  have d1 : ¬ N ≤ g + 1 - 128 := by omega
  go_enter Try.func7, Try.ntmps7
  go_wp2_with (first
    | (go_at_call 18; refine (bring_any _ _ _ (by omega) (by omega)).mono ?_; rintro e w' ⟨rfl, rfl⟩)
    | ((with_reducible refine wpList_copy_splice rfl (.tmp 22) (.tmp 23) 22 22 rfl 5 Try.underlying22 (by kernel_rfl) _ _ _ _ _ _ rfl rfl w.heap.size 0 (List.replicate 1 (Value.int .u8 0)) 5 (heap_alloc_new w _) ((xs.take (Nat.min n 1)).map (Value.int .u8)) (src_len hA.out) (fun h => ⟨rfl, src_cells hA.out _ h⟩) (src_fit hA.out) (ints_oneCell _ _) w.heap.size w ((Below.refl _ _).alloc (Nat.le_refl _) _) (Nat.le_refl _) ?_)))
  intro w3 hg3 hb3
  have HB := Lib.hid (into_block (m := 1) hA.out hys.out hg3.out)
  have H3 := Lib.hid hb3
  obtain ⟨gb, hgb⟩ : ∃ gb, w.heap.size = gb := ⟨_, rfl⟩
  have HC : ∀ j, j < 1 → w3.cell? ⟨gb, 0 + j, none⟩ = some (.int .u8 (([y0] : List Int).getD j 0)) := by
    obtain ⟨b', off', he, hc⟩ := (HB.out).2.2 (by omega)
    injection he with he
    injection he with hbl hof
    subst hgb hbl hof
    exact hc
  have C0 := HC 0 (by omega)
  clear HC hg3 hb3
  simp only [List.getD_cons_zero, Nat.zero_add] at C0
  have HB' := Lib.hid (show Bs w3 (some ⟨gb, 0, none⟩) 1 [y0] from hgb ▸ HB.out)
  clear HB
  simp only [hgb]
  clear hgb
  go_wp2_with fail
  refine wp_loop_rounds 3 ?_; repeat any_goals (rw [rounds_succ]; go_wp2_with fail)
  go_quiet (fail)
  go_wp2_with fail
  all_goals
    refine (whole_any g _ 1 _ [y0] _ (by omega) (by omega) (show Bs (World.drewN w3 _) _ _ _ from HB'.out) (by omega) (by omega)).mono ?_
    rintro e w4 ⟨rfl, k4, hk4⟩
    have H4 := Lib.hid (hk4 ▸ belowDrewN (belowDrewN H3.out _) k4)
    clear hk4
    rw [show wholeV g (cutV [y0]) (allV 1) = v from hv.out]
    go_wp2_with (first | (go_at_call 17; refine (works_ok _).mono ?_; rintro e w8 ⟨rfl, hb8⟩; have H8 := Lib.hid (H4.out.trans (hb8.mono H4.out.size)); clear hb8))
  all_goals
    go_ret
    exact ⟨rfl, H8.out⟩

set_option maxHeartbeats 2000000 in
theorem paper_2_1 (a0 a2 x g q N : Int) (A : Option Addr) (n c : Nat) (y0 y1 : Int) (xs : List Int) (w : World) (hA : Hid (Bs w A n xs)) (hys : Hid (into 2 n xs = [y0, y1])) (h0 : a0 % 9007199254740992 = x) (h1 : x - 1 = g) (x0 : 0 ≤ x) (x1 : x ≤ 9007199254740991) (hr : a2 % 4 = 1) (b0 : 0 ≤ y0 ∧ y0 ≤ 255) (b1 : 0 ≤ y1 ∧ y1 ≤ 255)
    (e0 : bits .or .i64 0 y0 = y0) (e1 : bits .or .i64 (y0 * 256) y1 = y0 * 256 + y1) (hq : bits .andNot .i64 (g + 1) 65535 = q) (hN : bits .or .i64 q (y0 * 256 + y1) = N) (N0 : 0 ≤ N) (N1 : N ≤ 9007199254806528) (hv : Hid (wholeV g (cutV [y0, y1]) 65536 = (N + 65536))) (c1 : N ≤ g + 1 - 32768) (c2 : N < 9007199254740992 - 65536) :
    Calls Try.prog 7 #[.int .i64 a0, .slice A n c, .int .i64 a2] w fun e w' => e = .returned (.bool true) ∧ Below w.heap.size w w' := by
  have hmk : ∀ w, (Instr.makeSlice 22 (.int .i64 2) (.int .i64 2)).run Try.prog w = .ok (.slice (some ⟨w.heap.size, 0, none⟩) 2 2) (w.alloc (.cells #[.int .u8 0, .int .u8 0] 5)) := fun _ => by kernel_rfl
  go_enter Try.func7, Try.ntmps7
  go_wp2_with (first
    | (go_at_call 18; refine (bring_any _ _ _ (by omega) (by omega)).mono ?_; rintro e w' ⟨rfl, rfl⟩)
    | ((with_reducible refine wpList_copy_splice rfl (.tmp 22) (.tmp 23) 22 22 rfl 5 Try.underlying22 (by kernel_rfl) _ _ _ _ _ _ rfl rfl w.heap.size 0 (List.replicate 2 (Value.int .u8 0)) 5 (heap_alloc_new w _) ((xs.take (Nat.min n 2)).map (Value.int .u8)) (src_len hA.out) (fun h => ⟨rfl, src_cells hA.out _ h⟩) (src_fit hA.out) (ints_oneCell _ _) w.heap.size w ((Below.refl _ _).alloc (Nat.le_refl _) _) (Nat.le_refl _) ?_)))
  intro w3 hg3 hb3
  have HB := Lib.hid (into_block (m := 2) hA.out hys.out hg3.out)
  have H3 := Lib.hid hb3
  obtain ⟨gb, hgb⟩ : ∃ gb, w.heap.size = gb := ⟨_, rfl⟩
  have HC : ∀ j, j < 2 → w3.cell? ⟨gb, 0 + j, none⟩ = some (.int .u8 (([y0, y1] : List Int).getD j 0)) := by
    obtain ⟨b', off', he, hc⟩ := (HB.out).2.2 (by omega)
    injection he with he
    injection he with hbl hof
    subst hgb hbl hof
    exact hc
  have C0 := HC 0 (by omega)
  have C1 := HC 1 (by omega)
  clear HC hg3 hb3
  simp only [List.getD_cons_zero, List.getD_cons_succ, Nat.zero_add] at C0 C1
  have HB' := Lib.hid (show Bs w3 (some ⟨gb, 0, none⟩) 2 [y0, y1] from hgb ▸ HB.out)
  clear HB
  simp only [hgb]
  clear hgb
  go_wp2_with fail
  refine wp_loop_rounds 4 ?_; repeat any_goals (rw [rounds_succ]; go_wp2_with fail)
  go_quiet (fail)
  go_wp2_with fail
  all_goals
    refine (whole_any g _ 2 _ [y0, y1] _ (by omega) (by omega) (show Bs (World.drewN w3 _) _ _ _ from HB'.out) (by omega) (by omega)).mono ?_
    rintro e w4 ⟨rfl, k4, hk4⟩
    have H4 := Lib.hid (hk4 ▸ belowDrewN (belowDrewN H3.out _) k4)
    clear hk4
    rw [show wholeV g (cutV [y0, y1]) (allV 2) = (N + 65536) from hv.out]
    go_wp2_with (first | (go_at_call 17; refine (works_ok _).mono ?_; rintro e w8 ⟨rfl, hb8⟩; have H8 := Lib.hid (H4.out.trans (hb8.mono H4.out.size)); clear hb8))
  all_goals
    go_ret
    exact ⟨rfl, H8.out⟩

set_option maxHeartbeats 2000000 in
theorem paper_2_2 (a0 a2 x g q N : Int) (A : Option Addr) (n c : Nat) (y0 y1 : Int) (xs : List Int) (w : World) (hA : Hid (Bs w A n xs)) (hys : Hid (into 2 n xs = [y0, y1])) (h0 : a0 % 9007199254740992 = x) (h1 : x - 1 = g) (x0 : 0 ≤ x) (x1 : x ≤ 9007199254740991) (hr : a2 % 4 = 1) (b0 : 0 ≤ y0 ∧ y0 ≤ 255) (b1 : 0 ≤ y1 ∧ y1 ≤ 255)
    (e0 : bits .or .i64 0 y0 = y0) (e1 : bits .or .i64 (y0 * 256) y1 = y0 * 256 + y1) (hq : bits .andNot .i64 (g + 1) 65535 = q) (hN : bits .or .i64 q (y0 * 256 + y1) = N) (N0 : 0 ≤ N) (N1 : N ≤ 9007199254806528) (hv : Hid (wholeV g (cutV [y0, y1]) 65536 = (N - 65536))) (c1 : ¬ (N ≤ g + 1 - 32768 ∧ N < 9007199254740992 - 65536)) (c2 : g + 1 + 32768 < N) (c3 : 65536 ≤ N) :
    Calls Try.prog 7 #[.int .i64 a0, .slice A n c, .int .i64 a2] w fun e w' => e = .returned (.bool true) ∧ Below w.heap.size w w' := by
  have hmk : ∀ w, (Instr.makeSlice 22 (.int .i64 2) (.int .i64 2)).run Try.prog w = .ok (.slice (some ⟨w.heap.size, 0, none⟩) 2 2) (w.alloc (.cells #[.int .u8 0, .int .u8 0] 5)) := fun _ => by kernel_rfl
  have d1 : ¬ N ≤ g + 1 - 32768 := by omega
  go_enter Try.func7, Try.ntmps7
  go_wp2_with (first
    | (go_at_call 18; refine (bring_any _ _ _ (by omega) (by omega)).mono ?_; rintro e w' ⟨rfl, rfl⟩)
    | ((with_reducible refine wpList_copy_splice rfl (.tmp 22) (.tmp 23) 22 22 rfl 5 Try.underlying22 (by kernel_rfl) _ _ _ _ _ _ rfl rfl w.heap.size 0 (List.replicate 2 (Value.int .u8 0)) 5 (heap_alloc_new w _) ((xs.take (Nat.min n 2)).map (Value.int .u8)) (src_len hA.out) (fun h => ⟨rfl, src_cells hA.out _ h⟩) (src_fit hA.out) (ints_oneCell _ _) w.heap.size w ((Below.refl _ _).alloc (Nat.le_refl _) _) (Nat.le_refl _) ?_)))
  intro w3 hg3 hb3
  have HB := Lib.hid (into_block (m := 2) hA.out hys.out hg3.out)
  have H3 := Lib.hid hb3
  obtain ⟨gb, hgb⟩ : ∃ gb, w.heap.size = gb := ⟨_, rfl⟩
  have HC : ∀ j, j < 2 → w3.cell? ⟨gb, 0 + j, none⟩ = some (.int .u8 (([y0, y1] : List Int).getD j 0)) := by
    obtain ⟨b', off', he, hc⟩ := (HB.out).2.2 (by omega)
    injection he with he
    injection he with hbl hof
    subst hgb hbl hof
    exact hc
  have C0 := HC 0 (by omega)
  have C1 := HC 1 (by omega)
  clear HC hg3 hb3
  simp only [List.getD_cons_zero, List.getD_cons_succ, Nat.zero_add] at C0 C1
  have HB' := Lib.hid (show Bs w3 (some ⟨gb, 0, none⟩) 2 [y0, y1] from hgb ▸ HB.out)
  clear HB
  simp only [hgb]
  clear hgb
  go_wp2_with fail
  refine wp_loop_rounds 4 ?_; repeat any_goals (rw [rounds_succ]; go_wp2_with fail)
  go_quiet (fail)
  go_wp2_with fail
  all_goals
    refine (whole_any g _ 2 _ [y0, y1] _ (by omega) (by omega) (show Bs (World.drewN w3 _) _ _ _ from HB'.out) (by omega) (by omega)).mono ?_
    rintro e w4 ⟨rfl, k4, hk4⟩
    have H4 := Lib.hid (hk4 ▸ belowDrewN (belowDrewN H3.out _) k4)
    clear hk4
    rw [show wholeV g (cutV [y0, y1]) (allV 2) = (N - 65536) from hv.out]
    go_wp2_with (first | (go_at_call 17; refine (works_ok _).mono ?_; rintro e w8 ⟨rfl, hb8⟩; have H8 := Lib.hid (H4.out.trans (hb8.mono H4.out.size)); clear hb8))
  all_goals
    go_ret
    exact ⟨rfl, H8.out⟩

set_option maxHeartbeats 2000000 in
theorem paper_2_3 (a0 a2 x g q N : Int) (A : Option Addr) (n c : Nat) (y0 y1 : Int) (xs : List Int) (w : World) (hA : Hid (Bs w A n xs)) (hys : Hid (into 2 n xs = [y0, y1])) (h0 : a0 % 9007199254740992 = x) (h1 : x - 1 = g) (x0 : 0 ≤ x) (x1 : x ≤ 9007199254740991) (hr : a2 % 4 = 1) (b0 : 0 ≤ y0 ∧ y0 ≤ 255) (b1 : 0 ≤ y1 ∧ y1 ≤ 255)
    (e0 : bits .or .i64 0 y0 = y0) (e1 : bits .or .i64 (y0 * 256) y1 = y0 * 256 + y1) (hq : bits .andNot .i64 (g + 1) 65535 = q) (hN : bits .or .i64 q (y0 * 256 + y1) = N) (N0 : 0 ≤ N) (N1 : N ≤ 9007199254806528) (hv : Hid (wholeV g (cutV [y0, y1]) 65536 = N)) (c1 : ¬ (N ≤ g + 1 - 32768 ∧ N < 9007199254740992 - 65536)) (c2 : ¬ (g + 1 + 32768 < N ∧ 65536 ≤ N)) (c3 : N ≤ 9007199254740991) :
    Calls Try.prog 7 #[.int .i64 a0, .slice A n c, .int .i64 a2] w fun e w' => e = .returned (.bool true) ∧ Below w.heap.size w w' := by
  have hmk : ∀ w, (Instr.makeSlice 22 (.int .i64 2) (.int .i64 2)).run Try.prog w = .ok (.slice (some ⟨w.heap.size, 0, none⟩) 2 2) (w.alloc (.cells #[.int .u8 0, .int .u8 0] 5)) := fun _ => by kernel_rfl
  go_enter Try.func7, Try.ntmps7
  go_wp2_with (first
    | (go_at_call 18; refine (bring_any _ _ _ (by omega) (by omega)).mono ?_; rintro e w' ⟨rfl, rfl⟩)
    | ((with_reducible refine wpList_copy_splice rfl (.tmp 22) (.tmp 23) 22 22 rfl 5 Try.underlying22 (by kernel_rfl) _ _ _ _ _ _ rfl rfl w.heap.size 0 (List.replicate 2 (Value.int .u8 0)) 5 (heap_alloc_new w _) ((xs.take (Nat.min n 2)).map (Value.int .u8)) (src_len hA.out) (fun h => ⟨rfl, src_cells hA.out _ h⟩) (src_fit hA.out) (ints_oneCell _ _) w.heap.size w ((Below.refl _ _).alloc (Nat.le_refl _) _) (Nat.le_refl _) ?_)))
  intro w3 hg3 hb3
  have HB := Lib.hid (into_block (m := 2) hA.out hys.out hg3.out)
  have H3 := Lib.hid hb3
  obtain ⟨gb, hgb⟩ : ∃ gb, w.heap.size = gb := ⟨_, rfl⟩
  have HC : ∀ j, j < 2 → w3.cell? ⟨gb, 0 + j, none⟩ = some (.int .u8 (([y0, y1] : List Int).getD j 0)) := by
    obtain ⟨b', off', he, hc⟩ := (HB.out).2.2 (by omega)
    injection he with he
    injection he with hbl hof
    subst hgb hbl hof
    exact hc
  have C0 := HC 0 (by omega)
  have C1 := HC 1 (by omega)
  clear HC hg3 hb3
  simp only [List.getD_cons_zero, List.getD_cons_succ, Nat.zero_add] at C0 C1
  have HB' := Lib.hid (show Bs w3 (some ⟨gb, 0, none⟩) 2 [y0, y1] from hgb ▸ HB.out)
  clear HB
  simp only [hgb]
  clear hgb
  go_wp2_with fail
  refine wp_loop_rounds 4 ?_; repeat any_goals (rw [rounds_succ]; go_wp2_with fail)
  go_quiet (fail)
  go_wp2_with fail
  all_goals
    refine (whole_any g _ 2 _ [y0, y1] _ (by omega) (by omega) (show Bs (World.drewN w3 _) _ _ _ from HB'.out) (by omega) (by omega)).mono ?_
    rintro e w4 ⟨rfl, k4, hk4⟩
    have H4 := Lib.hid (hk4 ▸ belowDrewN (belowDrewN H3.out _) k4)
    clear hk4
    rw [show wholeV g (cutV [y0, y1]) (allV 2) = N from hv.out]
    go_wp2_with (first | (go_at_call 17; refine (works_ok _).mono ?_; rintro e w8 ⟨rfl, hb8⟩; have H8 := Lib.hid (H4.out.trans (hb8.mono H4.out.size)); clear hb8))
  all_goals
    go_ret
    exact ⟨rfl, H8.out⟩

set_option maxHeartbeats 2000000 in
theorem paper_2_4 (a0 a2 x g q N : Int) (v : Int) (A : Option Addr) (n c : Nat) (y0 y1 : Int) (xs : List Int) (w : World) (hA : Hid (Bs w A n xs)) (hys : Hid (into 2 n xs = [y0, y1])) (h0 : a0 % 9007199254740992 = x) (h1 : x - 1 = g) (x0 : 0 ≤ x) (x1 : x ≤ 9007199254740991) (hr : a2 % 4 = 1) (b0 : 0 ≤ y0 ∧ y0 ≤ 255) (b1 : 0 ≤ y1 ∧ y1 ≤ 255)
    (e0 : bits .or .i64 0 y0 = y0) (e1 : bits .or .i64 (y0 * 256) y1 = y0 * 256 + y1) (hq : bits .andNot .i64 (g + 1) 65535 = q) (hN : bits .or .i64 q (y0 * 256 + y1) = N) (N0 : 0 ≤ N) (N1 : N ≤ 9007199254806528) (hv : Hid (wholeV g (cutV [y0, y1]) 65536 = v)) (c1 : ¬ (N ≤ g + 1 - 32768 ∧ N < 9007199254740992 - 65536)) (c2 : ¬ (g + 1 + 32768 < N ∧ 65536 ≤ N)) (c3 : 9007199254740991 < N) :
    Calls Try.prog 7 #[.int .i64 a0, .slice A n c, .int .i64 a2] w fun e w' => e = .returned (.bool true) ∧ Below w.heap.size w w' := by
  have hmk : ∀ w, (Instr.makeSlice 22 (.int .i64 2) (.int .i64 2)).run Try.prog w = .ok (.slice (some ⟨w.heap.size, 0, none⟩) 2 2) (w.alloc (.cells #[.int .u8 0, .int .u8 0] 5)) := fun _ => by kernel_rfl
  have d1 : ¬ N ≤ g + 1 - 32768 := by omega
  go_enter Try.func7, Try.ntmps7
  go_wp2_with (first
    | (go_at_call 18; refine (bring_any _ _ _ (by omega) (by omega)).mono ?_; rintro e w' ⟨rfl, rfl⟩)
    | ((with_reducible refine wpList_copy_splice rfl (.tmp 22) (.tmp 23) 22 22 rfl 5 Try.underlying22 (by kernel_rfl) _ _ _ _ _ _ rfl rfl w.heap.size 0 (List.replicate 2 (Value.int .u8 0)) 5 (heap_alloc_new w _) ((xs.take (Nat.min n 2)).map (Value.int .u8)) (src_len hA.out) (fun h => ⟨rfl, src_cells hA.out _ h⟩) (src_fit hA.out) (ints_oneCell _ _) w.heap.size w ((Below.refl _ _).alloc (Nat.le_refl _) _) (Nat.le_refl _) ?_)))
  intro w3 hg3 hb3
  have HB := Lib.hid (into_block (m := 2) hA.out hys.out hg3.out)
  have H3 := Lib.hid hb3
  obtain ⟨gb, hgb⟩ : ∃ gb, w.heap.size = gb := ⟨_, rfl⟩
  have HC : ∀ j, j < 2 → w3.cell? ⟨gb, 0 + j, none⟩ = some (.int .u8 (([y0, y1] : List Int).getD j 0)) := by
    obtain ⟨b', off', he, hc⟩ := (HB.out).2.2 (by omega)
    injection he with he
    injection he with hbl hof
    subst hgb hbl hof
    exact hc
  have C0 := HC 0 (by omega)
  have C1 := HC 1 (by omega)
  clear HC hg3 hb3
  simp only [List.getD_cons_zero, List.getD_cons_succ, Nat.zero_add] at C0 C1
  have HB' := Lib.hid (show Bs w3 (some ⟨gb, 0, none⟩) 2 [y0, y1] from hgb ▸ HB.out)
  clear HB
  simp only [hgb]
  clear hgb
  go_wp2_with fail
  refine wp_loop_rounds 4 ?_; repeat any_goals (rw [rounds_succ]; go_wp2_with fail)
  go_quiet (fail)
  go_wp2_with fail
  all_goals
    refine (whole_any g _ 2 _ [y0, y1] _ (by omega) (by omega) (show Bs (World.drewN w3 _) _ _ _ from HB'.out) (by omega) (by omega)).mono ?_
    rintro e w4 ⟨rfl, k4, hk4⟩
    have H4 := Lib.hid (hk4 ▸ belowDrewN (belowDrewN H3.out _) k4)
    clear hk4
    rw [show wholeV g (cutV [y0, y1]) (allV 2) = v from hv.out]
    go_wp2_with (first | (go_at_call 17; refine (works_ok _).mono ?_; rintro e w8 ⟨rfl, hb8⟩; have H8 := Lib.hid (H4.out.trans (hb8.mono H4.out.size)); clear hb8))
  all_goals
    go_ret
    exact ⟨rfl, H8.out⟩

set_option maxHeartbeats 2000000 in
theorem paper_3_1 (a0 a2 x g q N : Int) (A : Option Addr) (n c : Nat) (y0 y1 y2 : Int) (xs : List Int) (w : World) (hA : Hid (Bs w A n xs)) (hys : Hid (into 3 n xs = [y0, y1, y2])) (h0 : a0 % 9007199254740992 = x) (h1 : x - 1 = g) (x0 : 0 ≤ x) (x1 : x ≤ 9007199254740991) (hr : a2 % 4 = 2) (b0 : 0 ≤ y0 ∧ y0 ≤ 255) (b1 : 0 ≤ y1 ∧ y1 ≤ 255) (b2 : 0 ≤ y2 ∧ y2 ≤ 255)
    (e0 : bits .or .i64 0 y0 = y0) (e1 : bits .or .i64 (y0 * 256) y1 = y0 * 256 + y1) (e2 : bits .or .i64 ((y0 * 256 + y1) * 256) y2 = (y0 * 256 + y1) * 256 + y2) (hq : bits .andNot .i64 (g + 1) 16777215 = q) (hN : bits .or .i64 q ((y0 * 256 + y1) * 256 + y2) = N) (N0 : 0 ≤ N) (N1 : N ≤ 9007199271518208) (hv : Hid (wholeV g (cutV [y0, y1, y2]) 16777216 = (N + 16777216))) (c1 : N ≤ g + 1 - 8388608) (c2 : N < 9007199254740992 - 16777216) :
    Calls Try.prog 7 #[.int .i64 a0, .slice A n c, .int .i64 a2] w fun e w' => e = .returned (.bool true) ∧ Below w.heap.size w w' := by
  have hmk : ∀ w, (Instr.makeSlice 22 (.int .i64 3) (.int .i64 3)).run Try.prog w = .ok (.slice (some ⟨w.heap.size, 0, none⟩) 3 3) (w.alloc (.cells #[.int .u8 0, .int .u8 0, .int .u8 0] 5)) := fun _ => by kernel_rfl
  go_enter Try.func7, Try.ntmps7
  go_wp2_with (first
    | (go_at_call 18; refine (bring_any _ _ _ (by omega) (by omega)).mono ?_; rintro e w' ⟨rfl, rfl⟩)
    | ((with_reducible refine wpList_copy_splice rfl (.tmp 22) (.tmp 23) 22 22 rfl 5 Try.underlying22 (by kernel_rfl) _ _ _ _ _ _ rfl rfl w.heap.size 0 (List.replicate 3 (Value.int .u8 0)) 5 (heap_alloc_new w _) ((xs.take (Nat.min n 3)).map (Value.int .u8)) (src_len hA.out) (fun h => ⟨rfl, src_cells hA.out _ h⟩) (src_fit hA.out) (ints_oneCell _ _) w.heap.size w ((Below.refl _ _).alloc (Nat.le_refl _) _) (Nat.le_refl _) ?_)))
  intro w3 hg3 hb3
  have HB := Lib.hid (into_block (m := 3) hA.out hys.out hg3.out)
  have H3 := Lib.hid hb3
  obtain ⟨gb, hgb⟩ : ∃ gb, w.heap.size = gb := ⟨_, rfl⟩
  have HC : ∀ j, j < 3 → w3.cell? ⟨gb, 0 + j, none⟩ = some (.int .u8 (([y0, y1, y2] : List Int).getD j 0)) := by
    obtain ⟨b', off', he, hc⟩ := (HB.out).2.2 (by omega)
    injection he with he
    injection he with hbl hof
    subst hgb hbl hof
    exact hc
  have C0 := HC 0 (by omega)
  have C1 := HC 1 (by omega)
  have C2 := HC 2 (by omega)
  clear HC hg3 hb3
  simp only [List.getD_cons_zero, List.getD_cons_succ, Nat.zero_add] at C0 C1 C2
  have HB' := Lib.hid (show Bs w3 (some ⟨gb, 0, none⟩) 3 [y0, y1, y2] from hgb ▸ HB.out)
  clear HB
  simp only [hgb]
  clear hgb
  go_wp2_with fail
  refine wp_loop_rounds 5 ?_; repeat any_goals (rw [rounds_succ]; go_wp2_with fail)
  go_quiet (fail)
  go_wp2_with fail
  all_goals
    refine (whole_any g _ 3 _ [y0, y1, y2] _ (by omega) (by omega) (show Bs (World.drewN w3 _) _ _ _ from HB'.out) (by omega) (by omega)).mono ?_
    rintro e w4 ⟨rfl, k4, hk4⟩
    have H4 := Lib.hid (hk4 ▸ belowDrewN (belowDrewN H3.out _) k4)
    clear hk4
    rw [show wholeV g (cutV [y0, y1, y2]) (allV 3) = (N + 16777216) from hv.out]
    go_wp2_with (first | (go_at_call 17; refine (works_ok _).mono ?_; rintro e w8 ⟨rfl, hb8⟩; have H8 := Lib.hid (H4.out.trans (hb8.mono H4.out.size)); clear hb8))
  all_goals
    go_ret
    exact ⟨rfl, H8.out⟩

set_option maxHeartbeats 2000000 in
theorem paper_3_2 (a0 a2 x g q N : Int) (A : Option Addr) (n c : Nat) (y0 y1 y2 : Int) (xs : List Int) (w : World) (hA : Hid (Bs w A n xs)) (hys : Hid (into 3 n xs = [y0, y1, y2])) (h0 : a0 % 9007199254740992 = x) (h1 : x - 1 = g) (x0 : 0 ≤ x) (x1 : x ≤ 9007199254740991) (hr : a2 % 4 = 2) (b0 : 0 ≤ y0 ∧ y0 ≤ 255) (b1 : 0 ≤ y1 ∧ y1 ≤ 255) (b2 : 0 ≤ y2 ∧ y2 ≤ 255)
    (e0 : bits .or .i64 0 y0 = y0) (e1 : bits .or .i64 (y0 * 256) y1 = y0 * 256 + y1) (e2 : bits .or .i64 ((y0 * 256 + y1) * 256) y2 = (y0 * 256 + y1) * 256 + y2) (hq : bits .andNot .i64 (g + 1) 16777215 = q) (hN : bits .or .i64 q ((y0 * 256 + y1) * 256 + y2) = N) (N0 : 0 ≤ N) (N1 : N ≤ 9007199271518208) (hv : Hid (wholeV g (cutV [y0, y1, y2]) 16777216 = (N - 16777216))) (c1 : ¬ (N ≤ g + 1 - 8388608 ∧ N < 9007199254740992 - 16777216)) (c2 : g + 1 + 8388608 < N) (c3 : 16777216 ≤ N) :
    Calls Try.prog 7 #[.int .i64 a0, .slice A n c, .int .i64 a2] w fun e w' => e = .returned (.bool true) ∧ Below w.heap.size w w' := by
  have hmk : ∀ w, (Instr.makeSlice 22 (.int .i64 3) (.int .i64 3)).run Try.prog w = .ok (.slice (some ⟨w.heap.size, 0, none⟩) 3 3) (w.alloc (.cells #[.int .u8 0, .int .u8 0, .int .u8 0] 5)) := fun _ => by kernel_rfl
  have d1 : ¬ N ≤ g + 1 - 8388608 := by omega
  go_enter Try.func7, Try.ntmps7
  go_wp2_with (first
    | (go_at_call 18; refine (bring_any _ _ _ (by omega) (by omega)).mono ?_; rintro e w' ⟨rfl, rfl⟩)
    | ((with_reducible refine wpList_copy_splice rfl (.tmp 22) (.tmp 23) 22 22 rfl 5 Try.underlying22 (by kernel_rfl) _ _ _ _ _ _ rfl rfl w.heap.size 0 (List.replicate 3 (Value.int .u8 0)) 5 (heap_alloc_new w _) ((xs.take (Nat.min n 3)).map (Value.int .u8)) (src_len hA.out) (fun h => ⟨rfl, src_cells hA.out _ h⟩) (src_fit hA.out) (ints_oneCell _ _) w.heap.size w ((Below.refl _ _).alloc (Nat.le_refl _) _) (Nat.le_refl _) ?_)))
  intro w3 hg3 hb3
  have HB := Lib.hid (into_block (m := 3) hA.out hys.out hg3.out)
  have H3 := Lib.hid hb3
  obtain ⟨gb, hgb⟩ : ∃ gb, w.heap.size = gb := ⟨_, rfl⟩
  have HC : ∀ j, j < 3 → w3.cell? ⟨gb, 0 + j, none⟩ = some (.int .u8 (([y0, y1, y2] : List Int).getD j 0)) := by
    obtain ⟨b', off', he, hc⟩ := (HB.out).2.2 (by omega)
    injection he with he
    injection he with hbl hof
    subst hgb hbl hof
    exact hc
  have C0 := HC 0 (by omega)
  have C1 := HC 1 (by omega)
  have C2 := HC 2 (by omega)
  clear HC hg3 hb3
  simp only [List.getD_cons_zero, List.getD_cons_succ, Nat.zero_add] at C0 C1 C2
  have HB' := Lib.hid (show Bs w3 (some ⟨gb, 0, none⟩) 3 [y0, y1, y2] from hgb ▸ HB.out)
  clear HB
  simp only [hgb]
  clear hgb
  go_wp2_with fail
  refine wp_loop_rounds 5 ?_; repeat any_goals (rw [rounds_succ]; go_wp2_with fail)
  go_quiet (fail)
  go_wp2_with fail
  all_goals
    refine (whole_any g _ 3 _ [y0, y1, y2] _ (by omega) (by omega) (show Bs (World.drewN w3 _) _ _ _ from HB'.out) (by omega) (by omega)).mono ?_
    rintro e w4 ⟨rfl, k4, hk4⟩
    have H4 := Lib.hid (hk4 ▸ belowDrewN (belowDrewN H3.out _) k4)
    clear hk4
    rw [show wholeV g (cutV [y0, y1, y2]) (allV 3) = (N - 16777216) from hv.out]
    go_wp2_with (first | (go_at_call 17; refine (works_ok _).mono ?_; rintro e w8 ⟨rfl, hb8⟩; have H8 := Lib.hid (H4.out.trans (hb8.mono H4.out.size)); clear hb8))
  all_goals
    go_ret
    exact ⟨rfl, H8.out⟩

set_option maxHeartbeats 2000000 in
theorem paper_3_3 (a0 a2 x g q N : Int) (A : Option Addr) (n c : Nat) (y0 y1 y2 : Int) (xs : List Int) (w : World) (hA : Hid (Bs w A n xs)) (hys : Hid (into 3 n xs = [y0, y1, y2])) (h0 : a0 % 9007199254740992 = x) (h1 : x - 1 = g) (x0 : 0 ≤ x) (x1 : x ≤ 9007199254740991) (hr : a2 % 4 = 2) (b0 : 0 ≤ y0 ∧ y0 ≤ 255) (b1 : 0 ≤ y1 ∧ y1 ≤ 255) (b2 : 0 ≤ y2 ∧ y2 ≤ 255)
    (e0 : bits .or .i64 0 y0 = y0) (e1 : bits .or .i64 (y0 * 256) y1 = y0 * 256 + y1) (e2 : bits .or .i64 ((y0 * 256 + y1) * 256) y2 = (y0 * 256 + y1) * 256 + y2) (hq : bits .andNot .i64 (g + 1) 16777215 = q) (hN : bits .or .i64 q ((y0 * 256 + y1) * 256 + y2) = N) (N0 : 0 ≤ N) (N1 : N ≤ 9007199271518208) (hv : Hid (wholeV g (cutV [y0, y1, y2]) 16777216 = N)) (c1 : ¬ (N ≤ g + 1 - 8388608 ∧ N < 9007199254740992 - 16777216)) (c2 : ¬ (g + 1 + 8388608 < N ∧ 16777216 ≤ N)) (c3 : N ≤ 9007199254740991) :
    Calls Try.prog 7 #[.int .i64 a0, .slice A n c, .int .i64 a2] w fun e w' => e = .returned (.bool true) ∧ Below w.heap.size w w' := by
  have hmk : ∀ w, (Instr.makeSlice 22 (.int .i64 3) (.int .i64 3)).run Try.prog w = .ok (.slice (some ⟨w.heap.size, 0, none⟩) 3 3) (w.alloc (.cells #[.int .u8 0, .int .u8 0, .int .u8 0] 5)) := fun _ => by kernel_rfl
  go_enter Try.func7, Try.ntmps7
  go_wp2_with (first
    | (go_at_call 18; refine (bring_any _ _ _ (by omega) (by omega)).mono ?_; rintro e w' ⟨rfl, rfl⟩)
    | ((with_reducible refine wpList_copy_splice rfl (.tmp 22) (.tmp 23) 22 22 rfl 5 Try.underlying22 (by kernel_rfl) _ _ _ _ _ _ rfl rfl w.heap.size 0 (List.replicate 3 (Value.int .u8 0)) 5 (heap_alloc_new w _) ((xs.take (Nat.min n 3)).map (Value.int .u8)) (src_len hA.out) (fun h => ⟨rfl, src_cells hA.out _ h⟩) (src_fit hA.out) (ints_oneCell _ _) w.heap.size w ((Below.refl _ _).alloc (Nat.le_refl _) _) (Nat.le_refl _) ?_)))
  intro w3 hg3 hb3
  have HB := Lib.hid (into_block (m := 3) hA.out hys.out hg3.out)
  have H3 := Lib.hid hb3
  obtain ⟨gb, hgb⟩ : ∃ gb, w.heap.size = gb := ⟨_, rfl⟩
  have HC : ∀ j, j < 3 → w3.cell? ⟨gb, 0 + j, none⟩ = some (.int .u8 (([y0, y1, y2] : List Int).getD j 0)) := by
    obtain ⟨b', off', he, hc⟩ := (HB.out).2.2 (by omega)
    injection he with he
    injection he with hbl hof
    subst hgb hbl hof
    exact hc
  have C0 := HC 0 (by omega)
  have C1 := HC 1 (by omega)
  have C2 := HC 2 (by omega)
  clear HC hg3 hb3
  simp only [List.getD_cons_zero, List.getD_cons_succ, Nat.zero_add] at C0 C1 C2
  have HB' := Lib.hid (show Bs w3 (some ⟨gb, 0, none⟩) 3 [y0, y1, y2] from hgb ▸ HB.out)
  clear HB
  simp only [hgb]
  clear hgb
  go_wp2_with fail
  refine wp_loop_rounds 5 ?_; repeat any_goals (rw [rounds_succ]; go_wp2_with fail)
  go_quiet (fail)
  go_wp2_with fail
  all_goals
    refine (whole_any g _ 3 _ [y0, y1, y2] _ (by omega) (by omega) (show Bs (World.drewN w3 _) _ _ _ from HB'.out) (by omega) (by omega)).mono ?_
    rintro e w4 ⟨rfl, k4, hk4⟩
    have H4 := Lib.hid (hk4 ▸ belowDrewN (belowDrewN H3.out _) k4)
    clear hk4
    rw [show wholeV g (cutV [y0, y1, y2]) (allV 3) = N from hv.out]
    go_wp2_with (first | (go_at_call 17; refine (works_ok _).mono ?_; rintro e w8 ⟨rfl, hb8⟩; have H8 := Lib.hid (H4.out.trans (hb8.mono H4.out.size)); clear hb8))
  all_goals
    go_ret
    exact ⟨rfl, H8.out⟩

set_option maxHeartbeats 2000000 in
theorem paper_3_4 (a0 a2 x g q N : Int) (v : Int) (A : Option Addr) (n c : Nat) (y0 y1 y2 : Int) (xs : List Int) (w : World) (hA : Hid (Bs w A n xs)) (hys : Hid (into 3 n xs = [y0, y1, y2])) (h0 : a0 % 9007199254740992 = x) (h1 : x - 1 = g) (x0 : 0 ≤ x) (x1 : x ≤ 9007199254740991) (hr : a2 % 4 = 2) (b0 : 0 ≤ y0 ∧ y0 ≤ 255) (b1 : 0 ≤ y1 ∧ y1 ≤ 255) (b2 : 0 ≤ y2 ∧ y2 ≤ 255)
    (e0 : bits .or .i64 0 y0 = y0) (e1 : bits .or .i64 (y0 * 256) y1 = y0 * 256 + y1) (e2 : bits .or .i64 ((y0 * 256 + y1) * 256) y2 = (y0 * 256 + y1) * 256 + y2) (hq : bits .andNot .i64 (g + 1) 16777215 = q) (hN : bits .or .i64 q ((y0 * 256 + y1) * 256 + y2) = N) (N0 : 0 ≤ N) (N1 : N ≤ 9007199271518208) (hv : Hid (wholeV g (cutV [y0, y1, y2]) 16777216 = v)) (c1 : ¬ (N ≤ g + 1 - 8388608 ∧ N < 9007199254740992 - 16777216)) (c2 : ¬ (g + 1 + 8388608 < N ∧ 16777216 ≤ N)) (c3 : 9007199254740991 < N) :
    Calls Try.prog 7 #[.int .i64 a0, .slice A n c, .int .i64 a2] w fun e w' => e = .returned (.bool true) ∧ Below w.heap.size w w' := by
  have hmk : ∀ w, (Instr.makeSlice 22 (.int .i64 3) (.int .i64 3)).run Try.prog w = .ok (.slice (some ⟨w.heap.size, 0, none⟩) 3 3) (w.alloc (.cells #[.int .u8 0, .int .u8 0, .int .u8 0] 5)) := fun _ => by kernel_rfl
  have d1 : ¬ N ≤ g + 1 - 8388608 := by omega
  go_enter Try.func7, Try.ntmps7
  go_wp2_with (first
    | (go_at_call 18; refine (bring_any _ _ _ (by omega) (by omega)).mono ?_; rintro e w' ⟨rfl, rfl⟩)
    | ((with_reducible refine wpList_copy_splice rfl (.tmp 22) (.tmp 23) 22 22 rfl 5 Try.underlying22 (by kernel_rfl) _ _ _ _ _ _ rfl rfl w.heap.size 0 (List.replicate 3 (Value.int .u8 0)) 5 (heap_alloc_new w _) ((xs.take (Nat.min n 3)).map (Value.int .u8)) (src_len hA.out) (fun h => ⟨rfl, src_cells hA.out _ h⟩) (src_fit hA.out) (ints_oneCell _ _) w.heap.size w ((Below.refl _ _).alloc (Nat.le_refl _) _) (Nat.le_refl _) ?_)))
  intro w3 hg3 hb3
  have HB := Lib.hid (into_block (m := 3) hA.out hys.out hg3.out)
  have H3 := Lib.hid hb3
  obtain ⟨gb, hgb⟩ : ∃ gb, w.heap.size = gb := ⟨_, rfl⟩
  have HC : ∀ j, j < 3 → w3.cell? ⟨gb, 0 + j, none⟩ = some (.int .u8 (([y0, y1, y2] : List Int).getD j 0)) := by
    obtain ⟨b', off', he, hc⟩ := (HB.out).2.2 (by omega)
    injection he with he
    injection he with hbl hof
    subst hgb hbl hof
    exact hc
  have C0 := HC 0 (by omega)
  have C1 := HC 1 (by omega)
  have C2 := HC 2 (by omega)
  clear HC hg3 hb3
  simp only [List.getD_cons_zero, List.getD_cons_succ, Nat.zero_add] at C0 C1 C2
  have HB' := Lib.hid (show Bs w3 (some ⟨gb, 0, none⟩) 3 [y0, y1, y2] from hgb ▸ HB.out)
  clear HB
  simp only [hgb]
  clear hgb
  go_wp2_with fail
  refine wp_loop_rounds 5 ?_; repeat any_goals (rw [rounds_succ]; go_wp2_with fail)
  go_quiet (fail)
  go_wp2_with fail
  all_goals
    refine (whole_any g _ 3 _ [y0, y1, y2] _ (by omega) (by omega) (show Bs (World.drewN w3 _) _ _ _ from HB'.out) (by omega) (by omega)).mono ?_
    rintro e w4 ⟨rfl, k4, hk4⟩
    have H4 := Lib.hid (hk4 ▸ belowDrewN (belowDrewN H3.out _) k4)
    clear hk4
    rw [show wholeV g (cutV [y0, y1, y2]) (allV 3) = v from hv.out]
    go_wp2_with (first | (go_at_call 17; refine (works_ok _).mono ?_; rintro e w8 ⟨rfl, hb8⟩; have H8 := Lib.hid (H4.out.trans (hb8.mono H4.out.size)); clear hb8))
  all_goals
    go_ret
    exact ⟨rfl, H8.out⟩

set_option maxHeartbeats 2000000 in
theorem paper_4_1 (a0 a2 x g q N : Int) (A : Option Addr) (n c : Nat) (y0 y1 y2 y3 : Int) (xs : List Int) (w : World) (hA : Hid (Bs w A n xs)) (hys : Hid (into 4 n xs = [y0, y1, y2, y3])) (h0 : a0 % 9007199254740992 = x) (h1 : x - 1 = g) (x0 : 0 ≤ x) (x1 : x ≤ 9007199254740991) (hr : a2 % 4 = 3) (b0 : 0 ≤ y0 ∧ y0 ≤ 255) (b1 : 0 ≤ y1 ∧ y1 ≤ 255) (b2 : 0 ≤ y2 ∧ y2 ≤ 255) (b3 : 0 ≤ y3 ∧ y3 ≤ 255)
    (e0 : bits .or .i64 0 y0 = y0) (e1 : bits .or .i64 (y0 * 256) y1 = y0 * 256 + y1) (e2 : bits .or .i64 ((y0 * 256 + y1) * 256) y2 = (y0 * 256 + y1) * 256 + y2) (e3 : bits .or .i64 (((y0 * 256 + y1) * 256 + y2) * 256) y3 = ((y0 * 256 + y1) * 256 + y2) * 256 + y3) (hq : bits .andNot .i64 (g + 1) 4294967295 = q) (hN : bits .or .i64 q (((y0 * 256 + y1) * 256 + y2) * 256 + y3) = N) (N0 : 0 ≤ N) (N1 : N ≤ 9007203549708288) (hv : Hid (wholeV g (cutV [y0, y1, y2, y3]) 4294967296 = (N + 4294967296))) (c1 : N ≤ g + 1 - 2147483648) (c2 : N < 9007199254740992 - 4294967296) :
    Calls Try.prog 7 #[.int .i64 a0, .slice A n c, .int .i64 a2] w fun e w' => e = .returned (.bool true) ∧ Below w.heap.size w w' := by
  have hmk : ∀ w, (Instr.makeSlice 22 (.int .i64 4) (.int .i64 4)).run Try.prog w = .ok (.slice (some ⟨w.heap.size, 0, none⟩) 4 4) (w.alloc (.cells #[.int .u8 0, .int .u8 0, .int .u8 0, .int .u8 0] 5)) := fun _ => by kernel_rfl
  go_enter Try.func7, Try.ntmps7
  go_wp2_with (first
    | (go_at_call 18; refine (bring_any _ _ _ (by omega) (by omega)).mono ?_; rintro e w' ⟨rfl, rfl⟩)
    | ((with_reducible refine wpList_copy_splice rfl (.tmp 22) (.tmp 23) 22 22 rfl 5 Try.underlying22 (by kernel_rfl) _ _ _ _ _ _ rfl rfl w.heap.size 0 (List.replicate 4 (Value.int .u8 0)) 5 (heap_alloc_new w _) ((xs.take (Nat.min n 4)).map (Value.int .u8)) (src_len hA.out) (fun h => ⟨rfl, src_cells hA.out _ h⟩) (src_fit hA.out) (ints_oneCell _ _) w.heap.size w ((Below.refl _ _).alloc (Nat.le_refl _) _) (Nat.le_refl _) ?_)))
  intro w3 hg3 hb3
  have HB := Lib.hid (into_block (m := 4) hA.out hys.out hg3.out)
  have H3 := Lib.hid hb3
  obtain ⟨gb, hgb⟩ : ∃ gb, w.heap.size = gb := ⟨_, rfl⟩
  have HC : ∀ j, j < 4 → w3.cell? ⟨gb, 0 + j, none⟩ = some (.int .u8 (([y0, y1, y2, y3] : List Int).getD j 0)) := by
    obtain ⟨b', off', he, hc⟩ := (HB.out).2.2 (by omega)
    injection he with he
    injection he with hbl hof
    subst hgb hbl hof
    exact hc
  have C0 := HC 0 (by omega)
  have C1 := HC 1 (by omega)
  have C2 := HC 2 (by omega)
  have C3 := HC 3 (by omega)
  clear HC hg3 hb3
  simp only [List.getD_cons_zero, List.getD_cons_succ, Nat.zero_add] at C0 C1 C2 C3
  have HB' := Lib.hid (show Bs w3 (some ⟨gb, 0, none⟩) 4 [y0, y1, y2, y3] from hgb ▸ HB.out)
  clear HB
  simp only [hgb]
  clear hgb
  go_wp2_with fail
  refine wp_loop_rounds 6 ?_; repeat any_goals (rw [rounds_succ]; go_wp2_with fail)
  go_quiet (fail)
  go_wp2_with fail
  all_goals
    refine (whole_any g _ 4 _ [y0, y1, y2, y3] _ (by omega) (by omega) (show Bs (World.drewN w3 _) _ _ _ from HB'.out) (by omega) (by omega)).mono ?_
    rintro e w4 ⟨rfl, k4, hk4⟩
    have H4 := Lib.hid (hk4 ▸ belowDrewN (belowDrewN H3.out _) k4)
    clear hk4
    rw [show wholeV g (cutV [y0, y1, y2, y3]) (allV 4) = (N + 4294967296) from hv.out]
    go_wp2_with (first | (go_at_call 17; refine (works_ok _).mono ?_; rintro e w8 ⟨rfl, hb8⟩; have H8 := Lib.hid (H4.out.trans (hb8.mono H4.out.size)); clear hb8))
  all_goals
    go_ret
    exact ⟨rfl, H8.out⟩

set_option maxHeartbeats 2000000 in
theorem paper_4_2 (a0 a2 x g q N : Int) (A : Option Addr) (n c : Nat) (y0 y1 y2 y3 : Int) (xs : List Int) (w : World) (hA : Hid (Bs w A n xs)) (hys : Hid (into 4 n xs = [y0, y1, y2, y3])) (h0 : a0 % 9007199254740992 = x) (h1 : x - 1 = g) (x0 : 0 ≤ x) (x1 : x ≤ 9007199254740991) (hr : a2 % 4 = 3) (b0 : 0 ≤ y0 ∧ y0 ≤ 255) (b1 : 0 ≤ y1 ∧ y1 ≤ 255) (b2 : 0 ≤ y2 ∧ y2 ≤ 255) (b3 : 0 ≤ y3 ∧ y3 ≤ 255)
    (e0 : bits .or .i64 0 y0 = y0) (e1 : bits .or .i64 (y0 * 256) y1 = y0 * 256 + y1) (e2 : bits .or .i64 ((y0 * 256 + y1) * 256) y2 = (y0 * 256 + y1) * 256 + y2) (e3 : bits .or .i64 (((y0 * 256 + y1) * 256 + y2) * 256) y3 = ((y0 * 256 + y1) * 256 + y2) * 256 + y3) (hq : bits .andNot .i64 (g + 1) 4294967295 = q) (hN : bits .or .i64 q (((y0 * 256 + y1) * 256 + y2) * 256 + y3) = N) (N0 : 0 ≤ N) (N1 : N ≤ 9007203549708288) (hv : Hid (wholeV g (cutV [y0, y1, y2, y3]) 4294967296 = (N - 4294967296))) (c1 : ¬ (N ≤ g + 1 - 2147483648 ∧ N < 9007199254740992 - 4294967296)) (c2 : g + 1 + 2147483648 < N) (c3 : 4294967296 ≤ N) :
    Calls Try.prog 7 #[.int .i64 a0, .slice A n c, .int .i64 a2] w fun e w' => e = .returned (.bool true) ∧ Below w.heap.size w w' := by
  have hmk : ∀ w, (Instr.makeSlice 22 (.int .i64 4) (.int .i64 4)).run Try.prog w = .ok (.slice (some ⟨w.heap.size, 0, none⟩) 4 4) (w.alloc (.cells #[.int .u8 0, .int .u8 0, .int .u8 0, .int .u8 0] 5)) := fun _ => by kernel_rfl
  have d1 : ¬ N ≤ g + 1 - 2147483648 := by omega
  go_enter Try.func7, Try.ntmps7
  go_wp2_with (first
    | (go_at_call 18; refine (bring_any _ _ _ (by omega) (by omega)).mono ?_; rintro e w' ⟨rfl, rfl⟩)
    | ((with_reducible refine wpList_copy_splice rfl (.tmp 22) (.tmp 23) 22 22 rfl 5 Try.underlying22 (by kernel_rfl) _ _ _ _ _ _ rfl rfl w.heap.size 0 (List.replicate 4 (Value.int .u8 0)) 5 (heap_alloc_new w _) ((xs.take (Nat.min n 4)).map (Value.int .u8)) (src_len hA.out) (fun h => ⟨rfl, src_cells hA.out _ h⟩) (src_fit hA.out) (ints_oneCell _ _) w.heap.size w ((Below.refl _ _).alloc (Nat.le_refl _) _) (Nat.le_refl _) ?_)))
  intro w3 hg3 hb3
  have HB := Lib.hid (into_block (m := 4) hA.out hys.out hg3.out)
  have H3 := Lib.hid hb3
  obtain ⟨gb, hgb⟩ : ∃ gb, w.heap.size = gb := ⟨_, rfl⟩
  have HC : ∀ j, j < 4 → w3.cell? ⟨gb, 0 + j, none⟩ = some (.int .u8 (([y0, y1, y2, y3] : List Int).getD j 0)) := by
    obtain ⟨b', off', he, hc⟩ := (HB.out).2.2 (by omega)
    injection he with he
    injection he with hbl hof
    subst hgb hbl hof
    exact hc
  have C0 := HC 0 (by omega)
  have C1 := HC 1 (by omega)
  have C2 := HC 2 (by omega)
  have C3 := HC 3 (by omega)
  clear HC hg3 hb3
  simp only [List.getD_cons_zero, List.getD_cons_succ, Nat.zero_add] at C0 C1 C2 C3
  have HB' := Lib.hid (show Bs w3 (some ⟨gb, 0, none⟩) 4 [y0, y1, y2, y3] from hgb ▸ HB.out)
  clear HB
  simp only [hgb]
  clear hgb
  go_wp2_with fail
  refine wp_loop_rounds 6 ?_; repeat any_goals (rw [rounds_succ]; go_wp2_with fail)
  go_quiet (fail)
  go_wp2_with fail
  all_goals
    refine (whole_any g _ 4 _ [y0, y1, y2, y3] _ (by omega) (by omega) (show Bs (World.drewN w3 _) _ _ _ from HB'.out) (by omega) (by omega)).mono ?_
    rintro e w4 ⟨rfl, k4, hk4⟩
    have H4 := Lib.hid (hk4 ▸ belowDrewN (belowDrewN H3.out _) k4)
    clear hk4
    rw [show wholeV g (cutV [y0, y1, y2, y3]) (allV 4) = (N - 4294967296) from hv.out]
    go_wp2_with (first | (go_at_call 17; refine (works_ok _).mono ?_; rintro e w8 ⟨rfl, hb8⟩; have H8 := Lib.hid (H4.out.trans (hb8.mono H4.out.size)); clear hb8))
  all_goals
    go_ret
    exact ⟨rfl, H8.out⟩

set_option maxHeartbeats 2000000 in
theorem paper_4_3 (a0 a2 x g q N : Int) (A : Option Addr) (n c : Nat) (y0 y1 y2 y3 : Int) (xs : List Int) (w : World) (hA : Hid (Bs w A n xs)) (hys : Hid (into 4 n xs = [y0, y1, y2, y3])) (h0 : a0 % 9007199254740992 = x) (h1 : x - 1 = g) (x0 : 0 ≤ x) (x1 : x ≤ 9007199254740991) (hr : a2 % 4 = 3) (b0 : 0 ≤ y0 ∧ y0 ≤ 255) (b1 : 0 ≤ y1 ∧ y1 ≤ 255) (b2 : 0 ≤ y2 ∧ y2 ≤ 255) (b3 : 0 ≤ y3 ∧ y3 ≤ 255)
    (e0 : bits .or .i64 0 y0 = y0) (e1 : bits .or .i64 (y0 * 256) y1 = y0 * 256 + y1) (e2 : bits .or .i64 ((y0 * 256 + y1) * 256) y2 = (y0 * 256 + y1) * 256 + y2) (e3 : bits .or .i64 (((y0 * 256 + y1) * 256 + y2) * 256) y3 = ((y0 * 256 + y1) * 256 + y2) * 256 + y3) (hq : bits .andNot .i64 (g + 1) 4294967295 = q) (hN : bits .or .i64 q (((y0 * 256 + y1) * 256 + y2) * 256 + y3) = N) (N0 : 0 ≤ N) (N1 : N ≤ 9007203549708288) (hv : Hid (wholeV g (cutV [y0, y1, y2, y3]) 4294967296 = N)) (c1 : ¬ (N ≤ g + 1 - 2147483648 ∧ N < 9007199254740992 - 4294967296)) (c2 : ¬ (g + 1 + 2147483648 < N ∧ 4294967296 ≤ N)) (c3 : N ≤ 9007199254740991) :
    Calls Try.prog 7 #[.int .i64 a0, .slice A n c, .int .i64 a2] w fun e w' => e = .returned (.bool true) ∧ Below w.heap.size w w' := by
  have hmk : ∀ w, (Instr.makeSlice 22 (.int .i64 4) (.int .i64 4)).run Try.prog w = .ok (.slice (some ⟨w.heap.size, 0, none⟩) 4 4) (w.alloc (.cells #[.int .u8 0, .int .u8 0, .int .u8 0, .int .u8 0] 5)) := fun _ => by kernel_rfl
  go_enter Try.func7, Try.ntmps7
  go_wp2_with (first
    | (go_at_call 18; refine (bring_any _ _ _ (by omega) (by omega)).mono ?_; rintro e w' ⟨rfl, rfl⟩)
    | ((with_reducible refine wpList_copy_splice rfl (.tmp 22) (.tmp 23) 22 22 rfl 5 Try.underlying22 (by kernel_rfl) _ _ _ _ _ _ rfl rfl w.heap.size 0 (List.replicate 4 (Value.int .u8 0)) 5 (heap_alloc_new w _) ((xs.take (Nat.min n 4)).map (Value.int .u8)) (src_len hA.out) (fun h => ⟨rfl, src_cells hA.out _ h⟩) (src_fit hA.out) (ints_oneCell _ _) w.heap.size w ((Below.refl _ _).alloc (Nat.le_refl _) _) (Nat.le_refl _) ?_)))
  intro w3 hg3 hb3
  have HB := Lib.hid (into_block (m := 4) hA.out hys.out hg3.out)
  have H3 := Lib.hid hb3
  obtain ⟨gb, hgb⟩ : ∃ gb, w.heap.size = gb := ⟨_, rfl⟩
  have HC : ∀ j, j < 4 → w3.cell? ⟨gb, 0 + j, none⟩ = some (.int .u8 (([y0, y1, y2, y3] : List Int).getD j 0)) := by
    obtain ⟨b', off', he, hc⟩ := (HB.out).2.2 (by omega)
    injection he with he
    injection he with hbl hof
    subst hgb hbl hof
    exact hc
  have C0 := HC 0 (by omega)
  have C1 := HC 1 (by omega)
  have C2 := HC 2 (by omega)
  have C3 := HC 3 (by omega)
  clear HC hg3 hb3
  simp only [List.getD_cons_zero, List.getD_cons_succ, Nat.zero_add] at C0 C1 C2 C3
  have HB' := Lib.hid (show Bs w3 (some ⟨gb, 0, none⟩) 4 [y0, y1, y2, y3] from hgb ▸ HB.out)
  clear HB
  simp only [hgb]
  clear hgb
  go_wp2_with fail
  refine wp_loop_rounds 6 ?_; repeat any_goals (rw [rounds_succ]; go_wp2_with fail)
  go_quiet (fail)
  go_wp2_with fail
  all_goals
    refine (whole_any g _ 4 _ [y0, y1, y2, y3] _ (by omega) (by omega) (show Bs (World.drewN w3 _) _ _ _ from HB'.out) (by omega) (by omega)).mono ?_
    rintro e w4 ⟨rfl, k4, hk4⟩
    have H4 := Lib.hid (hk4 ▸ belowDrewN (belowDrewN H3.out _) k4)
    clear hk4
    rw [show wholeV g (cutV [y0, y1, y2, y3]) (allV 4) = N from hv.out]
    go_wp2_with (first | (go_at_call 17; refine (works_ok _).mono ?_; rintro e w8 ⟨rfl, hb8⟩; have H8 := Lib.hid (H4.out.trans (hb8.mono H4.out.size)); clear hb8))
  all_goals
    go_ret
    exact ⟨rfl, H8.out⟩

set_option maxHeartbeats 2000000 in
theorem paper_4_4 (a0 a2 x g q N : Int) (v : Int) (A : Option Addr) (n c : Nat) (y0 y1 y2 y3 : Int) (xs : List Int) (w : World) (hA : Hid (Bs w A n xs)) (hys : Hid (into 4 n xs = [y0, y1, y2, y3])) (h0 : a0 % 9007199254740992 = x) (h1 : x - 1 = g) (x0 : 0 ≤ x) (x1 : x ≤ 9007199254740991) (hr : a2 % 4 = 3) (b0 : 0 ≤ y0 ∧ y0 ≤ 255) (b1 : 0 ≤ y1 ∧ y1 ≤ 255) (b2 : 0 ≤ y2 ∧ y2 ≤ 255) (b3 : 0 ≤ y3 ∧ y3 ≤ 255)
    (e0 : bits .or .i64 0 y0 = y0) (e1 : bits .or .i64 (y0 * 256) y1 = y0 * 256 + y1) (e2 : bits .or .i64 ((y0 * 256 + y1) * 256) y2 = (y0 * 256 + y1) * 256 + y2) (e3 : bits .or .i64 (((y0 * 256 + y1) * 256 + y2) * 256) y3 = ((y0 * 256 + y1) * 256 + y2) * 256 + y3) (hq : bits .andNot .i64 (g + 1) 4294967295 = q) (hN : bits .or .i64 q (((y0 * 256 + y1) * 256 + y2) * 256 + y3) = N) (N0 : 0 ≤ N) (N1 : N ≤ 9007203549708288) (hv : Hid (wholeV g (cutV [y0, y1, y2, y3]) 4294967296 = v)) (c1 : ¬ (N ≤ g + 1 - 2147483648 ∧ N < 9007199254740992 - 4294967296)) (c2 : ¬ (g + 1 + 2147483648 < N ∧ 4294967296 ≤ N)) (c3 : 9007199254740991 < N) :
    Calls Try.prog 7 #[.int .i64 a0, .slice A n c, .int .i64 a2] w fun e w' => e = .returned (.bool true) ∧ Below w.heap.size w w' := by
  have hmk : ∀ w, (Instr.makeSlice 22 (.int .i64 4) (.int .i64 4)).run Try.prog w = .ok (.slice (some ⟨w.heap.size, 0, none⟩) 4 4) (w.alloc (.cells #[.int .u8 0, .int .u8 0, .int .u8 0, .int .u8 0] 5)) := fun _ => by kernel_rfl
  have d1 : ¬ N ≤ g + 1 - 2147483648 := by omega
  go_enter Try.func7, Try.ntmps7
  go_wp2_with (first
    | (go_at_call 18; refine (bring_any _ _ _ (by omega) (by omega)).mono ?_; rintro e w' ⟨rfl, rfl⟩)
    | ((with_reducible refine wpList_copy_splice rfl (.tmp 22) (.tmp 23) 22 22 rfl 5 Try.underlying22 (by kernel_rfl) _ _ _ _ _ _ rfl rfl w.heap.size 0 (List.replicate 4 (Value.int .u8 0)) 5 (heap_alloc_new w _) ((xs.take (Nat.min n 4)).map (Value.int .u8)) (src_len hA.out) (fun h => ⟨rfl, src_cells hA.out _ h⟩) (src_fit hA.out) (ints_oneCell _ _) w.heap.size w ((Below.refl _ _).alloc (Nat.le_refl _) _) (Nat.le_refl _) ?_)))
  intro w3 hg3 hb3
  have HB := Lib.hid (into_block (m := 4) hA.out hys.out hg3.out)
  have H3 := Lib.hid hb3
  obtain ⟨gb, hgb⟩ : ∃ gb, w.heap.size = gb := ⟨_, rfl⟩
  have HC : ∀ j, j < 4 → w3.cell? ⟨gb, 0 + j, none⟩ = some (.int .u8 (([y0, y1, y2, y3] : List Int).getD j 0)) := by
    obtain ⟨b', off', he, hc⟩ := (HB.out).2.2 (by omega)
    injection he with he
    injection he with hbl hof
    subst hgb hbl hof
    exact hc
  have C0 := HC 0 (by omega)
  have C1 := HC 1 (by omega)
  have C2 := HC 2 (by omega)
  have C3 := HC 3 (by omega)
  clear HC hg3 hb3
  simp only [List.getD_cons_zero, List.getD_cons_succ, Nat.zero_add] at C0 C1 C2 C3
  have HB' := Lib.hid (show Bs w3 (some ⟨gb, 0, none⟩) 4 [y0, y1, y2, y3] from hgb ▸ HB.out)
  clear HB
  simp only [hgb]
  clear hgb
  go_wp2_with fail
  refine wp_loop_rounds 6 ?_; repeat any_goals (rw [rounds_succ]; go_wp2_with fail)
  go_quiet (fail)
  go_wp2_with fail
  all_goals
    refine (whole_any g _ 4 _ [y0, y1, y2, y3] _ (by omega) (by omega) (show Bs (World.drewN w3 _) _ _ _ from HB'.out) (by omega) (by omega)).mono ?_
    rintro e w4 ⟨rfl, k4, hk4⟩
    have H4 := Lib.hid (hk4 ▸ belowDrewN (belowDrewN H3.out _) k4)
    clear hk4
    rw [show wholeV g (cutV [y0, y1, y2, y3]) (allV 4) = v from hv.out]
    go_wp2_with (first | (go_at_call 17; refine (works_ok _).mono ?_; rintro e w8 ⟨rfl, hb8⟩; have H8 := Lib.hid (H4.out.trans (hb8.mono H4.out.size)); clear hb8))
  all_goals
    go_ret
    exact ⟨rfl, H8.out⟩

theorem paper_walk (a0 a2 : Int) (A : Option Addr) (n c : Nat) (xs : List Int) (w : World) (hA : Bs w A n xs) : Calls Try.prog 7 #[.int .i64 a0, .slice A n c, .int .i64 a2] w fun e w' => e = .returned (.bool true) ∧ Below w.heap.size w w' := by
  have p0 := Int.emod_nonneg a0 (b := 9007199254740992) (by decide)
  have p1 := Int.emod_lt_of_pos a0 (b := 9007199254740992) (by decide)
  obtain ⟨x, hx⟩ : ∃ x, a0 % 9007199254740992 = x := ⟨_, rfl⟩
  rw [hx] at p0 p1
  obtain ⟨g, hg⟩ : ∃ g, x - 1 = g := ⟨_, rfl⟩
  have hr : a2 % 4 = 0 ∨ a2 % 4 = 1 ∨ a2 % 4 = 2 ∨ a2 % 4 = 3 := by omega
  rcases hr with hr | hr | hr | hr
  · have yl : (into 1 n xs).length = 1 := into_len hA.1
    have yb : ∀ y ∈ into 1 n xs, 0 ≤ y ∧ y ≤ 255 := into_ok hA.2.1
    obtain ⟨ys, hys⟩ : ∃ ys, into 1 n xs = ys := ⟨_, rfl⟩
    rw [hys] at yl yb
    match ys, yl with
    | [y0], _ =>
      have B0 := yb y0 (by simp)
      clear yb
      obtain ⟨N, hN⟩ : ∃ N, bits .or .i64 ((g + 1) / 256 * 256) y0 = N := ⟨_, rfl⟩
      have hN2 : (g + 1) / 256 * 256 + y0 = N := by rw [← hN]; exact (or8 _ _ (by omega) (by omega) (by omega) (by omega) (by omega)).symm
      have hq : bits .andNot .i64 (g + 1) 255 = (g + 1) / 256 * 256 := andNot8 (g + 1) (by omega) (by omega)
      have hw : wholeV g (cutV [y0]) 256 = pickV N (g + 1) 256 := by
        rw [whole_pick, ← hN2]
        have e : cutV [y0] = y0 := by simp [cutV]
        rw [e]
      have N0 : 0 ≤ N := by omega
      have N1 : N ≤ 9007199254741248 := by omega
      by_cases c1 : N ≤ g + 1 - 128 ∧ N < 9007199254740992 - 256
      · exact paper_1_1 a0 a2 x g _ N A n c y0 xs w hA hys hx hg p0 (by omega) hr B0 (by rw [or8 0 y0 (by omega) (by omega) (by omega) B0.1 (by omega)]; omega) hq hN N0 N1 (hw.trans (pickV_up (by omega) (by omega))) c1.1 c1.2
      · by_cases c2 : g + 1 + 128 < N ∧ 256 ≤ N
        · exact paper_1_2 a0 a2 x g _ N A n c y0 xs w hA hys hx hg p0 (by omega) hr B0 (by rw [or8 0 y0 (by omega) (by omega) (by omega) B0.1 (by omega)]; omega) hq hN N0 N1 (hw.trans (pickV_down (by omega) (by omega) (by omega))) c1 c2.1 c2.2
        · by_cases c3 : N ≤ 9007199254740991
          · exact paper_1_3 a0 a2 x g _ N A n c y0 xs w hA hys hx hg p0 (by omega) hr B0 (by rw [or8 0 y0 (by omega) (by omega) (by omega) B0.1 (by omega)]; omega) hq hN N0 N1 (hw.trans (pickV_stay (by omega) (by omega))) c1 c2 c3
          · exact paper_1_4 a0 a2 x g _ N _ A n c y0 xs w hA hys hx hg p0 (by omega) hr B0 (by rw [or8 0 y0 (by omega) (by omega) (by omega) B0.1 (by omega)]; omega) hq hN N0 N1 rfl c1 c2 (by omega)
  · have yl : (into 2 n xs).length = 2 := into_len hA.1
    have yb : ∀ y ∈ into 2 n xs, 0 ≤ y ∧ y ≤ 255 := into_ok hA.2.1
    obtain ⟨ys, hys⟩ : ∃ ys, into 2 n xs = ys := ⟨_, rfl⟩
    rw [hys] at yl yb
    match ys, yl with
    | [y0, y1], _ =>
      have B0 := yb y0 (by simp)
      have B1 := yb y1 (by simp)
      clear yb
      obtain ⟨N, hN⟩ : ∃ N, bits .or .i64 ((g + 1) / 65536 * 65536) (y0 * 256 + y1) = N := ⟨_, rfl⟩
      have hN2 : (g + 1) / 65536 * 65536 + (y0 * 256 + y1) = N := by rw [← hN]; exact (or16 _ _ (by omega) (by omega) (by omega) (by omega) (by omega)).symm
      have hq : bits .andNot .i64 (g + 1) 65535 = (g + 1) / 65536 * 65536 := andNot16 (g + 1) (by omega) (by omega)
      have hw : wholeV g (cutV [y0, y1]) 65536 = pickV N (g + 1) 65536 := by
        rw [whole_pick, ← hN2]
        have e : cutV [y0, y1] = y0 * 256 + y1 := by simp [cutV]
        rw [e]
      have N0 : 0 ≤ N := by omega
      have N1 : N ≤ 9007199254806528 := by omega
      by_cases c1 : N ≤ g + 1 - 32768 ∧ N < 9007199254740992 - 65536
      · exact paper_2_1 a0 a2 x g _ N A n c y0 y1 xs w hA hys hx hg p0 (by omega) hr B0 B1 (by rw [or8 0 y0 (by omega) (by omega) (by omega) B0.1 (by omega)]; omega) (or8 _ _ (by omega) (by omega) (by omega) B1.1 (by omega)) hq hN N0 N1 (hw.trans (pickV_up (by omega) (by omega))) c1.1 c1.2
      · by_cases c2 : g + 1 + 32768 < N ∧ 65536 ≤ N
        · exact paper_2_2 a0 a2 x g _ N A n c y0 y1 xs w hA hys hx hg p0 (by omega) hr B0 B1 (by rw [or8 0 y0 (by omega) (by omega) (by omega) B0.1 (by omega)]; omega) (or8 _ _ (by omega) (by omega) (by omega) B1.1 (by omega)) hq hN N0 N1 (hw.trans (pickV_down (by omega) (by omega) (by omega))) c1 c2.1 c2.2
        · by_cases c3 : N ≤ 9007199254740991
          · exact paper_2_3 a0 a2 x g _ N A n c y0 y1 xs w hA hys hx hg p0 (by omega) hr B0 B1 (by rw [or8 0 y0 (by omega) (by omega) (by omega) B0.1 (by omega)]; omega) (or8 _ _ (by omega) (by omega) (by omega) B1.1 (by omega)) hq hN N0 N1 (hw.trans (pickV_stay (by omega) (by omega))) c1 c2 c3
          · exact paper_2_4 a0 a2 x g _ N _ A n c y0 y1 xs w hA hys hx hg p0 (by omega) hr B0 B1 (by rw [or8 0 y0 (by omega) (by omega) (by omega) B0.1 (by omega)]; omega) (or8 _ _ (by omega) (by omega) (by omega) B1.1 (by omega)) hq hN N0 N1 rfl c1 c2 (by omega)
  · have yl : (into 3 n xs).length = 3 := into_len hA.1
    have yb : ∀ y ∈ into 3 n xs, 0 ≤ y ∧ y ≤ 255 := into_ok hA.2.1
    obtain ⟨ys, hys⟩ : ∃ ys, into 3 n xs = ys := ⟨_, rfl⟩
    rw [hys] at yl yb
    match ys, yl with
    | [y0, y1, y2], _ =>
      have B0 := yb y0 (by simp)
      have B1 := yb y1 (by simp)
      have B2 := yb y2 (by simp)
      clear yb
      obtain ⟨N, hN⟩ : ∃ N, bits .or .i64 ((g + 1) / 16777216 * 16777216) ((y0 * 256 + y1) * 256 + y2) = N := ⟨_, rfl⟩
      have hN2 : (g + 1) / 16777216 * 16777216 + ((y0 * 256 + y1) * 256 + y2) = N := by rw [← hN]; exact (or24 _ _ (by omega) (by omega) (by omega) (by omega) (by omega)).symm
      have hq : bits .andNot .i64 (g + 1) 16777215 = (g + 1) / 16777216 * 16777216 := andNot24 (g + 1) (by omega) (by omega)
      have hw : wholeV g (cutV [y0, y1, y2]) 16777216 = pickV N (g + 1) 16777216 := by
        rw [whole_pick, ← hN2]
        have e : cutV [y0, y1, y2] = (y0 * 256 + y1) * 256 + y2 := by simp [cutV]
        rw [e]
      have N0 : 0 ≤ N := by omega
      have N1 : N ≤ 9007199271518208 := by omega
      by_cases c1 : N ≤ g + 1 - 8388608 ∧ N < 9007199254740992 - 16777216
      · exact paper_3_1 a0 a2 x g _ N A n c y0 y1 y2 xs w hA hys hx hg p0 (by omega) hr B0 B1 B2 (by rw [or8 0 y0 (by omega) (by omega) (by omega) B0.1 (by omega)]; omega) (or8 _ _ (by omega) (by omega) (by omega) B1.1 (by omega)) (or8 _ _ (by omega) (by omega) (by omega) B2.1 (by omega)) hq hN N0 N1 (hw.trans (pickV_up (by omega) (by omega))) c1.1 c1.2
      · by_cases c2 : g + 1 + 8388608 < N ∧ 16777216 ≤ N
        · exact paper_3_2 a0 a2 x g _ N A n c y0 y1 y2 xs w hA hys hx hg p0 (by omega) hr B0 B1 B2 (by rw [or8 0 y0 (by omega) (by omega) (by omega) B0.1 (by omega)]; omega) (or8 _ _ (by omega) (by omega) (by omega) B1.1 (by omega)) (or8 _ _ (by omega) (by omega) (by omega) B2.1 (by omega)) hq hN N0 N1 (hw.trans (pickV_down (by omega) (by omega) (by omega))) c1 c2.1 c2.2
        · by_cases c3 : N ≤ 9007199254740991
          · exact paper_3_3 a0 a2 x g _ N A n c y0 y1 y2 xs w hA hys hx hg p0 (by omega) hr B0 B1 B2 (by rw [or8 0 y0 (by omega) (by omega) (by omega) B0.1 (by omega)]; omega) (or8 _ _ (by omega) (by omega) (by omega) B1.1 (by omega)) (or8 _ _ (by omega) (by omega) (by omega) B2.1 (by omega)) hq hN N0 N1 (hw.trans (pickV_stay (by omega) (by omega))) c1 c2 c3
          · exact paper_3_4 a0 a2 x g _ N _ A n c y0 y1 y2 xs w hA hys hx hg p0 (by omega) hr B0 B1 B2 (by rw [or8 0 y0 (by omega) (by omega) (by omega) B0.1 (by omega)]; omega) (or8 _ _ (by omega) (by omega) (by omega) B1.1 (by omega)) (or8 _ _ (by omega) (by omega) (by omega) B2.1 (by omega)) hq hN N0 N1 rfl c1 c2 (by omega)
  · have yl : (into 4 n xs).length = 4 := into_len hA.1
    have yb : ∀ y ∈ into 4 n xs, 0 ≤ y ∧ y ≤ 255 := into_ok hA.2.1
    obtain ⟨ys, hys⟩ : ∃ ys, into 4 n xs = ys := ⟨_, rfl⟩
    rw [hys] at yl yb
    match ys, yl with
    | [y0, y1, y2, y3], _ =>
      have B0 := yb y0 (by simp)
      have B1 := yb y1 (by simp)
      have B2 := yb y2 (by simp)
      have B3 := yb y3 (by simp)
      clear yb
      obtain ⟨N, hN⟩ : ∃ N, bits .or .i64 ((g + 1) / 4294967296 * 4294967296) (((y0 * 256 + y1) * 256 + y2) * 256 + y3) = N := ⟨_, rfl⟩
      have hN2 : (g + 1) / 4294967296 * 4294967296 + (((y0 * 256 + y1) * 256 + y2) * 256 + y3) = N := by rw [← hN]; exact (or32 _ _ (by omega) (by omega) (by omega) (by omega) (by omega)).symm
      have hq : bits .andNot .i64 (g + 1) 4294967295 = (g + 1) / 4294967296 * 4294967296 := andNot32 (g + 1) (by omega) (by omega)
      have hw : wholeV g (cutV [y0, y1, y2, y3]) 4294967296 = pickV N (g + 1) 4294967296 := by
        rw [whole_pick, ← hN2]
        have e : cutV [y0, y1, y2, y3] = ((y0 * 256 + y1) * 256 + y2) * 256 + y3 := by simp [cutV]
        rw [e]
      have N0 : 0 ≤ N := by omega
      have N1 : N ≤ 9007203549708288 := by omega
      by_cases c1 : N ≤ g + 1 - 2147483648 ∧ N < 9007199254740992 - 4294967296
      · exact paper_4_1 a0 a2 x g _ N A n c y0 y1 y2 y3 xs w hA hys hx hg p0 (by omega) hr B0 B1 B2 B3 (by rw [or8 0 y0 (by omega) (by omega) (by omega) B0.1 (by omega)]; omega) (or8 _ _ (by omega) (by omega) (by omega) B1.1 (by omega)) (or8 _ _ (by omega) (by omega) (by omega) B2.1 (by omega)) (or8 _ _ (by omega) (by omega) (by omega) B3.1 (by omega)) hq hN N0 N1 (hw.trans (pickV_up (by omega) (by omega))) c1.1 c1.2
      · by_cases c2 : g + 1 + 2147483648 < N ∧ 4294967296 ≤ N
        · exact paper_4_2 a0 a2 x g _ N A n c y0 y1 y2 y3 xs w hA hys hx hg p0 (by omega) hr B0 B1 B2 B3 (by rw [or8 0 y0 (by omega) (by omega) (by omega) B0.1 (by omega)]; omega) (or8 _ _ (by omega) (by omega) (by omega) B1.1 (by omega)) (or8 _ _ (by omega) (by omega) (by omega) B2.1 (by omega)) (or8 _ _ (by omega) (by omega) (by omega) B3.1 (by omega)) hq hN N0 N1 (hw.trans (pickV_down (by omega) (by omega) (by omega))) c1 c2.1 c2.2
        · by_cases c3 : N ≤ 9007199254740991
          · exact paper_4_3 a0 a2 x g _ N A n c y0 y1 y2 y3 xs w hA hys hx hg p0 (by omega) hr B0 B1 B2 B3 (by rw [or8 0 y0 (by omega) (by omega) (by omega) B0.1 (by omega)]; omega) (or8 _ _ (by omega) (by omega) (by omega) B1.1 (by omega)) (or8 _ _ (by omega) (by omega) (by omega) B2.1 (by omega)) (or8 _ _ (by omega) (by omega) (by omega) B3.1 (by omega)) hq hN N0 N1 (hw.trans (pickV_stay (by omega) (by omega))) c1 c2 c3
          · exact paper_4_4 a0 a2 x g _ N _ A n c y0 y1 y2 y3 xs w hA hys hx hg p0 (by omega) hr B0 B1 B2 B3 (by rw [or8 0 y0 (by omega) (by omega) (by omega) B0.1 (by omega)]; omega) (or8 _ _ (by omega) (by omega) (by omega) B1.1 (by omega)) (or8 _ _ (by omega) (by omega) (by omega) B2.1 (by omega)) (or8 _ _ (by omega) (by omega) (by omega) B3.1 (by omega)) hq hN N0 N1 rfl c1 c2 (by omega)
end Go.Proofs.Ytgmgbhpecnmfeaa
