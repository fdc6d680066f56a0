/-
  Contracts of Cut, and of the reference's Cut.
-/
import Derived.Test.YtgmgbhpecnmfeaaA
namespace Go.Proofs.Ytgmgbhpecnmfeaa
open Go.RowKit (wrap32 wrap64)
open Go.RowKit
set_option linter.unusedVariables false

theorem cut_range (full n : Int) (w : World) (h : full < 0 ∨ 9007199254740991 < full) :
    Calls Try.prog 11 #[.int .i64 full, .int .i64 n] w fun e w' => e = .returned (.tuple #[.slice none 0 0, .int .i64 9]) ∧ w = w' := by
  rcases h with h | h
  · go_enter Try.func11, Try.ntmps11
    go_wp2
    all_goals
      go_ret2
      exact ⟨rfl, rfl⟩
  · have h0 : 0 ≤ full := by omega
    have h2 : decide (full ≤ 9007199254740991) = false := by rw [decide_eq_false_iff_not]; omega
    go_enter Try.func11, Try.ntmps11
    go_wp2
    all_goals
      go_ret2
      exact ⟨rfl, rfl⟩
theorem cut_arg (full n : Int) (w : World) (h0 : 0 ≤ full) (h1 : full ≤ 9007199254740991) (h : n < 1 ∨ 4 < n) :
    Calls Try.prog 11 #[.int .i64 full, .int .i64 n] w fun e w' => e = .returned (.tuple #[.slice none 0 0, .int .i64 2]) ∧ w = w' := by
  rcases h with h | h
  all_goals
    go_enter Try.func11, Try.ntmps11
    go_wp2
    all_goals
      go_ret2
      exact ⟨rfl, rfl⟩
theorem cut_1 (full : Int) (w : World) (h0 : 0 ≤ full) (h1 : full ≤ 9007199254740991) :
    Calls Try.prog 11 #[.int .i64 full, .int .i64 1] w fun e w' => e = .returned (.tuple #[.slice (some ⟨w.heap.size, 3, none⟩) 1 1, .int .i64 0]) ∧ w.alloc (.cells #[.int .u8 (full / 16777216 % 256), .int .u8 (full / 65536 % 256), .int .u8 (full / 256 % 256), .int .u8 (full % 256)] 41) = w' := by
  go_enter Try.func11, Try.ntmps11
  go_wp2
  go_ret2
  exact ⟨rfl, rfl⟩
theorem cut_2 (full : Int) (w : World) (h0 : 0 ≤ full) (h1 : full ≤ 9007199254740991) :
    Calls Try.prog 11 #[.int .i64 full, .int .i64 2] w fun e w' => e = .returned (.tuple #[.slice (some ⟨w.heap.size, 2, none⟩) 2 2, .int .i64 0]) ∧ w.alloc (.cells #[.int .u8 (full / 16777216 % 256), .int .u8 (full / 65536 % 256), .int .u8 (full / 256 % 256), .int .u8 (full % 256)] 41) = w' := by
  go_enter Try.func11, Try.ntmps11
  go_wp2
  go_ret2
  exact ⟨rfl, rfl⟩
theorem cut_3 (full : Int) (w : World) (h0 : 0 ≤ full) (h1 : full ≤ 9007199254740991) :
    Calls Try.prog 11 #[.int .i64 full, .int .i64 3] w fun e w' => e = .returned (.tuple #[.slice (some ⟨w.heap.size, 1, none⟩) 3 3, .int .i64 0]) ∧ w.alloc (.cells #[.int .u8 (full / 16777216 % 256), .int .u8 (full / 65536 % 256), .int .u8 (full / 256 % 256), .int .u8 (full % 256)] 41) = w' := by
  go_enter Try.func11, Try.ntmps11
  go_wp2
  go_ret2
  exact ⟨rfl, rfl⟩
theorem cut_4 (full : Int) (w : World) (h0 : 0 ≤ full) (h1 : full ≤ 9007199254740991) :
    Calls Try.prog 11 #[.int .i64 full, .int .i64 4] w fun e w' => e = .returned (.tuple #[.slice (some ⟨w.heap.size, 0, none⟩) 4 4, .int .i64 0]) ∧ w.alloc (.cells #[.int .u8 (full / 16777216 % 256), .int .u8 (full / 65536 % 256), .int .u8 (full / 256 % 256), .int .u8 (full % 256)] 41) = w' := by
  go_enter Try.func11, Try.ntmps11
  go_wp2
  go_ret2
  exact ⟨rfl, rfl⟩
theorem rcut_range (full n : Int) (w : World) (h : full < 0 ∨ 9007199254740991 < full) :
    Calls Try.prog 12 #[.int .i64 full, .int .i64 n] w fun e w' => e = .returned (.tuple #[.slice none 0 0, .int .i64 9]) ∧ w = w' := by
  rcases h with h | h
  · go_enter Try.func12, Try.ntmps12
    go_wp2
    all_goals
      go_ret2
      exact ⟨rfl, rfl⟩
  · have h0 : 0 ≤ full := by omega
    have h2 : decide (full ≤ 9007199254740991) = false := by rw [decide_eq_false_iff_not]; omega
    go_enter Try.func12, Try.ntmps12
    go_wp2
    all_goals
      go_ret2
      exact ⟨rfl, rfl⟩
theorem rcut_arg (full n : Int) (w : World) (h0 : 0 ≤ full) (h1 : full ≤ 9007199254740991) (h : n < 1 ∨ 4 < n) :
    Calls Try.prog 12 #[.int .i64 full, .int .i64 n] w fun e w' => e = .returned (.tuple #[.slice none 0 0, .int .i64 2]) ∧ w = w' := by
  rcases h with h | h
  all_goals
    go_enter Try.func12, Try.ntmps12
    go_wp2
    all_goals
      go_ret2
      exact ⟨rfl, rfl⟩
theorem rcut_1 (full : Int) (w : World) (h0 : 0 ≤ full) (h1 : full ≤ 9007199254740991) :
    Calls Try.prog 12 #[.int .i64 full, .int .i64 1] w fun e w' => e = .returned (.tuple #[.slice (some ⟨w.heap.size, 0, none⟩) 1 1, .int .i64 0]) ∧ w.alloc (.cells #[.int .u8 (full % 256)] 5) = w' := by
  have hmk : ∀ w, (Instr.makeSlice 22 (.int .i64 1) (.int .i64 1)).run Try.prog w = .ok (.slice (some ⟨w.heap.size, 0, none⟩) 1 1) (w.alloc (.cells #[.int .u8 0] 5)) := fun _ => by kernel_rfl
  go_enter Try.func12, Try.ntmps12
  go_wp2
  go_rounds 3
  go_ret2
  exact ⟨rfl, rfl⟩
theorem rcut_2 (full : Int) (w : World) (h0 : 0 ≤ full) (h1 : full ≤ 9007199254740991) :
    Calls Try.prog 12 #[.int .i64 full, .int .i64 2] w fun e w' => e = .returned (.tuple #[.slice (some ⟨w.heap.size, 0, none⟩) 2 2, .int .i64 0]) ∧ w.alloc (.cells #[.int .u8 (full / 256 % 256), .int .u8 (full % 256)] 5) = w' := by
  have hmk : ∀ w, (Instr.makeSlice 22 (.int .i64 2) (.int .i64 2)).run Try.prog w = .ok (.slice (some ⟨w.heap.size, 0, none⟩) 2 2) (w.alloc (.cells #[.int .u8 0, .int .u8 0] 5)) := fun _ => by kernel_rfl
  go_enter Try.func12, Try.ntmps12
  go_wp2
  go_rounds 4
  go_ret2
  exact ⟨rfl, rfl⟩
theorem rcut_3 (full : Int) (w : World) (h0 : 0 ≤ full) (h1 : full ≤ 9007199254740991) :
    Calls Try.prog 12 #[.int .i64 full, .int .i64 3] w fun e w' => e = .returned (.tuple #[.slice (some ⟨w.heap.size, 0, none⟩) 3 3, .int .i64 0]) ∧ w.alloc (.cells #[.int .u8 (full / 65536 % 256), .int .u8 (full / 256 % 256), .int .u8 (full % 256)] 5) = w' := by
  have hmk : ∀ w, (Instr.makeSlice 22 (.int .i64 3) (.int .i64 3)).run Try.prog w = .ok (.slice (some ⟨w.heap.size, 0, none⟩) 3 3) (w.alloc (.cells #[.int .u8 0, .int .u8 0, .int .u8 0] 5)) := fun _ => by kernel_rfl
  go_enter Try.func12, Try.ntmps12
  go_wp2
  go_rounds 5
  go_ret2
  have e1 : full / 256 / 256 = full / 65536 := by omega
  exact ⟨rfl, by rw [← e1]⟩
theorem rcut_4 (full : Int) (w : World) (h0 : 0 ≤ full) (h1 : full ≤ 9007199254740991) :
    Calls Try.prog 12 #[.int .i64 full, .int .i64 4] w fun e w' => e = .returned (.tuple #[.slice (some ⟨w.heap.size, 0, none⟩) 4 4, .int .i64 0]) ∧ w.alloc (.cells #[.int .u8 (full / 16777216 % 256), .int .u8 (full / 65536 % 256), .int .u8 (full / 256 % 256), .int .u8 (full % 256)] 5) = w' := by
  have hmk : ∀ w, (Instr.makeSlice 22 (.int .i64 4) (.int .i64 4)).run Try.prog w = .ok (.slice (some ⟨w.heap.size, 0, none⟩) 4 4) (w.alloc (.cells #[.int .u8 0, .int .u8 0, .int .u8 0, .int .u8 0] 5)) := fun _ => by kernel_rfl
  go_enter Try.func12, Try.ntmps12
  go_wp2
  go_rounds 6
  go_ret2
  have e1 : full / 256 / 256 = full / 65536 := by omega
  have e2 : full / 256 / 256 / 256 = full / 16777216 := by omega
  exact ⟨rfl, by rw [← e2, ← e1]⟩
end Go.Proofs.Ytgmgbhpecnmfeaa
