/-
  Contracts of Whole: what it answers behind each greatest number, of 1 to 4 bytes; and its errors.
-/
import Derived.Test.YtgmgbhpecnmfeaaA
import Derived.Test.YtgmgbhpecnmfeaaN
import Derived.Test.YtgmgbhpecnmfeaaP
namespace Go.Proofs.Ytgmgbhpecnmfeaa
open Go.RowKit (wrap32 wrap64)
open Go.RowKit
set_option linter.unusedVariables false

/-- A slice of n bytes, as a list of numbers. -/
def Bs (w : World) (A : Option Addr) (n : Nat) (xs : List Int) : Prop :=
  xs.length = n ∧ (∀ x ∈ xs, 0 ≤ x ∧ x ≤ 255) ∧ (0 < n → ∃ b off, A = some ⟨b, off, none⟩ ∧ ∀ j, j < n → w.cell? ⟨b, off + j, none⟩ = some (.int .u8 (xs.getD j 0)))
def cutV (xs : List Int) : Int := xs.foldl (fun a x => a * 256 + x) 0
def allV (n : Nat) : Int := if n = 1 then 256 else if n = 2 then 65536 else if n = 3 then 16777216 else 4294967296

theorem whole_range (g : Int) (A : Option Addr) (n c : Nat) (w : World) (h : g < -1 ∨ 9007199254740991 < g) :
    Calls Try.prog 15 #[.int .i64 g, .slice A n c] w fun e w' => e = .returned (.tuple #[.int .i64 0, .int .i64 9]) ∧ w = w' := by
  have gn : ¬ g = -1 := by omega
  rcases h with h | h
  · go_enter Try.func15, Try.ntmps15
    go_wp2
    all_goals
      go_ret2
      exact ⟨rfl, rfl⟩
  · have h0 : 0 ≤ g := by omega
    have h2 : decide (g ≤ 9007199254740991) = false := by rw [decide_eq_false_iff_not]; omega
    go_enter Try.func15, Try.ntmps15
    go_wp2
    all_goals
      go_ret2
      exact ⟨rfl, rfl⟩
theorem whole_arg (g : Int) (A : Option Addr) (n c : Nat) (w : World) (g0 : -1 ≤ g) (g1 : g ≤ 9007199254740991) (h : n = 0 ∨ 4 < n) :
    Calls Try.prog 15 #[.int .i64 g, .slice A n c] w fun e w' => e = .returned (.tuple #[.int .i64 0, .int .i64 2]) ∧ w = w' := by
  by_cases hg : g = -1
  · subst hg
    rcases h with h | h
    · subst h
      go_enter Try.func15, Try.ntmps15
      go_wp2
      all_goals
        go_ret2
        exact ⟨rfl, rfl⟩
    · go_enter Try.func15, Try.ntmps15
      go_wp2
      all_goals
        go_ret2
        exact ⟨rfl, rfl⟩
  · have h0 : 0 ≤ g := by omega
    rcases h with h | h
    · subst h
      go_enter Try.func15, Try.ntmps15
      go_wp2
      all_goals
        go_ret2
        exact ⟨rfl, rfl⟩
    · go_enter Try.func15, Try.ntmps15
      go_wp2
      all_goals
        go_ret2
        exact ⟨rfl, rfl⟩

theorem whole_core_1 (g q N : Int) (b off c : Nat) (x0 : Int) (w : World) (g0 : 0 ≤ g) (g1 : g ≤ 9007199254740991) (a0 : 0 ≤ x0) (b0 : x0 ≤ 255)
    (c0 : w.cell? ⟨b, off, none⟩ = some (.int .u8 x0))
    (e0 : bits .or .i64 0 x0 = x0) (hq : bits .andNot .i64 (g + 1) 255 = q) (hN : bits .or .i64 q x0 = N) (N0 : 0 ≤ N) (N1 : N ≤ 9007199254741248) :
    Calls Try.prog 15 #[.int .i64 g, .slice (some ⟨b, off, none⟩) 1 c] w fun e w' => e = .returned (.tuple #[.int .i64 (pickV N (g + 1) 256), .int .i64 0]) ∧ ∃ n, w.drewN n = w' := by
  have gn : ¬ g = -1 := by omega
  go_enter Try.func15, Try.ntmps15
  go_wp2
  go_rounds 3
  go_quiet (fail)
  go_wp2
  all_goals
    go_ret2
    refine ⟨?_, _, rfl⟩
    first | (rw [pickV_up (by omega) (by omega)]; rfl) | (rw [pickV_down (by omega) (by omega) (by omega)]; rfl) | (rw [pickV_stay (by omega) (by omega)]; rfl)
theorem whole_none_1 (b off c : Nat) (x0 : Int) (w : World) (a0 : 0 ≤ x0) (b0 : x0 ≤ 255)
    (c0 : w.cell? ⟨b, off, none⟩ = some (.int .u8 x0))
    (e0 : bits .or .i64 0 x0 = x0) (hq : bits .andNot .i64 0 255 = 0) :
    Calls Try.prog 15 #[.int .i64 (-1), .slice (some ⟨b, off, none⟩) 1 c] w fun e w' => e = .returned (.tuple #[.int .i64 (pickV x0 0 256), .int .i64 0]) ∧ ∃ n, w.drewN n = w' := by
  go_enter Try.func15, Try.ntmps15
  go_wp2
  go_rounds 3
  go_quiet (fail)
  go_wp2
  all_goals
    go_ret2
    refine ⟨?_, _, rfl⟩
    first | (rw [pickV_up (by omega) (by omega)]; rfl) | (rw [pickV_down (by omega) (by omega) (by omega)]; rfl) | (rw [pickV_stay (by omega) (by omega)]; rfl)
theorem whole_1 (g : Int) (b off c : Nat) (x0 : Int) (w : World) (g0 : -1 ≤ g) (g1 : g ≤ 9007199254740991) (a0 : 0 ≤ x0) (b0 : x0 ≤ 255)
    (c0 : w.cell? ⟨b, off, none⟩ = some (.int .u8 x0)) :
    Calls Try.prog 15 #[.int .i64 g, .slice (some ⟨b, off, none⟩) 1 c] w fun e w' => e = .returned (.tuple #[.int .i64 (wholeV g x0 256), .int .i64 0]) ∧ ∃ n, w.drewN n = w' := by
  rw [whole_pick]
  by_cases hg : g = -1
  · subst hg
    have key := whole_none_1 b off c x0 w a0 b0 c0
      (by rw [or8 0 x0 (by omega) (by omega) (by omega) a0 (by omega)]; omega) (by rw [andNot8 0 (by omega) (by omega)]; omega) 
    have ez : (-1 + 1 : Int) / 256 * 256 + x0 = x0 := by omega
    rw [ez]; exact key
  · exact whole_core_1 g _ _ b off c x0 w (by omega) g1 a0 b0 c0
      (by rw [or8 0 x0 (by omega) (by omega) (by omega) a0 (by omega)]; omega) (andNot8 (g + 1) (by omega) (by omega)) (or8 _ _ (by omega) (by omega) (by omega) (by omega) (by omega)) (by omega) (by omega)

theorem whole_core_2 (g q N : Int) (b off c : Nat) (x0 x1 : Int) (w : World) (g0 : 0 ≤ g) (g1 : g ≤ 9007199254740991) (a0 : 0 ≤ x0) (b0 : x0 ≤ 255) (a1 : 0 ≤ x1) (b1 : x1 ≤ 255)
    (c0 : w.cell? ⟨b, off, none⟩ = some (.int .u8 x0)) (c1 : w.cell? ⟨b, off + 1, none⟩ = some (.int .u8 x1))
    (e0 : bits .or .i64 0 x0 = x0) (e1 : bits .or .i64 (x0 * 256) x1 = x0 * 256 + x1) (hq : bits .andNot .i64 (g + 1) 65535 = q) (hN : bits .or .i64 q (x0 * 256 + x1) = N) (N0 : 0 ≤ N) (N1 : N ≤ 9007199254806528) :
    Calls Try.prog 15 #[.int .i64 g, .slice (some ⟨b, off, none⟩) 2 c] w fun e w' => e = .returned (.tuple #[.int .i64 (pickV N (g + 1) 65536), .int .i64 0]) ∧ ∃ n, w.drewN n = w' := by
  have gn : ¬ g = -1 := by omega
  go_enter Try.func15, Try.ntmps15
  go_wp2
  go_rounds 4
  go_quiet (fail)
  go_wp2
  all_goals
    go_ret2
    refine ⟨?_, _, rfl⟩
    first | (rw [pickV_up (by omega) (by omega)]; rfl) | (rw [pickV_down (by omega) (by omega) (by omega)]; rfl) | (rw [pickV_stay (by omega) (by omega)]; rfl)
theorem whole_none_2 (N : Int) (b off c : Nat) (x0 x1 : Int) (w : World) (a0 : 0 ≤ x0) (b0 : x0 ≤ 255) (a1 : 0 ≤ x1) (b1 : x1 ≤ 255)
    (c0 : w.cell? ⟨b, off, none⟩ = some (.int .u8 x0)) (c1 : w.cell? ⟨b, off + 1, none⟩ = some (.int .u8 x1))
    (e0 : bits .or .i64 0 x0 = x0) (e1 : bits .or .i64 (x0 * 256) x1 = x0 * 256 + x1) (hq : bits .andNot .i64 0 65535 = 0) (hN : bits .or .i64 0 (x0 * 256 + x1) = N) (N0 : 0 ≤ N) (N1 : N ≤ 65535) :
    Calls Try.prog 15 #[.int .i64 (-1), .slice (some ⟨b, off, none⟩) 2 c] w fun e w' => e = .returned (.tuple #[.int .i64 (pickV N 0 65536), .int .i64 0]) ∧ ∃ n, w.drewN n = w' := by
  go_enter Try.func15, Try.ntmps15
  go_wp2
  go_rounds 4
  go_quiet (fail)
  go_wp2
  all_goals
    go_ret2
    refine ⟨?_, _, rfl⟩
    first | (rw [pickV_up (by omega) (by omega)]; rfl) | (rw [pickV_down (by omega) (by omega) (by omega)]; rfl) | (rw [pickV_stay (by omega) (by omega)]; rfl)
theorem whole_2 (g : Int) (b off c : Nat) (x0 x1 : Int) (w : World) (g0 : -1 ≤ g) (g1 : g ≤ 9007199254740991) (a0 : 0 ≤ x0) (b0 : x0 ≤ 255) (a1 : 0 ≤ x1) (b1 : x1 ≤ 255)
    (c0 : w.cell? ⟨b, off, none⟩ = some (.int .u8 x0)) (c1 : w.cell? ⟨b, off + 1, none⟩ = some (.int .u8 x1)) :
    Calls Try.prog 15 #[.int .i64 g, .slice (some ⟨b, off, none⟩) 2 c] w fun e w' => e = .returned (.tuple #[.int .i64 (wholeV g (x0 * 256 + x1) 65536), .int .i64 0]) ∧ ∃ n, w.drewN n = w' := by
  rw [whole_pick]
  by_cases hg : g = -1
  · subst hg
    exact whole_none_2 _ b off c x0 x1 w a0 b0 a1 b1 c0 c1
      (by rw [or8 0 x0 (by omega) (by omega) (by omega) a0 (by omega)]; omega) (or8 _ _ (by omega) (by omega) (by omega) a1 (by omega)) (by rw [andNot16 0 (by omega) (by omega)]; omega) (by rw [or16 0 _ (by omega) (by omega) (by omega) (by omega) (by omega)]; omega) (by omega) (by omega)


  · exact whole_core_2 g _ _ b off c x0 x1 w (by omega) g1 a0 b0 a1 b1 c0 c1
      (by rw [or8 0 x0 (by omega) (by omega) (by omega) a0 (by omega)]; omega) (or8 _ _ (by omega) (by omega) (by omega) a1 (by omega)) (andNot16 (g + 1) (by omega) (by omega)) (or16 _ _ (by omega) (by omega) (by omega) (by omega) (by omega)) (by omega) (by omega)

theorem whole_core_3 (g q N : Int) (b off c : Nat) (x0 x1 x2 : Int) (w : World) (g0 : 0 ≤ g) (g1 : g ≤ 9007199254740991) (a0 : 0 ≤ x0) (b0 : x0 ≤ 255) (a1 : 0 ≤ x1) (b1 : x1 ≤ 255) (a2 : 0 ≤ x2) (b2 : x2 ≤ 255)
    (c0 : w.cell? ⟨b, off, none⟩ = some (.int .u8 x0)) (c1 : w.cell? ⟨b, off + 1, none⟩ = some (.int .u8 x1)) (c2 : w.cell? ⟨b, off + 2, none⟩ = some (.int .u8 x2))
    (e0 : bits .or .i64 0 x0 = x0) (e1 : bits .or .i64 (x0 * 256) x1 = x0 * 256 + x1) (e2 : bits .or .i64 ((x0 * 256 + x1) * 256) x2 = (x0 * 256 + x1) * 256 + x2) (hq : bits .andNot .i64 (g + 1) 16777215 = q) (hN : bits .or .i64 q ((x0 * 256 + x1) * 256 + x2) = N) (N0 : 0 ≤ N) (N1 : N ≤ 9007199271518208) :
    Calls Try.prog 15 #[.int .i64 g, .slice (some ⟨b, off, none⟩) 3 c] w fun e w' => e = .returned (.tuple #[.int .i64 (pickV N (g + 1) 16777216), .int .i64 0]) ∧ ∃ n, w.drewN n = w' := by
  have gn : ¬ g = -1 := by omega
  go_enter Try.func15, Try.ntmps15
  go_wp2
  go_rounds 5
  go_quiet (fail)
  go_wp2
  all_goals
    go_ret2
    refine ⟨?_, _, rfl⟩
    first | (rw [pickV_up (by omega) (by omega)]; rfl) | (rw [pickV_down (by omega) (by omega) (by omega)]; rfl) | (rw [pickV_stay (by omega) (by omega)]; rfl)
theorem whole_none_3 (N : Int) (b off c : Nat) (x0 x1 x2 : Int) (w : World) (a0 : 0 ≤ x0) (b0 : x0 ≤ 255) (a1 : 0 ≤ x1) (b1 : x1 ≤ 255) (a2 : 0 ≤ x2) (b2 : x2 ≤ 255)
    (c0 : w.cell? ⟨b, off, none⟩ = some (.int .u8 x0)) (c1 : w.cell? ⟨b, off + 1, none⟩ = some (.int .u8 x1)) (c2 : w.cell? ⟨b, off + 2, none⟩ = some (.int .u8 x2))
    (e0 : bits .or .i64 0 x0 = x0) (e1 : bits .or .i64 (x0 * 256) x1 = x0 * 256 + x1) (e2 : bits .or .i64 ((x0 * 256 + x1) * 256) x2 = (x0 * 256 + x1) * 256 + x2) (hq : bits .andNot .i64 0 16777215 = 0) (hN : bits .or .i64 0 ((x0 * 256 + x1) * 256 + x2) = N) (N0 : 0 ≤ N) (N1 : N ≤ 16777215) :
    Calls Try.prog 15 #[.int .i64 (-1), .slice (some ⟨b, off, none⟩) 3 c] w fun e w' => e = .returned (.tuple #[.int .i64 (pickV N 0 16777216), .int .i64 0]) ∧ ∃ n, w.drewN n = w' := by
  go_enter Try.func15, Try.ntmps15
  go_wp2
  go_rounds 5
  go_quiet (fail)
  go_wp2
  all_goals
    go_ret2
    refine ⟨?_, _, rfl⟩
    first | (rw [pickV_up (by omega) (by omega)]; rfl) | (rw [pickV_down (by omega) (by omega) (by omega)]; rfl) | (rw [pickV_stay (by omega) (by omega)]; rfl)
theorem whole_3 (g : Int) (b off c : Nat) (x0 x1 x2 : Int) (w : World) (g0 : -1 ≤ g) (g1 : g ≤ 9007199254740991) (a0 : 0 ≤ x0) (b0 : x0 ≤ 255) (a1 : 0 ≤ x1) (b1 : x1 ≤ 255) (a2 : 0 ≤ x2) (b2 : x2 ≤ 255)
    (c0 : w.cell? ⟨b, off, none⟩ = some (.int .u8 x0)) (c1 : w.cell? ⟨b, off + 1, none⟩ = some (.int .u8 x1)) (c2 : w.cell? ⟨b, off + 2, none⟩ = some (.int .u8 x2)) :
    Calls Try.prog 15 #[.int .i64 g, .slice (some ⟨b, off, none⟩) 3 c] w fun e w' => e = .returned (.tuple #[.int .i64 (wholeV g ((x0 * 256 + x1) * 256 + x2) 16777216), .int .i64 0]) ∧ ∃ n, w.drewN n = w' := by
  rw [whole_pick]
  by_cases hg : g = -1
  · subst hg
    exact whole_none_3 _ b off c x0 x1 x2 w a0 b0 a1 b1 a2 b2 c0 c1 c2
      (by rw [or8 0 x0 (by omega) (by omega) (by omega) a0 (by omega)]; omega) (or8 _ _ (by omega) (by omega) (by omega) a1 (by omega)) (or8 _ _ (by omega) (by omega) (by omega) a2 (by omega)) (by rw [andNot24 0 (by omega) (by omega)]; omega) (by rw [or24 0 _ (by omega) (by omega) (by omega) (by omega) (by omega)]; omega) (by omega) (by omega)


  · exact whole_core_3 g _ _ b off c x0 x1 x2 w (by omega) g1 a0 b0 a1 b1 a2 b2 c0 c1 c2
      (by rw [or8 0 x0 (by omega) (by omega) (by omega) a0 (by omega)]; omega) (or8 _ _ (by omega) (by omega) (by omega) a1 (by omega)) (or8 _ _ (by omega) (by omega) (by omega) a2 (by omega)) (andNot24 (g + 1) (by omega) (by omega)) (or24 _ _ (by omega) (by omega) (by omega) (by omega) (by omega)) (by omega) (by omega)

theorem whole_core_4 (g q N : Int) (b off c : Nat) (x0 x1 x2 x3 : Int) (w : World) (g0 : 0 ≤ g) (g1 : g ≤ 9007199254740991) (a0 : 0 ≤ x0) (b0 : x0 ≤ 255) (a1 : 0 ≤ x1) (b1 : x1 ≤ 255) (a2 : 0 ≤ x2) (b2 : x2 ≤ 255) (a3 : 0 ≤ x3) (b3 : x3 ≤ 255)
    (c0 : w.cell? ⟨b, off, none⟩ = some (.int .u8 x0)) (c1 : w.cell? ⟨b, off + 1, none⟩ = some (.int .u8 x1)) (c2 : w.cell? ⟨b, off + 2, none⟩ = some (.int .u8 x2)) (c3 : w.cell? ⟨b, off + 3, none⟩ = some (.int .u8 x3))
    (e0 : bits .or .i64 0 x0 = x0) (e1 : bits .or .i64 (x0 * 256) x1 = x0 * 256 + x1) (e2 : bits .or .i64 ((x0 * 256 + x1) * 256) x2 = (x0 * 256 + x1) * 256 + x2) (e3 : bits .or .i64 (((x0 * 256 + x1) * 256 + x2) * 256) x3 = ((x0 * 256 + x1) * 256 + x2) * 256 + x3) (hq : bits .andNot .i64 (g + 1) 4294967295 = q) (hN : bits .or .i64 q (((x0 * 256 + x1) * 256 + x2) * 256 + x3) = N) (N0 : 0 ≤ N) (N1 : N ≤ 9007203549708288) :
    Calls Try.prog 15 #[.int .i64 g, .slice (some ⟨b, off, none⟩) 4 c] w fun e w' => e = .returned (.tuple #[.int .i64 (pickV N (g + 1) 4294967296), .int .i64 0]) ∧ ∃ n, w.drewN n = w' := by
  have gn : ¬ g = -1 := by omega
  go_enter Try.func15, Try.ntmps15
  go_wp2
  go_rounds 6
  go_quiet (fail)
  go_wp2
  all_goals
    go_ret2
    refine ⟨?_, _, rfl⟩
    first | (rw [pickV_up (by omega) (by omega)]; rfl) | (rw [pickV_down (by omega) (by omega) (by omega)]; rfl) | (rw [pickV_stay (by omega) (by omega)]; rfl)
theorem whole_none_4 (N : Int) (b off c : Nat) (x0 x1 x2 x3 : Int) (w : World) (a0 : 0 ≤ x0) (b0 : x0 ≤ 255) (a1 : 0 ≤ x1) (b1 : x1 ≤ 255) (a2 : 0 ≤ x2) (b2 : x2 ≤ 255) (a3 : 0 ≤ x3) (b3 : x3 ≤ 255)
    (c0 : w.cell? ⟨b, off, none⟩ = some (.int .u8 x0)) (c1 : w.cell? ⟨b, off + 1, none⟩ = some (.int .u8 x1)) (c2 : w.cell? ⟨b, off + 2, none⟩ = some (.int .u8 x2)) (c3 : w.cell? ⟨b, off + 3, none⟩ = some (.int .u8 x3))
    (e0 : bits .or .i64 0 x0 = x0) (e1 : bits .or .i64 (x0 * 256) x1 = x0 * 256 + x1) (e2 : bits .or .i64 ((x0 * 256 + x1) * 256) x2 = (x0 * 256 + x1) * 256 + x2) (e3 : bits .or .i64 (((x0 * 256 + x1) * 256 + x2) * 256) x3 = ((x0 * 256 + x1) * 256 + x2) * 256 + x3) (hq : bits .andNot .i64 0 4294967295 = 0) (hN : bits .or .i64 0 (((x0 * 256 + x1) * 256 + x2) * 256 + x3) = N) (N0 : 0 ≤ N) (N1 : N ≤ 4294967295) :
    Calls Try.prog 15 #[.int .i64 (-1), .slice (some ⟨b, off, none⟩) 4 c] w fun e w' => e = .returned (.tuple #[.int .i64 (pickV N 0 4294967296), .int .i64 0]) ∧ ∃ n, w.drewN n = w' := by
  go_enter Try.func15, Try.ntmps15
  go_wp2
  go_rounds 6
  go_quiet (fail)
  go_wp2
  all_goals
    go_ret2
    refine ⟨?_, _, rfl⟩
    first | (rw [pickV_up (by omega) (by omega)]; rfl) | (rw [pickV_down (by omega) (by omega) (by omega)]; rfl) | (rw [pickV_stay (by omega) (by omega)]; rfl)
theorem whole_4 (g : Int) (b off c : Nat) (x0 x1 x2 x3 : Int) (w : World) (g0 : -1 ≤ g) (g1 : g ≤ 9007199254740991) (a0 : 0 ≤ x0) (b0 : x0 ≤ 255) (a1 : 0 ≤ x1) (b1 : x1 ≤ 255) (a2 : 0 ≤ x2) (b2 : x2 ≤ 255) (a3 : 0 ≤ x3) (b3 : x3 ≤ 255)
    (c0 : w.cell? ⟨b, off, none⟩ = some (.int .u8 x0)) (c1 : w.cell? ⟨b, off + 1, none⟩ = some (.int .u8 x1)) (c2 : w.cell? ⟨b, off + 2, none⟩ = some (.int .u8 x2)) (c3 : w.cell? ⟨b, off + 3, none⟩ = some (.int .u8 x3)) :
    Calls Try.prog 15 #[.int .i64 g, .slice (some ⟨b, off, none⟩) 4 c] w fun e w' => e = .returned (.tuple #[.int .i64 (wholeV g (((x0 * 256 + x1) * 256 + x2) * 256 + x3) 4294967296), .int .i64 0]) ∧ ∃ n, w.drewN n = w' := by
  rw [whole_pick]
  by_cases hg : g = -1
  · subst hg
    exact whole_none_4 _ b off c x0 x1 x2 x3 w a0 b0 a1 b1 a2 b2 a3 b3 c0 c1 c2 c3
      (by rw [or8 0 x0 (by omega) (by omega) (by omega) a0 (by omega)]; omega) (or8 _ _ (by omega) (by omega) (by omega) a1 (by omega)) (or8 _ _ (by omega) (by omega) (by omega) a2 (by omega)) (or8 _ _ (by omega) (by omega) (by omega) a3 (by omega)) (by rw [andNot32 0 (by omega) (by omega)]; omega) (by rw [or32 0 _ (by omega) (by omega) (by omega) (by omega) (by omega)]; omega) (by omega) (by omega)


  · exact whole_core_4 g _ _ b off c x0 x1 x2 x3 w (by omega) g1 a0 b0 a1 b1 a2 b2 a3 b3 c0 c1 c2 c3
      (by rw [or8 0 x0 (by omega) (by omega) (by omega) a0 (by omega)]; omega) (or8 _ _ (by omega) (by omega) (by omega) a1 (by omega)) (or8 _ _ (by omega) (by omega) (by omega) a2 (by omega)) (or8 _ _ (by omega) (by omega) (by omega) a3 (by omega)) (andNot32 (g + 1) (by omega) (by omega)) (or32 _ _ (by omega) (by omega) (by omega) (by omega) (by omega)) (by omega) (by omega)

theorem whole_any (g : Int) (A : Option Addr) (n c : Nat) (xs : List Int) (w : World) (g0 : -1 ≤ g) (g1 : g ≤ 9007199254740991) (h : Bs w A n xs) (n0 : 1 ≤ n) (n1 : n ≤ 4) :
    Calls Try.prog 15 #[.int .i64 g, .slice A n c] w fun e w' => e = .returned (.tuple #[.int .i64 (wholeV g (cutV xs) (allV n)), .int .i64 0]) ∧ ∃ n, w.drewN n = w' := by
  obtain ⟨hl, hb, hcc⟩ := h
  obtain ⟨b, off, rfl, hc⟩ := hcc (by omega)
  clear hcc
  match xs, hl with
  | [x0], hl =>
    subst hl
    have B0 := hb x0 (by simp)
    have C0 := hc 0 (by simp)
    clear hc hb
    simp only [List.getD_cons_zero, Nat.add_zero] at C0
    have e : cutV [x0] = x0 := by simp [cutV]
    rw [e]
    exact whole_1 g b off c x0 w g0 g1 B0.1 B0.2 C0
  | [x0, x1], hl =>
    subst hl
    have B0 := hb x0 (by simp)
    have C0 := hc 0 (by simp)
    have B1 := hb x1 (by simp)
    have C1 := hc 1 (by simp)
    clear hc hb
    simp only [List.getD_cons_zero, List.getD_cons_succ, Nat.add_zero] at C0 C1
    have e : cutV [x0, x1] = x0 * 256 + x1 := by simp [cutV]
    rw [e]
    exact whole_2 g b off c x0 x1 w g0 g1 B0.1 B0.2 B1.1 B1.2 C0 C1
  | [x0, x1, x2], hl =>
    subst hl
    have B0 := hb x0 (by simp)
    have C0 := hc 0 (by simp)
    have B1 := hb x1 (by simp)
    have C1 := hc 1 (by simp)
    have B2 := hb x2 (by simp)
    have C2 := hc 2 (by simp)
    clear hc hb
    simp only [List.getD_cons_zero, List.getD_cons_succ, Nat.add_zero] at C0 C1 C2
    have e : cutV [x0, x1, x2] = (x0 * 256 + x1) * 256 + x2 := by simp [cutV]
    rw [e]
    exact whole_3 g b off c x0 x1 x2 w g0 g1 B0.1 B0.2 B1.1 B1.2 B2.1 B2.2 C0 C1 C2
  | [x0, x1, x2, x3], hl =>
    subst hl
    have B0 := hb x0 (by simp)
    have C0 := hc 0 (by simp)
    have B1 := hb x1 (by simp)
    have C1 := hc 1 (by simp)
    have B2 := hb x2 (by simp)
    have C2 := hc 2 (by simp)
    have B3 := hb x3 (by simp)
    have C3 := hc 3 (by simp)
    clear hc hb
    simp only [List.getD_cons_zero, List.getD_cons_succ, Nat.add_zero] at C0 C1 C2 C3
    have e : cutV [x0, x1, x2, x3] = ((x0 * 256 + x1) * 256 + x2) * 256 + x3 := by simp [cutV]
    rw [e]
    exact whole_4 g b off c x0 x1 x2 x3 w g0 g1 B0.1 B0.2 B1.1 B1.2 B2.1 B2.2 B3.1 B3.2 C0 C1 C2 C3
  | [], hl => subst hl; simp at n0
  | _ :: _ :: _ :: _ :: _ :: _, hl => simp only [List.length_cons] at hl; omega
end Go.Proofs.Ytgmgbhpecnmfeaa
