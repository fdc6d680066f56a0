/-
  Contracts of the small functions of chapter 3: Bring, Len.
-/
import Derived.Test.YtgmgbhpecnmfeaaRows
import Derived.WalkKit
import Derived.WalkSpells
import Derived.WalkLawsBesides
import Derived.BigQuiet
import Derived.Handy
import Derived.Below
import Derived.Lib.Hide
namespace Go.Proofs.Ytgmgbhpecnmfeaa
open Go.RowKit (wrap32 wrap64)
open Go.RowKit
set_option linter.unusedVariables false

theorem emod_lo (i n : Int) (h0 : 1 ≤ n) (h : i.tmod n < 0) : i.tmod n + n = i % n := by
  rw [Int.tmod_eq_emod] at h ⊢
  have h2 := Int.emod_nonneg i (b := n) (by omega)
  split
  · rename_i hc
    rw [if_pos hc] at h
    omega
  · have : ((n.natAbs : Nat) : Int) = n := by omega
    omega
theorem emod_hi (i n : Int) (h0 : 1 ≤ n) (h : 0 ≤ i.tmod n) : i.tmod n = i % n := by
  rw [Int.tmod_eq_emod] at h ⊢
  have h2 := Int.emod_lt_of_pos i (b := n) (by omega)
  split
  · omega
  · rename_i hc
    rw [if_neg hc] at h
    have : ((n.natAbs : Nat) : Int) = n := by omega
    omega

theorem bring_any (i n : Int) (w : World) (h0 : 1 ≤ n) (h1 : n ≤ 9223372036854775807) :
    Calls Try.prog 18 #[.int .i64 i, .int .i64 n] w fun e w' => e = .returned (.int .i64 (i % n)) ∧ w = w' := by
  have b1 := Int.emod_nonneg i (b := n) (by omega)
  have b2 := Int.emod_lt_of_pos i (b := n) (by omega)
  go_enter Try.func18, Try.ntmps18
  go_wp2
  · go_ret
    have h : i.tmod n < 0 := by assumption
    refine ⟨?_, rfl⟩
    have e := emod_lo i n h0 h
    rw [IntWalk.wrap64_in _ (by omega), e]; rfl
  · go_ret
    have h : 0 ≤ i.tmod n := by assumption
    exact ⟨by rw [emod_hi i n h0 h]; rfl, rfl⟩

theorem len_bad (full acked : Int) (w : World) (h : full < 0 ∨ 9007199254740991 < full ∨ acked < -1 ∨ full ≤ acked) :
    Calls Try.prog 9 #[.int .i64 full, .int .i64 acked] w fun e w' => e = .returned (.tuple #[.int .i64 0, .int .i64 9]) ∧ w = w' := by
  go_enter Try.func9, Try.ntmps9
  go_wp2
  all_goals
    go_ret2
    exact ⟨rfl, rfl⟩
theorem len_1 (full acked : Int) (w : World) (h0 : 0 ≤ full) (h1 : full ≤ 9007199254740991) (h2 : -1 ≤ acked) (h3 : acked < full) (h4 : full - acked ≤ 128) :
    Calls Try.prog 9 #[.int .i64 full, .int .i64 acked] w fun e w' => e = .returned (.tuple #[.int .i64 1, .int .i64 0]) ∧ w = w' := by
  go_enter Try.func9, Try.ntmps9
  go_wp2
  go_rounds 5
  go_ret2
  exact ⟨rfl, rfl⟩
theorem len_2 (full acked : Int) (w : World) (h0 : 0 ≤ full) (h1 : full ≤ 9007199254740991) (h2 : -1 ≤ acked) (h3 : acked < full) (h4 : ¬ full - acked ≤ 128) (h5 : full - acked ≤ 32768) :
    Calls Try.prog 9 #[.int .i64 full, .int .i64 acked] w fun e w' => e = .returned (.tuple #[.int .i64 2, .int .i64 0]) ∧ w = w' := by
  go_enter Try.func9, Try.ntmps9
  go_wp2
  go_rounds 5
  go_ret2
  exact ⟨rfl, rfl⟩
theorem len_3 (full acked : Int) (w : World) (h0 : 0 ≤ full) (h1 : full ≤ 9007199254740991) (h2 : -1 ≤ acked) (h3 : acked < full) (h4 : ¬ full - acked ≤ 32768) (h5 : full - acked ≤ 8388608) :
    Calls Try.prog 9 #[.int .i64 full, .int .i64 acked] w fun e w' => e = .returned (.tuple #[.int .i64 3, .int .i64 0]) ∧ w = w' := by
  go_enter Try.func9, Try.ntmps9
  go_wp2
  go_rounds 5
  go_ret2
  exact ⟨rfl, rfl⟩
theorem len_4 (full acked : Int) (w : World) (h0 : 0 ≤ full) (h1 : full ≤ 9007199254740991) (h2 : -1 ≤ acked) (h3 : acked < full) (h4 : ¬ full - acked ≤ 8388608) (h5 : full - acked ≤ 2147483648) :
    Calls Try.prog 9 #[.int .i64 full, .int .i64 acked] w fun e w' => e = .returned (.tuple #[.int .i64 4, .int .i64 0]) ∧ w = w' := by
  go_enter Try.func9, Try.ntmps9
  go_wp2
  go_rounds 5
  go_ret2
  exact ⟨rfl, rfl⟩
theorem len_5 (full acked : Int) (w : World) (h0 : 0 ≤ full) (h1 : full ≤ 9007199254740991) (h2 : -1 ≤ acked) (h3 : acked < full) (h4 : ¬ full - acked ≤ 2147483648) :
    Calls Try.prog 9 #[.int .i64 full, .int .i64 acked] w fun e w' => e = .returned (.tuple #[.int .i64 0, .int .i64 5]) ∧ w = w' := by
  go_enter Try.func9, Try.ntmps9
  go_wp2
  go_rounds 6
  go_ret2
  exact ⟨rfl, rfl⟩

/-- What Len answers. -/
def lenN (full acked : Int) : Int := if full < 0 ∨ 9007199254740991 < full ∨ acked < -1 ∨ full ≤ acked then 0 else if full - acked ≤ 128 then 1 else if full - acked ≤ 32768 then 2 else if full - acked ≤ 8388608 then 3 else if full - acked ≤ 2147483648 then 4 else 0
def lenE (full acked : Int) : Int := if full < 0 ∨ 9007199254740991 < full ∨ acked < -1 ∨ full ≤ acked then 9 else if full - acked ≤ 2147483648 then 0 else 5

theorem len_any (full acked : Int) (w : World) :
    Calls Try.prog 9 #[.int .i64 full, .int .i64 acked] w fun e w' => e = .returned (.tuple #[.int .i64 (lenN full acked), .int .i64 (lenE full acked)]) ∧ w = w' := by
  by_cases h : full < 0 ∨ 9007199254740991 < full ∨ acked < -1 ∨ full ≤ acked
  · have e1 : lenN full acked = 0 := by unfold lenN; rw [if_pos h]
    have e2 : lenE full acked = 9 := by unfold lenE; rw [if_pos h]
    rw [e1, e2]; exact len_bad full acked w h
  · by_cases h4 : full - acked ≤ 128
    · have e1 : lenN full acked = 1 := by unfold lenN; rw [if_neg h, if_pos h4]
      have e2 : lenE full acked = 0 := by unfold lenE; rw [if_neg h, if_pos (by omega)]
      rw [e1, e2]; exact len_1 full acked w (by omega) (by omega) (by omega) (by omega) h4
    by_cases h5 : full - acked ≤ 32768
    · have e1 : lenN full acked = 2 := by unfold lenN; rw [if_neg h, if_neg h4, if_pos h5]
      have e2 : lenE full acked = 0 := by unfold lenE; rw [if_neg h, if_pos (by omega)]
      rw [e1, e2]; exact len_2 full acked w (by omega) (by omega) (by omega) (by omega) h4 h5
    by_cases h6 : full - acked ≤ 8388608
    · have e1 : lenN full acked = 3 := by unfold lenN; rw [if_neg h, if_neg h4, if_neg h5, if_pos h6]
      have e2 : lenE full acked = 0 := by unfold lenE; rw [if_neg h, if_pos (by omega)]
      rw [e1, e2]; exact len_3 full acked w (by omega) (by omega) (by omega) (by omega) h5 h6
    by_cases h7 : full - acked ≤ 2147483648
    · have e1 : lenN full acked = 4 := by unfold lenN; rw [if_neg h, if_neg h4, if_neg h5, if_neg h6, if_pos h7]
      have e2 : lenE full acked = 0 := by unfold lenE; rw [if_neg h, if_pos h7]
      rw [e1, e2]; exact len_4 full acked w (by omega) (by omega) (by omega) (by omega) h6 h7
    · have e1 : lenN full acked = 0 := by unfold lenN; rw [if_neg h, if_neg h4, if_neg h5, if_neg h6, if_neg h7]
      have e2 : lenE full acked = 5 := by unfold lenE; rw [if_neg h, if_neg h7]
      rw [e1, e2]; exact len_5 full acked w (by omega) (by omega) (by omega) (by omega) h7

/-! The reference's Len. -/
theorem rlen_bad (full acked : Int) (w : World) (h : full < 0 ∨ 9007199254740991 < full ∨ acked < -1 ∨ full ≤ acked) :
    Calls Try.prog 10 #[.int .i64 full, .int .i64 acked] w fun e w' => e = .returned (.tuple #[.int .i64 0, .int .i64 9]) ∧ w = w' := by
  go_enter Try.func10, Try.ntmps10
  go_wp2
  all_goals
    go_ret2
    exact ⟨rfl, rfl⟩
theorem rlen_1 (full acked : Int) (w : World) (h0 : 0 ≤ full) (h1 : full ≤ 9007199254740991) (h2 : -1 ≤ acked) (h3 : acked < full) (h4 : full - acked ≤ 128) :
    Calls Try.prog 10 #[.int .i64 full, .int .i64 acked] w fun e w' => e = .returned (.tuple #[.int .i64 1, .int .i64 0]) ∧ w = w' := by
  go_enter Try.func10, Try.ntmps10
  go_wp2
  go_rounds 5
  go_ret2
  exact ⟨rfl, rfl⟩
theorem rlen_2 (full acked : Int) (w : World) (h0 : 0 ≤ full) (h1 : full ≤ 9007199254740991) (h2 : -1 ≤ acked) (h3 : acked < full) (h4 : ¬ full - acked ≤ 128) (h5 : full - acked ≤ 32768) :
    Calls Try.prog 10 #[.int .i64 full, .int .i64 acked] w fun e w' => e = .returned (.tuple #[.int .i64 2, .int .i64 0]) ∧ w = w' := by
  go_enter Try.func10, Try.ntmps10
  go_wp2
  go_rounds 5
  go_ret2
  exact ⟨rfl, rfl⟩
theorem rlen_3 (full acked : Int) (w : World) (h0 : 0 ≤ full) (h1 : full ≤ 9007199254740991) (h2 : -1 ≤ acked) (h3 : acked < full) (h4 : ¬ full - acked ≤ 32768) (h5 : full - acked ≤ 8388608) :
    Calls Try.prog 10 #[.int .i64 full, .int .i64 acked] w fun e w' => e = .returned (.tuple #[.int .i64 3, .int .i64 0]) ∧ w = w' := by
  go_enter Try.func10, Try.ntmps10
  go_wp2
  go_rounds 5
  go_ret2
  exact ⟨rfl, rfl⟩
theorem rlen_4 (full acked : Int) (w : World) (h0 : 0 ≤ full) (h1 : full ≤ 9007199254740991) (h2 : -1 ≤ acked) (h3 : acked < full) (h4 : ¬ full - acked ≤ 8388608) (h5 : full - acked ≤ 2147483648) :
    Calls Try.prog 10 #[.int .i64 full, .int .i64 acked] w fun e w' => e = .returned (.tuple #[.int .i64 4, .int .i64 0]) ∧ w = w' := by
  go_enter Try.func10, Try.ntmps10
  go_wp2
  go_rounds 5
  go_ret2
  exact ⟨rfl, rfl⟩
theorem rlen_5 (full acked : Int) (w : World) (h0 : 0 ≤ full) (h1 : full ≤ 9007199254740991) (h2 : -1 ≤ acked) (h3 : acked < full) (h4 : ¬ full - acked ≤ 2147483648) :
    Calls Try.prog 10 #[.int .i64 full, .int .i64 acked] w fun e w' => e = .returned (.tuple #[.int .i64 0, .int .i64 5]) ∧ w = w' := by
  go_enter Try.func10, Try.ntmps10
  go_wp2
  go_rounds 6
  go_ret2
  exact ⟨rfl, rfl⟩
theorem rlen_any (full acked : Int) (w : World) :
    Calls Try.prog 10 #[.int .i64 full, .int .i64 acked] w fun e w' => e = .returned (.tuple #[.int .i64 (lenN full acked), .int .i64 (lenE full acked)]) ∧ w = w' := by
  by_cases h : full < 0 ∨ 9007199254740991 < full ∨ acked < -1 ∨ full ≤ acked
  · have e1 : lenN full acked = 0 := by unfold lenN; rw [if_pos h]
    have e2 : lenE full acked = 9 := by unfold lenE; rw [if_pos h]
    rw [e1, e2]; exact rlen_bad full acked w h
  · by_cases h4 : full - acked ≤ 128
    · have e1 : lenN full acked = 1 := by unfold lenN; rw [if_neg h, if_pos h4]
      have e2 : lenE full acked = 0 := by unfold lenE; rw [if_neg h, if_pos (by omega)]
      rw [e1, e2]; exact rlen_1 full acked w (by omega) (by omega) (by omega) (by omega) h4
    by_cases h5 : full - acked ≤ 32768
    · have e1 : lenN full acked = 2 := by unfold lenN; rw [if_neg h, if_neg h4, if_pos h5]
      have e2 : lenE full acked = 0 := by unfold lenE; rw [if_neg h, if_pos (by omega)]
      rw [e1, e2]; exact rlen_2 full acked w (by omega) (by omega) (by omega) (by omega) h4 h5
    by_cases h6 : full - acked ≤ 8388608
    · have e1 : lenN full acked = 3 := by unfold lenN; rw [if_neg h, if_neg h4, if_neg h5, if_pos h6]
      have e2 : lenE full acked = 0 := by unfold lenE; rw [if_neg h, if_pos (by omega)]
      rw [e1, e2]; exact rlen_3 full acked w (by omega) (by omega) (by omega) (by omega) h5 h6
    by_cases h7 : full - acked ≤ 2147483648
    · have e1 : lenN full acked = 4 := by unfold lenN; rw [if_neg h, if_neg h4, if_neg h5, if_neg h6, if_pos h7]
      have e2 : lenE full acked = 0 := by unfold lenE; rw [if_neg h, if_pos h7]
      rw [e1, e2]; exact rlen_4 full acked w (by omega) (by omega) (by omega) (by omega) h6 h7
    · have e1 : lenN full acked = 0 := by unfold lenN; rw [if_neg h, if_neg h4, if_neg h5, if_neg h6, if_neg h7]
      have e2 : lenE full acked = 5 := by unfold lenE; rw [if_neg h, if_neg h7]
      rw [e1, e2]; exact rlen_5 full acked w (by omega) (by omega) (by omega) (by omega) h7
end Go.Proofs.Ytgmgbhpecnmfeaa
