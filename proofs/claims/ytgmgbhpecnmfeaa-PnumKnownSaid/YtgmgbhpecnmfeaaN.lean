/-
  Bits of int: 'x | y' where y lies below x's last bits; 'x &^ (2^i - 1)'.
-/
import Derived.WalkKit
namespace Go.Proofs.Ytgmgbhpecnmfeaa
open Go.RowKit
set_option linter.unusedVariables false

theorem wraps_i64 (n : Int) (h₀ : 0 ≤ n) (h₁ : n < 2 ^ 63) : IntKind.i64.wrap n = n := by rw [IntKind.wrap_i64]; omega

theorem or8 (x y : Int) (hx₀ : 0 ≤ x) (hx : x % 256 = 0) (hx₁ : x < 9223372036854775808) (h₀ : 0 ≤ y) (h₁ : y < 256) : bits .or .i64 x y = x + y :=
  bits_join .i64 63 (by decide) wraps_i64 8 x y hx₀ hx hx₁ h₀ h₁ (by omega)
theorem or16 (x y : Int) (hx₀ : 0 ≤ x) (hx : x % 65536 = 0) (hx₁ : x < 9223372036854775808) (h₀ : 0 ≤ y) (h₁ : y < 65536) : bits .or .i64 x y = x + y :=
  bits_join .i64 63 (by decide) wraps_i64 16 x y hx₀ hx hx₁ h₀ h₁ (by omega)
theorem or24 (x y : Int) (hx₀ : 0 ≤ x) (hx : x % 16777216 = 0) (hx₁ : x < 9223372036854775808) (h₀ : 0 ≤ y) (h₁ : y < 16777216) : bits .or .i64 x y = x + y :=
  bits_join .i64 63 (by decide) wraps_i64 24 x y hx₀ hx hx₁ h₀ h₁ (by omega)
theorem or32 (x y : Int) (hx₀ : 0 ≤ x) (hx : x % 4294967296 = 0) (hx₁ : x < 9223372036854775808) (h₀ : 0 ≤ y) (h₁ : y < 4294967296) : bits .or .i64 x y = x + y :=
  bits_join .i64 63 (by decide) wraps_i64 32 x y hx₀ hx hx₁ h₀ h₁ (by omega)

theorem bv_andNot (a b : BitVec 64) : a &&& ~~~b = a - (a &&& b) := by
  have h0 : (a &&& b) &&& (a &&& ~~~b) = 0#64 := by
    ext i hi
    simp
    intro _ h
    simp [h]
  have h1 : (a &&& b) + (a &&& ~~~b) = a := by
    rw [BitVec.add_eq_or_of_and_eq_zero _ _ h0]
    ext i hi
    simp
    cases a[i] <;> cases b[i] <;> rfl
  rw [BitVec.eq_sub_iff_add_eq, BitVec.add_comm]
  exact h1

theorem andNot_pow (i : Nat) (hi : i ≤ 62) (x m : Int) (hm : m = 2 ^ i - 1) (h₀ : 0 ≤ x) (h₁ : x < 9223372036854775808) : bits .andNot .i64 x m = x - x % 2 ^ i := by
  have hmask := bits_mask .i64 63 (by decide) wraps_i64 i (by omega) x h₀ h₁
  obtain ⟨a, rfl⟩ := Int.eq_ofNat_of_zero_le h₀
  rw [← hm] at hmask
  have ha : a < 18446744073709551616 := by omega
  have hA : (BitVec.ofInt 64 (a : Int)).toNat = a := by rw [BitVec.ofInt_natCast, BitVec.toNat_ofNat]; exact Nat.mod_eq_of_lt ha
  have e : bits .and .i64 (a : Int) m = IntKind.i64.wrap ((BitVec.ofInt 64 (a : Int) &&& BitVec.ofInt 64 m).toNat : Int) := rfl
  show IntKind.i64.wrap ((BitVec.ofInt 64 (a : Int) &&& ~~~BitVec.ofInt 64 m).toNat : Int) = _
  have hle : (BitVec.ofInt 64 (a : Int) &&& BitVec.ofInt 64 m).toNat ≤ a := by
    rw [BitVec.toNat_and, hA]
    exact Nat.and_le_left
  rw [bv_andNot, BitVec.toNat_sub_of_le (by rw [BitVec.le_def, hA]; exact hle), hA]
  rw [e] at hmask
  rw [IntWalk.i64_in _ (by omega)] at hmask
  rw [← hmask, IntWalk.i64_in _ (by omega)]
  omega

theorem andNot8 (x : Int) (h₀ : 0 ≤ x) (h₁ : x < 9223372036854775808) : bits .andNot .i64 x 255 = x / 256 * 256 := by
  rw [andNot_pow 8 (by omega) x 255 (by decide) h₀ h₁]; omega
theorem andNot16 (x : Int) (h₀ : 0 ≤ x) (h₁ : x < 9223372036854775808) : bits .andNot .i64 x 65535 = x / 65536 * 65536 := by
  rw [andNot_pow 16 (by omega) x 65535 (by decide) h₀ h₁]; omega
theorem andNot24 (x : Int) (h₀ : 0 ≤ x) (h₁ : x < 9223372036854775808) : bits .andNot .i64 x 16777215 = x / 16777216 * 16777216 := by
  rw [andNot_pow 24 (by omega) x 16777215 (by decide) h₀ h₁]; omega
theorem andNot32 (x : Int) (h₀ : 0 ≤ x) (h₁ : x < 9223372036854775808) : bits .andNot .i64 x 4294967295 = x / 4294967296 * 4294967296 := by
  rw [andNot_pow 32 (by omega) x 4294967295 (by decide) h₀ h₁]; omega
end Go.Proofs.Ytgmgbhpecnmfeaa
