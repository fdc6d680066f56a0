/-
  EcnFails: all kinds.
-/
import Derived.Test.YtiocifmebnaabaaWa
import Derived.Test.YtiocifmebnaabaaWb
import Derived.Test.YtiocifmebnaabaaWc
import Derived.Test.YtiocifmebnaabaaWd
namespace Go.Proofs.Ytiocifmebnaabaa
open Go.RowKit (wrap32 wrap64)
open Go.RowKit
set_option linter.unusedVariables false
set_option linter.unusedSimpArgs false

theorem fails_all (s0 s1 kind bi : Int) (w : World) :
    Calls Try.prog 4 #[.agg #[.int .i64 s0, .int .i64 s1], .int .i64 kind, .int .i64 bi] w fun e w' => e = .returned (.bool true) ∧ Below w.heap.size w w' := by
  obtain ⟨a, HA, a0, a1⟩ := name_mod s0 1048576 (by omega)
  obtain ⟨b, HBB, b0, b1⟩ := name_mod s1 1048576 (by omega)
  obtain ⟨r, HR, r0, r1⟩ := name_mod bi 1048576 (by omega)
  obtain ⟨k, HK, k0, k1⟩ := name_mod kind 6 (by omega)
  obtain ⟨n, rfl⟩ : ∃ n, r = n - 1 := ⟨r + 1, by omega⟩
  have n0 : 1 ≤ n := by omega
  have n1 : n ≤ 1048576 := by omega
  have hk : k = 0 ∨ k = 1 ∨ k = 2 ∨ k = 3 ∨ k = 4 ∨ k = 5 := by omega
  rcases hk with rfl | rfl | rfl | rfl | rfl | rfl
  · by_cases x : a = 0
    · exact fails_k0z s0 s1 kind bi a b n w HA HBB HR HK a0 a1 b0 b1 n0 n1 x
    · by_cases y : a ≤ n
      · exact fails_k0a s0 s1 kind bi a b n w HA HBB HR HK a0 a1 b0 b1 n0 n1 (by omega) y
      · exact fails_k0b s0 s1 kind bi a b n w HA HBB HR HK a0 a1 b0 b1 n0 n1 (by omega) (by omega)
  · by_cases x : b = 0
    · exact fails_k1z s0 s1 kind bi a b n w HA HBB HR HK a0 a1 b0 b1 n0 n1 x
    · by_cases y : b ≤ n
      · exact fails_k1a s0 s1 kind bi a b n w HA HBB HR HK a0 a1 b0 b1 n0 n1 (by omega) y
      · exact fails_k1b s0 s1 kind bi a b n w HA HBB HR HK a0 a1 b0 b1 n0 n1 (by omega) (by omega)
  · exact fails_k2 s0 s1 kind bi a b n w HA HBB HR HK a0 a1 b0 b1 n0 n1
  · exact fails_k3 s0 s1 kind bi a b n w HA HBB HR HK a0 a1 b0 b1 n0 n1
  · by_cases y : n ≤ 10
    · exact fails_k4a s0 s1 kind bi a b n w HA HBB HR HK a0 a1 b0 b1 n0 n1 y
    · exact fails_k4b s0 s1 kind bi a b n w HA HBB HR HK a0 a1 b0 b1 n0 n1 (by omega)
  · exact fails_k5 s0 s1 kind bi a b n w HA HBB HR HK a0 a1 b0 b1 n0 n1
end Go.Proofs.Ytiocifmebnaabaa
