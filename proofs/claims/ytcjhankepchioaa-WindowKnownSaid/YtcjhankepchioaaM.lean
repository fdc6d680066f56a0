/-
  made.
-/
import Derived.Test.YtcjhankepchioaaL
namespace Go.Proofs.Ytcjhankepchioaa
open Go.RowKit (wrap32 wrap64)
open Go.RowKit
set_option linter.unusedVariables false
set_option linter.unusedSimpArgs false

set_option maxRecDepth 100000 in
set_option maxHeartbeats 4000000 in
theorem made_is (x0 x1 x2 da fi mo : Int) (w : World) (HD : Hid (x0 % 64328 = da - 1200)) (HM : Hid (x2 % (1099511627776 - 2 * da + 1) = mo - 2 * da)) (HF : Hid (x1 % (mo - 2 * da + 1) = fi - 2 * da)) (d0 : 1200 ≤ da) (d1 : da ≤ 65527) (m0 : 2 * da ≤ mo) (m1 : mo ≤ 1099511627776) (f0 : 2 * da ≤ fi) (f1 : fi ≤ mo) :
    Calls Try.prog 11 #[.agg #[.int .i64 x0, .int .i64 x1, .int .i64 x2]] w fun e w' => e = .returned (.agg #[.int .i64 da, .int .i64 mo, .int .i64 fi, .int .i64 (-1), .int .i64 (-1), .int .i64 0]) ∧ Below w.heap.size w w' := by
  have HO := Lib.hid (first_ok da fi mo d0 d1 m1 f0 f1)
  have g1 : 1200 + (da - 1200) = da := by omega
  have g2 : 2 * da + (mo - 2 * da) = mo := by omega
  have g3 : 2 * da + (fi - 2 * da) = fi := by omega
  go_enter Try.func11, Try.ntmps11
  go_wp2_with fail
  refine (bring_is _ _ _ _ HD (by omega) (by omega)).mono ?_
  rintro e w' ⟨rfl, rfl⟩
  go_wp2_with fail
  refine (bring_is _ _ _ _ HM (by omega) (by omega)).mono ?_
  rintro e w' ⟨rfl, rfl⟩
  go_wp2_with fail
  refine (bring_is _ _ _ _ HF (by omega) (by omega)).mono ?_
  rintro e w' ⟨rfl, rfl⟩
  go_wp2_with fail
  refine (wnew_ok _ _ _ _ HO.out).mono ?_
  rintro e w7 ⟨rfl, hb7⟩
  have hz7 := BW.kept (BW.new1 w _ zero 26) hb7
  obtain ⟨zl, z0, z1, z2, z3, z4, z5, zf⟩ := id hz7
  have HB7 := Lib.hid (((Below.refl w.heap.size w).alloc (Nat.le_refl _) _ |>.alloc (by simp) _).trans (hb7.mono (by simp only [World.size_alloc]; omega)))
  clear hb7 g1 g2 g3 HD HM HF
  go_upto_region 4 with (fail)
  clear zl z0 z1 z2 z3 z4 z5 zf
  obtain ⟨W8, hW8⟩ : ∃ W, w7.alloc (.cells #[.int .i64 da, .int .i64 mo, .int .i64 fi, .int .i64 (-1), .int .i64 (-1), .int .i64 0] 26) = W := ⟨_, rfl⟩
  rw [hW8]
  obtain ⟨zl, z0, z1, z2, z3, z4, z5, zf⟩ : BW W8 (w.heap.size + 1) zero := hW8 ▸ hz7.alloc _
  obtain ⟨xl, x0', x1', x2', x3', x4', x5', xf⟩ : Bx W8 w7.heap.size da mo fi (-1) (-1) 0 := hW8 ▸ Bx.new w7 da mo fi (-1) (-1) 0 26
  have HB8 : Hid (Below w.heap.size w W8) := hW8 ▸ HB7.out.alloc HB7.out.size _
  clear hW8 hz7
  go_wp2_with fail
  refine bodyPost_ret (by simp [results, Try.results11, go_sem, z0, z1, z2, z3, z4, z5]; rfl) rfl ?_
  exact ⟨rfl, by have := HB8.out; go_grown⟩
/-- There are such numbers. -/
theorem made_any (x0 x1 x2 : Int) : ∃ da fi mo : Int, (1200 ≤ da ∧ da ≤ 65527 ∧ 2 * da ≤ mo ∧ mo ≤ 1099511627776 ∧ 2 * da ≤ fi ∧ fi ≤ mo) ∧ da = 1200 + x0 % 64328 ∧ ∀ w : World,
    Calls Try.prog 11 #[.agg #[.int .i64 x0, .int .i64 x1, .int .i64 x2]] w fun e w' => e = .returned (.agg #[.int .i64 da, .int .i64 mo, .int .i64 fi, .int .i64 (-1), .int .i64 (-1), .int .i64 0]) ∧ Below w.heap.size w w' := by
  obtain ⟨a, HA, a0, a1⟩ := name_mod x0 64328 (by omega)
  obtain ⟨da, rfl⟩ : ∃ da, a = da - 1200 := ⟨a + 1200, by omega⟩
  obtain ⟨b, HB, b0, b1⟩ := name_mod x2 (1099511627776 - 2 * da + 1) (by omega)
  obtain ⟨mo, rfl⟩ : ∃ mo, b = mo - 2 * da := ⟨b + 2 * da, by omega⟩
  obtain ⟨c, HC, c0, c1⟩ := name_mod x1 (mo - 2 * da + 1) (by omega)
  obtain ⟨fi, rfl⟩ : ∃ fi, c = fi - 2 * da := ⟨c + 2 * da, by omega⟩
  exact ⟨da, fi, mo, by omega, by have := HA.out; omega, fun w => made_is x0 x1 x2 da fi mo w HA HB HC (by omega) (by omega) (by omega) (by omega) (by omega) (by omega)⟩
end Go.Proofs.Ytcjhankepchioaa
