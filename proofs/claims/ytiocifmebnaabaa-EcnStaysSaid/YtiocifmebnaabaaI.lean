/-
  The examples: works.
-/
import Derived.Test.YtiocifmebnaabaaT
namespace Go.Proofs.Ytiocifmebnaabaa
open Go.RowKit (wrap32 wrap64)
open Go.RowKit
set_option linter.unusedVariables false
set_option linter.unusedSimpArgs false

set_option maxRecDepth 100000 in
set_option maxHeartbeats 40000000 in
theorem works_ok (w : World) : Calls Try.prog 15 #[] w fun e w' => e = .returned (.bool true) ∧ Below w.heap.size w w' := by
  have q1 : ∀ w : World, (binOp .neq 24 (.agg #[.int .i64 3, .int .i64 2, .int .i64 0, .int .i64 1, .bool false]) (.agg #[.int .i64 3, .int .i64 2, .int .i64 0, .int .i64 1, .bool false])).run Try.prog w = .ok (.bool false) w := fun w => by rw [neq_24]; rfl
  have q2 : ∀ w : World, (binOp .eql 24 (.agg #[.int .i64 4, .int .i64 3, .int .i64 0, .int .i64 1, .bool false]) (.agg #[.int .i64 4, .int .i64 3, .int .i64 0, .int .i64 1, .bool false])).run Try.prog w = .ok (.bool true) w := fun w => by rw [eql_24]; rfl
  have q3 : ∀ w : World, (binOp .eql 22 (.agg #[.int .i64 3, .int .i64 0, .int .i64 1]) (.agg #[.int .i64 3, .int .i64 0, .int .i64 1])).run Try.prog w = .ok (.bool true) w := fun w => by rw [eql_three]; rfl
  go_enter Try.func15, Try.ntmps15
  go_wp2_with fail
  go_loopw [2] (fun i wr => ∃ k : Nat, k ≤ 3 ∧ i = .int .i64 k ∧ At wr w.heap.size k 0 0 0 false ∧ Below w.heap.size w wr) (fun i _ => 4 - (intOf i).toNat)
  case atStart => exact ⟨0, by omega, rfl, At.new _ _ _ _ _ _ _, by go_grown⟩
  case round =>
    obtain ⟨i, hi, rfl, hA, hB⟩ := hrel
    by_cases hlt : i < 3
    · have d1 : decide ((i : Int) < 3) = true := by rw [decide_eq_true_eq]; omega
      obtain ⟨_, k0, k1, k2, k3, k4, kf⟩ := id hA
      go_wp2_with fail
      refine (marked_ok i 0 0 0 false _ (by unfold OkC Num; omega) (by omega)).mono ?_
      rintro e w1 ⟨rfl, hb⟩
      have hA1 := hA.kept hb
      clear k0 k1 k2 k3 k4 kf
      obtain ⟨hl, k0, k1, k2, k3, k4, kf⟩ := id hA1
      go_wp2_with fail
      refine ⟨⟨i + 1, by omega, by go_num, ?_, ?_⟩, by simp [intOf]; omega⟩
      · exact (hA1.set _ _ _ _ _).alloc _
      · have := hB.trans (hb.mono hB.size)
        go_grown
    · obtain rfl : i = 3 := by omega
      obtain ⟨_, k0, k1, k2, k3, k4, kf⟩ := id hA
      go_wp2_with fail
      go_cut [5, 6] from 33 to 39 (fun s5 s6 wx => s5 = .bool true ∧ s6 = .int .i64 0 ∧ At wx w.heap.size 3 2 0 1 false ∧ Below w.heap.size w wx)
      case first =>
        go_region_with (first | (go_at_call 17; refine (frame_any _ _ _ _).mono ?_; rintro e w1 ⟨rfl, rfl⟩) | (go_at_call 11; refine (acked_lit 3 0 0 0 false true 2 0 1 3 3 2 0 1 false true 0 _ w.heap.size w rfl (by go_grown) (by simp; omega)).mono ?_; rintro e w2 ⟨rfl, hb2, hB2⟩; have hAcn := ((hA.alloc _).drew).kept hb2; obtain ⟨hlc, kc0, kc1, kc2, kc3, kc4, kfc⟩ := id hAcn))
        all_goals
          go_wp2_with fail
          go_meet
          refine ⟨rfl, rfl, ?_, ?_⟩
          · exact hAcn.set 3 2 0 1 false
          · go_grown
      case rest =>
        obtain ⟨rfl, rfl, hA2, hB2⟩ := hcut
        clear k0 k1 k2 k3 k4 kf hA hB
        obtain ⟨hl, k0, k1, k2, k3, k4, kf⟩ := id hA2
        go_wp2_with fail
        refine (marked_ok 3 2 0 1 false _ (by decide) (by decide)).mono ?_
        rintro e w3 ⟨rfl, hb3⟩
        have hB3 := hB2.trans (hb3.mono hB2.size)
        clear k0 k1 k2 k3 k4 kf hA2 hB2 hb3
        have z3 := hB3.size
        go_wp2_with fail
        have hD0 := At.new w3 4 2 0 1 false 24
        go_cut [9, 10] from 57 to 63 (fun s9 s10 wx => s9 = .bool false ∧ s10 = .int .i64 0 ∧ At wx w3.heap.size 4 3 0 1 false ∧ Below w.heap.size w wx)
        case first =>
          go_region_with (first | (go_at_call 17; refine (frame_any _ _ _ _).mono ?_; rintro e w1 ⟨rfl, rfl⟩) | (go_at_call 11; refine (acked_lit 4 2 0 1 false true 3 0 1 1 4 3 0 1 false false 0 _ w.heap.size w rfl (by go_grown) (by simp; omega)).mono ?_; rintro e w4 ⟨rfl, hb4, hB4⟩; have hAdn := ((hD0.alloc _).drew).kept hb4; obtain ⟨hld, kd0, kd1, kd2, kd3, kd4, kfd⟩ := id hAdn))
          all_goals
            go_wp2_with fail
            go_meet
            refine ⟨rfl, rfl, ?_, ?_⟩
            · exact hAdn.set 4 3 0 1 false
            · go_grown
        case rest =>
          obtain ⟨rfl, rfl, hD, hB5⟩ := hcut
          obtain ⟨w5, rfl⟩ : ∃ w5 : World, w5 = wc := ⟨_, rfl⟩
          have z5 := hB5.size
          clear hD0 hB3
          obtain ⟨lD, kD0, kD1, kD2, kD3, kD4, kfD⟩ := id hD
          go_wp2_with fail
          go_cut [11, 12, 13] from 64 to 70 (fun s11 s12 s13 wx => ∃ gx, s11 = .pointer (some ⟨gx, 0, none⟩) ∧ s12 = .bool false ∧ s13 = .int .i64 0 ∧ At wx w3.heap.size 4 3 0 1 false ∧ At wx gx 4 3 0 1 false ∧ Below w.heap.size w wx)
          case first =>
            go_region_with (first | (go_at_call 17; refine (frame_any _ _ _ _).mono ?_; rintro e w1 ⟨rfl, rfl⟩) | (go_at_call 11; refine (acked_lit 4 3 0 1 false true 3 0 1 0 4 3 0 1 false false 0 _ w.heap.size w rfl (by go_grown) (by simp; omega)).mono ?_; rintro e w6 ⟨rfl, hb6, hB6⟩; (first | have hDn := (((hD.alloc _).alloc _).drew).kept hb6 | have hDn := ((hD.alloc _).drew).kept hb6); obtain ⟨lDn, kD0n, kD1n, kD2n, kD3n, kD4n, kfDn⟩ := id hDn; (first | (have hNn := ((At.new _ 0 0 0 0 false 24).alloc _).drew.kept hb6; obtain ⟨lNn, kN0n, kN1n, kN2n, kN3n, kN4n, kfNn⟩ := id hNn) | (have hNn := (At.new1 _ _ 0 0 0 0 false 24).drew.kept hb6; obtain ⟨lNn, kN0n, kN1n, kN2n, kN3n, kN4n, kfNn⟩ := id hNn) | skip)))
            all_goals
              go_wp2_with fail
              go_meet
              refine ⟨_, rfl, rfl, rfl, ?_, ?_, ?_⟩
              · first | exact hDn.alloc _ | exact hDn.far _ (by omega) _ _ _ _ _
              · first | exact At.new w6 4 3 0 1 false 24 | exact hNn.set 4 3 0 1 false
              · go_grown
          case rest =>
            obtain ⟨gx, rfl, rfl, rfl, hD', hX, hB7⟩ := hcut
            obtain ⟨w7, rfl⟩ : ∃ w7 : World, w7 = wc := ⟨_, rfl⟩
            have z7 := hB7.size
            clear hD kD0 kD1 kD2 kD3 kD4 kfD lD hB5 z5
            have hD := hD'
            clear hD'
            obtain ⟨lD, kD0, kD1, kD2, kD3, kD4, kfD⟩ := id hD
            obtain ⟨lX, kX0, kX1, kX2, kX3, kX4, kfX⟩ := id hX
            go_wp2_with fail
            go_cut [14, 15, 16] from 71 to 77 (fun s14 s15 s16 wx => ∃ gy, s14 = .pointer (some ⟨gy, 0, none⟩) ∧ s15 = .bool false ∧ s16 = .int .i64 0 ∧ At wx w3.heap.size 4 3 0 1 false ∧ At wx gx 4 3 0 1 false ∧ At wx gy 4 3 0 1 true ∧ Below w.heap.size w wx)
            case first =>
              go_region_with (first | (go_at_call 17; refine (frame_any _ _ _ _).mono ?_; rintro e w1 ⟨rfl, rfl⟩) | (go_at_call 11; refine (acked_lit 4 3 0 1 false true 2 0 2 0 4 3 0 1 true false 0 _ w.heap.size w rfl (by go_grown) (by simp; omega)).mono ?_; rintro e w8 ⟨rfl, hb8, hB8⟩; (first | have hDn := (((hD.alloc _).alloc _).drew).kept hb8 | have hDn := ((hD.alloc _).drew).kept hb8); obtain ⟨lDn, kD0n, kD1n, kD2n, kD3n, kD4n, kfDn⟩ := id hDn; (first | have hXn := (((hX.alloc _).alloc _).drew).kept hb8 | have hXn := ((hX.alloc _).drew).kept hb8); obtain ⟨lXn, kX0n, kX1n, kX2n, kX3n, kX4n, kfXn⟩ := id hXn; (first | (have hNn := ((At.new _ 0 0 0 0 false 24).alloc _).drew.kept hb8; obtain ⟨lNn, kN0n, kN1n, kN2n, kN3n, kN4n, kfNn⟩ := id hNn) | (have hNn := (At.new1 _ _ 0 0 0 0 false 24).drew.kept hb8; obtain ⟨lNn, kN0n, kN1n, kN2n, kN3n, kN4n, kfNn⟩ := id hNn) | skip)))
              all_goals
                go_wp2_with fail
                go_meet
                refine ⟨_, rfl, rfl, rfl, ?_, ?_, ?_, ?_⟩
                · first | exact hDn.alloc _ | exact hDn.far _ (by omega) _ _ _ _ _
                · first | exact hXn.alloc _ | exact hXn.far _ (by omega) _ _ _ _ _
                · first | exact At.new w8 4 3 0 1 true 24 | exact hNn.set 4 3 0 1 true
                · go_grown
            case rest =>
              obtain ⟨gy, rfl, rfl, rfl, hD', hX', hY, hB9⟩ := hcut
              obtain ⟨w9, rfl⟩ : ∃ w9 : World, w9 = wc := ⟨_, rfl⟩
              have z9 := hB9.size
              clear hD hX kD0 kD1 kD2 kD3 kD4 kfD lD kX0 kX1 kX2 kX3 kX4 kfX lX hB7 z7
              have hD := hD'
              have hX := hX'
              clear hD' hX'
              obtain ⟨lD, kD0, kD1, kD2, kD3, kD4, kfD⟩ := id hD
              go_wp2_with fail
              refine (acked_lit 4 3 0 1 false false 0 0 0 1 4 3 0 1 true false 0 _ w.heap.size w rfl hB9 z9).mono ?_
              rintro e w10 ⟨rfl, hb10, hB10⟩
              have hDn := hD.kept hb10
              have hXn := hX.kept hb10
              have hYn := hY.kept hb10
              clear hD hX hY kD0 kD1 kD2 kD3 kD4 kfD lD hB9 hb10
              obtain ⟨lD, kD0, kD1, kD2, kD3, kD4, kfD⟩ := hDn
              obtain ⟨lX, kX0, kX1, kX2, kX3, kX4, kfX⟩ := hXn
              obtain ⟨lY, kY0, kY1, kY2, kY3, kY4, kfY⟩ := hYn
              go_wp2_with fail
              go_ret
              exact ⟨rfl, by go_grown⟩
end Go.Proofs.Ytiocifmebnaabaa
