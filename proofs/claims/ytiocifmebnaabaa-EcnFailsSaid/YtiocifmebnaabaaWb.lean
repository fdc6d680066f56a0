/-
  EcnFails: kind 1.
-/
import Derived.Test.YtiocifmebnaabaaW
namespace Go.Proofs.Ytiocifmebnaabaa
open Go.RowKit (wrap32 wrap64)
open Go.RowKit
set_option linter.unusedVariables false
set_option linter.unusedSimpArgs false

set_option maxRecDepth 100000 in
set_option maxHeartbeats 40000000 in
theorem fails_k1a (s0 s1 kind bi a b n : Int) (w : World) (HA : Hid (s0 % 1048576 = a)) (HBB : Hid (s1 % 1048576 = b)) (HN : Hid (bi % 1048576 = n - 1)) (HK : Hid (kind % 6 = 1)) (a0 : 0 ≤ a) (a1 : a < 1048576) (b0 : 0 ≤ b) (b1 : b < 1048576) (n0 : 1 ≤ n) (n1 : n ≤ 1048576) (x1 : 1 ≤ b) (x2 : b ≤ n) :
    Calls Try.prog 4 #[.agg #[.int .i64 s0, .int .i64 s1], .int .i64 kind, .int .i64 bi] w fun e w' => e = .returned (.bool true) ∧ Below w.heap.size w w' := by
  have R1 : Hid _ := fails_of a b true a 0 0 0 a0 a1 b0 b1 (by omega) (by omega) (by omega) (by omega) (by simp only [if_true]; omega)
  have R2 : Hid _ := failed_stays (a + b + 10) a 0 b true (a + 1) 0 (b + 1) 1 (by unfold OkC Num; omega) (by unfold Num; omega)
  have qe : ∀ (n a b c : Int) (f : Bool) (w : World), (binOp .eql 24 (.agg #[.int .i64 n, .int .i64 a, .int .i64 b, .int .i64 c, .bool f]) (.agg #[.int .i64 n, .int .i64 a, .int .i64 b, .int .i64 c, .bool f])).run Try.prog w = .ok (.bool true) w := fun n a b c f w => by rw [eql_24, sameC_self]
  have q3 : ∀ (a b c : Int) (w : World), (binOp .neq 22 (.agg #[.int .i64 a, .int .i64 b, .int .i64 c]) (.agg #[.int .i64 a, .int .i64 b, .int .i64 c])).run Try.prog w = .ok (.bool false) w := fun a b c w => by rw [neq_three]; simp
  have g1 : (1 : Int) + (n - 1) = n := by omega
  go_enter Try.func4, Try.ntmps4
  go_wp2_with fail
  go_quiet ((go_at_call 16; refine (bring_any _ _ _ (by omega) (by omega)).mono ?_; rintro e w' ⟨rfl, rfl⟩; exact ⟨rfl, _, rfl⟩))
  rw [HA.out, HBB.out]
  go_wp2_with fail
  refine (bring_is _ _ (n - 1) _ HN (by omega) (by omega)).mono ?_
  rintro e w' ⟨rfl, rfl⟩
  go_wp2_with fail
  refine (frame_any _ _ _ _).mono ?_
  rintro e w' ⟨rfl, rfl⟩
  go_wp2_with fail
  refine (bring_is _ _ 1 _ HK (by omega) (by omega)).mono ?_
  rintro e w' ⟨rfl, rfl⟩
  go_wp2_with fail
  refine (acked_is _ _ _ _ _ _ _ _ _ _ _ _ _ _ _ _ _ _ _ _ _ _ _ R1 (Below.refl _ _)).mono ?_
  rintro e w7 ⟨rfl, hb7, hb7'⟩
  have hC := (f_at _ _ _ _ _ _ _ _ _ _).kept hb7
  have hB7 := (f_base _ _ _ _ _ _).trans (hb7.mono (by simp <;> omega))
  clear hb7 hb7'
  obtain ⟨lC, kC0, kC1, kC2, kC3, kC4, kfC⟩ := id hC
  go_wp2_with fail
  obtain ⟨W5, hW5⟩ : ∃ W, w7.alloc (.cells #[.int .i64 (a + b + 10), .int .i64 a, .int .i64 0, .int .i64 b, .bool true] 24) = W := ⟨_, rfl⟩
  rw [hW5]
  have hD : At W5 w7.heap.size (a + b + 10) a 0 b true := hW5 ▸ At.new w7 (a + b + 10) a 0 b true 24
  have hB5 : Below w.heap.size w W5 := hW5 ▸ hB7.alloc hB7.size _
  have z5 := hB5.size
  clear hW5 hC hB7 lC kC0 kC1 kC2 kC3 kC4 kfC
  go_cut [16, 14, 15] from 125 to 134 (fun s16 s14 s15 wx => ∃ gx, s16 = .pointer (some ⟨gx, 0, none⟩) ∧ s14 = .bool false ∧ s15 = .int .i64 0 ∧ At wx gx (a + b + 10) a 0 b true ∧ At wx w7.heap.size (a + b + 10) a 0 b true ∧ Below W5.heap.size W5 wx)
  case first =>
    have HS : ∀ w', Below W5.heap.size W5 w' → (w'.cell? ⟨w7.heap.size, 0, none⟩ = some (.int .i64 (a + b + 10)) ∧ w'.cell? ⟨w7.heap.size, 1, none⟩ = some (.int .i64 a) ∧ w'.cell? ⟨w7.heap.size, 2, none⟩ = some (.int .i64 0) ∧ w'.cell? ⟨w7.heap.size, 3, none⟩ = some (.int .i64 b) ∧ w'.cell? ⟨w7.heap.size, 4, none⟩ = some (.bool true)) ∧ Below W5.heap.size W5 w' := fun w' hb => by
      obtain ⟨_, kC0, kC1, kC2, kC3, kC4, kfC⟩ := hD.kept hb
      exact ⟨⟨kC0, kC1, kC2, kC3, kC4⟩, hb⟩
    have HD := Lib.hid hD
    have e1 : IntKind.i64.wrap (a + 1) = a + 1 := IntWalk.i64_in _ (by omega)
    have e2 : IntKind.i64.wrap (b + 1) = b + 1 := IntWalk.i64_in _ (by omega)
    have hbR := Below.refl W5.heap.size W5
    clear hD
    go_region_held3 (fun w' => (w'.cell? ⟨w7.heap.size, 0, none⟩ = some (.int .i64 (a + b + 10)) ∧ w'.cell? ⟨w7.heap.size, 1, none⟩ = some (.int .i64 a) ∧ w'.cell? ⟨w7.heap.size, 2, none⟩ = some (.int .i64 0) ∧ w'.cell? ⟨w7.heap.size, 3, none⟩ = some (.int .i64 b) ∧ w'.cell? ⟨w7.heap.size, 4, none⟩ = some (.bool true)) ∧ Below W5.heap.size W5 w')
      ((refine HS _ ?_; (first | (with_reducible assumption) | (with_reducible exact Below.drew (by assumption)) | (with_reducible exact bAlloc (by assumption) _) | (with_reducible exact Below.drew (bAlloc (by assumption) _)) | (with_reducible exact bSet (by assumption) _ (by first | simp | (simp; omega) | omega) _ _ _ _ _))))
      (first | (go_at_call 17; refine (frame_B _ _ _ W5 _ ?_).mono ?_; (first | (with_reducible assumption) | (with_reducible exact Below.drew (by assumption)) | (with_reducible exact bAlloc (by assumption) _) | (with_reducible exact Below.drew (bAlloc (by assumption) _))); rintro e w6 ⟨rfl, hb6, hbb6⟩; have z6 := hbb6.size; (try simp at z6); (first | (have y6 := Nat.lt_of_succ_le z6) | skip); obtain ⟨hc6, hf6⟩ := bcell hbb6; have HB6 := Lib.hid hbb6; clear hbb6) | (go_at_call 11; refine (acked_is _ _ _ _ _ _ _ _ _ _ _ _ _ _ _ _ _ _ _ _ _ W5 _ R2 ?_).mono ?_; (first | (with_reducible assumption) | (with_reducible exact Below.drew (by assumption)) | (with_reducible exact bAlloc (by assumption) _) | (with_reducible exact Below.drew (bAlloc (by assumption) _))); rintro e w8 ⟨rfl, hbb8, hb8⟩; have z8 := hbb8.size; (try simp at z8); obtain ⟨hc8, hf8⟩ := bcell hbb8; have HB8 := Lib.hid hbb8; clear hbb8))
    all_goals
      go_wp2_with fail
      go_meet
      rename_i hH
      refine ⟨_, rfl, rfl, rfl, ?_, HD.out.kept hH.2, hH.2⟩
      first
        | exact At.new _ _ _ _ _ _ _
        | exact ((At.new w6 0 0 0 0 false 24).kept HB8.out).set _ _ _ _ _
        | exact ((At.new w6 0 0 0 0 false 24).drew.kept HB8.out).set _ _ _ _ _
        | exact (((At.new W5 0 0 0 0 false 24).drew.kept HB6.out).kept HB8.out).set _ _ _ _ _
        | exact (((At.new W5 0 0 0 0 false 24).drew.kept HB6.out).drew.kept HB8.out).set _ _ _ _ _
  case rest =>
    obtain ⟨gx, rfl, rfl, rfl, hX, hD, hb6⟩ := hcut
    obtain ⟨w6, rfl⟩ : ∃ w6 : World, w6 = wc := ⟨_, rfl⟩
    have hB6 := hB5.trans (hb6.mono z5)
    have z6 := hB6.size
    obtain ⟨lX, kX0, kX1, kX2, kX3, kX4, kfX⟩ := hX
    obtain ⟨lD, kD0, kD1, kD2, kD3, kD4, kfD⟩ := hD
    clear hB5 hb6
    go_wp2_with fail
    refine (works_ok _).mono ?_
    rintro e w8 ⟨rfl, hb8⟩
    go_wp2_with fail
    go_ret
    exact ⟨rfl, hB6.trans (hb8.mono z6)⟩

set_option maxRecDepth 100000 in
set_option maxHeartbeats 40000000 in
theorem fails_k1b (s0 s1 kind bi a b n : Int) (w : World) (HA : Hid (s0 % 1048576 = a)) (HBB : Hid (s1 % 1048576 = b)) (HN : Hid (bi % 1048576 = n - 1)) (HK : Hid (kind % 6 = 1)) (a0 : 0 ≤ a) (a1 : a < 1048576) (b0 : 0 ≤ b) (b1 : b < 1048576) (n0 : 1 ≤ n) (n1 : n ≤ 1048576) (x1 : 1 ≤ b) (x2 : n < b) :
    Calls Try.prog 4 #[.agg #[.int .i64 s0, .int .i64 s1], .int .i64 kind, .int .i64 bi] w fun e w' => e = .returned (.bool true) ∧ Below w.heap.size w w' := by
  have R1 : Hid _ := fails_of a b true a 0 (b - n) 0 a0 a1 b0 b1 (by omega) (by omega) (by omega) (by omega) (by simp only [if_true]; omega)
  have R2 : Hid _ := failed_stays (a + b + 10) a 0 b true (a + 1) 0 (b + 1) 1 (by unfold OkC Num; omega) (by unfold Num; omega)
  have qe : ∀ (n a b c : Int) (f : Bool) (w : World), (binOp .eql 24 (.agg #[.int .i64 n, .int .i64 a, .int .i64 b, .int .i64 c, .bool f]) (.agg #[.int .i64 n, .int .i64 a, .int .i64 b, .int .i64 c, .bool f])).run Try.prog w = .ok (.bool true) w := fun n a b c f w => by rw [eql_24, sameC_self]
  have q3 : ∀ (a b c : Int) (w : World), (binOp .neq 22 (.agg #[.int .i64 a, .int .i64 b, .int .i64 c]) (.agg #[.int .i64 a, .int .i64 b, .int .i64 c])).run Try.prog w = .ok (.bool false) w := fun a b c w => by rw [neq_three]; simp
  have g1 : (1 : Int) + (n - 1) = n := by omega
  go_enter Try.func4, Try.ntmps4
  go_wp2_with fail
  go_quiet ((go_at_call 16; refine (bring_any _ _ _ (by omega) (by omega)).mono ?_; rintro e w' ⟨rfl, rfl⟩; exact ⟨rfl, _, rfl⟩))
  rw [HA.out, HBB.out]
  go_wp2_with fail
  refine (bring_is _ _ (n - 1) _ HN (by omega) (by omega)).mono ?_
  rintro e w' ⟨rfl, rfl⟩
  go_wp2_with fail
  refine (frame_any _ _ _ _).mono ?_
  rintro e w' ⟨rfl, rfl⟩
  go_wp2_with fail
  refine (bring_is _ _ 1 _ HK (by omega) (by omega)).mono ?_
  rintro e w' ⟨rfl, rfl⟩
  go_wp2_with fail
  refine (acked_is _ _ _ _ _ _ _ _ _ _ _ _ _ _ _ _ _ _ _ _ _ _ _ R1 (Below.refl _ _)).mono ?_
  rintro e w7 ⟨rfl, hb7, hb7'⟩
  have hC := (f_at _ _ _ _ _ _ _ _ _ _).kept hb7
  have hB7 := (f_base _ _ _ _ _ _).trans (hb7.mono (by simp <;> omega))
  clear hb7 hb7'
  obtain ⟨lC, kC0, kC1, kC2, kC3, kC4, kfC⟩ := id hC
  go_wp2_with fail
  obtain ⟨W5, hW5⟩ : ∃ W, w7.alloc (.cells #[.int .i64 (a + b + 10), .int .i64 a, .int .i64 0, .int .i64 b, .bool true] 24) = W := ⟨_, rfl⟩
  rw [hW5]
  have hD : At W5 w7.heap.size (a + b + 10) a 0 b true := hW5 ▸ At.new w7 (a + b + 10) a 0 b true 24
  have hB5 : Below w.heap.size w W5 := hW5 ▸ hB7.alloc hB7.size _
  have z5 := hB5.size
  clear hW5 hC hB7 lC kC0 kC1 kC2 kC3 kC4 kfC
  go_cut [16, 14, 15] from 125 to 134 (fun s16 s14 s15 wx => ∃ gx, s16 = .pointer (some ⟨gx, 0, none⟩) ∧ s14 = .bool false ∧ s15 = .int .i64 0 ∧ At wx gx (a + b + 10) a 0 b true ∧ At wx w7.heap.size (a + b + 10) a 0 b true ∧ Below W5.heap.size W5 wx)
  case first =>
    have HS : ∀ w', Below W5.heap.size W5 w' → (w'.cell? ⟨w7.heap.size, 0, none⟩ = some (.int .i64 (a + b + 10)) ∧ w'.cell? ⟨w7.heap.size, 1, none⟩ = some (.int .i64 a) ∧ w'.cell? ⟨w7.heap.size, 2, none⟩ = some (.int .i64 0) ∧ w'.cell? ⟨w7.heap.size, 3, none⟩ = some (.int .i64 b) ∧ w'.cell? ⟨w7.heap.size, 4, none⟩ = some (.bool true)) ∧ Below W5.heap.size W5 w' := fun w' hb => by
      obtain ⟨_, kC0, kC1, kC2, kC3, kC4, kfC⟩ := hD.kept hb
      exact ⟨⟨kC0, kC1, kC2, kC3, kC4⟩, hb⟩
    have HD := Lib.hid hD
    have e1 : IntKind.i64.wrap (a + 1) = a + 1 := IntWalk.i64_in _ (by omega)
    have e2 : IntKind.i64.wrap (b + 1) = b + 1 := IntWalk.i64_in _ (by omega)
    have hbR := Below.refl W5.heap.size W5
    clear hD
    go_region_held3 (fun w' => (w'.cell? ⟨w7.heap.size, 0, none⟩ = some (.int .i64 (a + b + 10)) ∧ w'.cell? ⟨w7.heap.size, 1, none⟩ = some (.int .i64 a) ∧ w'.cell? ⟨w7.heap.size, 2, none⟩ = some (.int .i64 0) ∧ w'.cell? ⟨w7.heap.size, 3, none⟩ = some (.int .i64 b) ∧ w'.cell? ⟨w7.heap.size, 4, none⟩ = some (.bool true)) ∧ Below W5.heap.size W5 w')
      ((refine HS _ ?_; (first | (with_reducible assumption) | (with_reducible exact Below.drew (by assumption)) | (with_reducible exact bAlloc (by assumption) _) | (with_reducible exact Below.drew (bAlloc (by assumption) _)) | (with_reducible exact bSet (by assumption) _ (by first | simp | (simp; omega) | omega) _ _ _ _ _))))
      (first | (go_at_call 17; refine (frame_B _ _ _ W5 _ ?_).mono ?_; (first | (with_reducible assumption) | (with_reducible exact Below.drew (by assumption)) | (with_reducible exact bAlloc (by assumption) _) | (with_reducible exact Below.drew (bAlloc (by assumption) _))); rintro e w6 ⟨rfl, hb6, hbb6⟩; have z6 := hbb6.size; (try simp at z6); (first | (have y6 := Nat.lt_of_succ_le z6) | skip); obtain ⟨hc6, hf6⟩ := bcell hbb6; have HB6 := Lib.hid hbb6; clear hbb6) | (go_at_call 11; refine (acked_is _ _ _ _ _ _ _ _ _ _ _ _ _ _ _ _ _ _ _ _ _ W5 _ R2 ?_).mono ?_; (first | (with_reducible assumption) | (with_reducible exact Below.drew (by assumption)) | (with_reducible exact bAlloc (by assumption) _) | (with_reducible exact Below.drew (bAlloc (by assumption) _))); rintro e w8 ⟨rfl, hbb8, hb8⟩; have z8 := hbb8.size; (try simp at z8); obtain ⟨hc8, hf8⟩ := bcell hbb8; have HB8 := Lib.hid hbb8; clear hbb8))
    all_goals
      go_wp2_with fail
      go_meet
      rename_i hH
      refine ⟨_, rfl, rfl, rfl, ?_, HD.out.kept hH.2, hH.2⟩
      first
        | exact At.new _ _ _ _ _ _ _
        | exact ((At.new w6 0 0 0 0 false 24).kept HB8.out).set _ _ _ _ _
        | exact ((At.new w6 0 0 0 0 false 24).drew.kept HB8.out).set _ _ _ _ _
        | exact (((At.new W5 0 0 0 0 false 24).drew.kept HB6.out).kept HB8.out).set _ _ _ _ _
        | exact (((At.new W5 0 0 0 0 false 24).drew.kept HB6.out).drew.kept HB8.out).set _ _ _ _ _
  case rest =>
    obtain ⟨gx, rfl, rfl, rfl, hX, hD, hb6⟩ := hcut
    obtain ⟨w6, rfl⟩ : ∃ w6 : World, w6 = wc := ⟨_, rfl⟩
    have hB6 := hB5.trans (hb6.mono z5)
    have z6 := hB6.size
    obtain ⟨lX, kX0, kX1, kX2, kX3, kX4, kfX⟩ := hX
    obtain ⟨lD, kD0, kD1, kD2, kD3, kD4, kfD⟩ := hD
    clear hB5 hb6
    go_wp2_with fail
    refine (works_ok _).mono ?_
    rintro e w8 ⟨rfl, hb8⟩
    go_wp2_with fail
    go_ret
    exact ⟨rfl, hB6.trans (hb8.mono z6)⟩

set_option maxRecDepth 100000 in
set_option maxHeartbeats 40000000 in
theorem fails_k1z (s0 s1 kind bi a b n : Int) (w : World) (HA : Hid (s0 % 1048576 = a)) (HBB : Hid (s1 % 1048576 = b)) (HN : Hid (bi % 1048576 = n - 1)) (HK : Hid (kind % 6 = 1)) (a0 : 0 ≤ a) (a1 : a < 1048576) (b0 : 0 ≤ b) (b1 : b < 1048576) (n0 : 1 ≤ n) (n1 : n ≤ 1048576) (x1 : b = 0) :
    Calls Try.prog 4 #[.agg #[.int .i64 s0, .int .i64 s1], .int .i64 kind, .int .i64 bi] w fun e w' => e = .returned (.bool true) ∧ Below w.heap.size w w' := by
  subst x1
  have qe : ∀ (n a b c : Int) (f : Bool) (w : World), (binOp .eql 24 (.agg #[.int .i64 n, .int .i64 a, .int .i64 b, .int .i64 c, .bool f]) (.agg #[.int .i64 n, .int .i64 a, .int .i64 b, .int .i64 c, .bool f])).run Try.prog w = .ok (.bool true) w := fun n a b c f w => by rw [eql_24, sameC_self]
  have q3 : ∀ (a b c : Int) (w : World), (binOp .neq 22 (.agg #[.int .i64 a, .int .i64 b, .int .i64 c]) (.agg #[.int .i64 a, .int .i64 b, .int .i64 c])).run Try.prog w = .ok (.bool false) w := fun a b c w => by rw [neq_three]; simp
  have g1 : (1 : Int) + (n - 1) = n := by omega
  go_enter Try.func4, Try.ntmps4
  go_wp2_with fail
  go_quiet ((go_at_call 16; refine (bring_any _ _ _ (by omega) (by omega)).mono ?_; rintro e w' ⟨rfl, rfl⟩; exact ⟨rfl, _, rfl⟩))
  rw [HA.out, HBB.out]
  go_wp2_with fail
  refine (bring_is _ _ (n - 1) _ HN (by omega) (by omega)).mono ?_
  rintro e w' ⟨rfl, rfl⟩
  go_wp2_with fail
  refine (frame_any _ _ _ _).mono ?_
  rintro e w' ⟨rfl, rfl⟩
  go_wp2_with fail
  refine (bring_is _ _ 1 _ HK (by omega) (by omega)).mono ?_
  rintro e w' ⟨rfl, rfl⟩
  go_wp2_with fail
  refine (works_ok _).mono ?_
  rintro e w8 ⟨rfl, hb8⟩
  go_wp2_with fail
  go_ret
  exact ⟨rfl, (f_base _ _ _ _ _ _).trans (hb8.mono (by simp <;> omega))⟩
end Go.Proofs.Ytiocifmebnaabaa
