/-
  The walk of EcnGrows.
-/
import Derived.Test.YtiocifmebnaabaaJ
import Derived.Deep.QuietTactic
import Derived.Outline
namespace Go.Proofs.Ytiocifmebnaabaa
open Go.RowKit (wrap32 wrap64)
open Go.RowKit
set_option linter.unusedVariables false
set_option linter.unusedSimpArgs false

/-- Bring, its result named. -/
theorem bring_is (i n r : Int) (w : World) (h : Hid (i % n = r)) (h0 : 1 ≤ n) (h1 : n ≤ 9223372036854775807) :
    Calls Try.prog 16 #[.int .i64 i, .int .i64 n] w fun e w' => e = .returned (.int .i64 r) ∧ w = w' := by
  have h' := h.out
  subst h'
  exact bring_any i n w h0 h1
theorem name_mod (i n : Int) (h0 : 1 ≤ n) : ∃ r : Int, Hid (i % n = r) ∧ 0 ≤ r ∧ r < n :=
  ⟨i % n, rfl, Int.emod_nonneg i (by omega), Int.emod_lt_of_pos i (by omega)⟩
/-- Acked, of a frame whose result is reckoned; the frame is any. -/
theorem acked_is (n a b c : Int) (f : Bool) (d : Int) (A : Option Addr) (l k : Nat) (m : Bool) (e0 e1 e2 newly : Int) (rn ra rb rc : Int) (rf ce : Bool) (er : Int) (B W : World) (hr : Hid (akR n a b c f m e0 e1 e2 newly = ⟨rn, ra, rb, rc, rf, ce, er⟩)) (hB : Below B.heap.size B W) :
    Calls Try.prog 11 #[.agg #[.int .i64 n, .int .i64 a, .int .i64 b, .int .i64 c, .bool f], .agg #[.int .i64 d, .slice A l k, .bool m, .int .i64 e0, .int .i64 e1, .int .i64 e2], .int .i64 newly] W fun e w' =>
      e = .returned (.tuple #[.agg #[.int .i64 rn, .int .i64 ra, .int .i64 rb, .int .i64 rc, .bool rf], .bool ce, .int .i64 er]) ∧ Below W.heap.size W w' ∧ Below B.heap.size B w' := by
  refine (acked_any _ _ _ _ _ _ _ _ _ _ _ _ _ _ _).mono ?_
  rintro e w' ⟨rfl, hb⟩
  rw [hr.out]
  exact ⟨rfl, hb, hB.trans (hb.mono hB.size)⟩
theorem frame_B (x y z : Int) (B W : World) (hB : Below B.heap.size B W) :
    Calls Try.prog 17 #[.int .i64 x, .int .i64 y, .int .i64 z] W fun e w' => e = .returned (.agg #[.int .i64 0, .slice none 0 0, .bool true, .int .i64 x, .int .i64 y, .int .i64 z]) ∧ Below B.heap.size B w' ∧ Below W.heap.size W w' := by
  refine (frame_any _ _ _ _).mono ?_
  rintro e w' ⟨rfl, rfl⟩
  exact ⟨rfl, bAlloc hB _, (Below.refl _ _).alloc (Nat.le_refl _) _⟩

/-- Less than half of what a number may be. -/
theorem num_of {x : Int} (h0 : 0 ≤ x) (h1 : x ≤ 9007199254740991) : Num x := ⟨h0, h1⟩
theorem grows_r1 (a b left x y nw : Int) (ha : 0 ≤ a) (ha' : a < 1048576) (hb : 0 ≤ b) (hb' : b < 1048576) (hl : 0 ≤ left) (hl' : left < 1048576) (hx : 0 ≤ x) (hx' : x < left + 1) (hy : 0 ≤ y) (hy' : y < left - x + 1) (hn : 0 ≤ nw) (hn' : nw < x + y + 1) :
    akR (a + b + left) a 0 b false true (a + x) 0 (b + y) nw = ⟨a + b + left, a + x, 0, b + y, false, decide (0 < y), 0⟩ := by
  have h : OkC (a + b + left) a 0 b := by unfold OkC Num; omega
  have h' : Num nw ∧ Num (a + x) ∧ Num 0 ∧ Num (b + y) := by unfold Num; omega
  have hF : failsB (a + b + left) a 0 b (a + x) 0 (b + y) nw = false := by
    unfold failsB
    have x0 : decide (a + x < a) = false := by rw [decide_eq_false_iff_not]; omega
    have x2 : decide (b + y < b) = false := by rw [decide_eq_false_iff_not]; omega
    have x3 : decide (a + b + left < a + x + (b + y)) = false := by rw [decide_eq_false_iff_not]; omega
    have x4 : decide (a + x + (b + y) - (a + b) < nw) = false := by rw [decide_eq_false_iff_not]; omega
    rw [x0, x2, x3, x4]; rfl
  rw [akR, if_pos h, if_pos h', if_neg (by decide), if_neg (by simp [bad, hF]), if_pos rfl]
  congr 1
  rw [decide_eq_decide]; omega
theorem grows_r2 (n a c : Int) (h : OkC n a 0 c) : akR n a 0 c false false 1 2 3 0 = ⟨n, a, 0, c, false, false, 0⟩ := by
  have h' : Num 0 ∧ Num 1 ∧ Num 2 ∧ Num 3 := by unfold Num; omega
  rw [akR, if_pos h, if_pos h', if_neg (by decide), if_neg (by simp [bad]), if_neg (by decide)]

set_option maxRecDepth 100000 in
set_option maxHeartbeats 40000000 in
theorem grows_any (s0 s1 s2 m0 m1 newly : Int) (w : World) :
    Calls Try.prog 6 #[.agg #[.int .i64 s0, .int .i64 s1, .int .i64 s2], .agg #[.int .i64 m0, .int .i64 m1], .int .i64 newly] w fun e w' => e = .returned (.bool true) ∧ Below w.heap.size w w' := by
  have qe : ∀ (n a b c : Int) (f : Bool) (w : World), (binOp .eql 24 (.agg #[.int .i64 n, .int .i64 a, .int .i64 b, .int .i64 c, .bool f]) (.agg #[.int .i64 n, .int .i64 a, .int .i64 b, .int .i64 c, .bool f])).run Try.prog w = .ok (.bool true) w := fun n a b c f w => by rw [eql_24, sameC_self]
  have qn : ∀ (n a b c : Int) (f : Bool) (w : World), (binOp .neq 24 (.agg #[.int .i64 n, .int .i64 a, .int .i64 b, .int .i64 c, .bool f]) (.agg #[.int .i64 n, .int .i64 a, .int .i64 b, .int .i64 c, .bool f])).run Try.prog w = .ok (.bool false) w := fun n a b c f w => by rw [neq_24, sameC_self]; rfl
  obtain ⟨a, HA, a0, a1⟩ := name_mod s0 1048576 (by omega)
  obtain ⟨b, HBB, b0, b1⟩ := name_mod s1 1048576 (by omega)
  obtain ⟨left, HL, l0, l1⟩ := name_mod s2 1048576 (by omega)
  obtain ⟨x, HX, x0, x1⟩ := name_mod m0 (left + 1) (by omega)
  obtain ⟨y, HY, y0, y1⟩ := name_mod m1 (left - x + 1) (by omega)
  obtain ⟨nw, HN, n0, n1⟩ := name_mod newly (x + y + 1) (by omega)
  have R1 : Hid _ := grows_r1 a b left x y nw a0 a1 b0 b1 l0 l1 x0 x1 y0 y1 n0 n1
  have R2 : Hid _ := grows_r2 (a + b + left) (a + x) (b + y) (by unfold OkC Num; omega)
  have e1 : IntKind.i64.wrap (a + x) = a + x := IntWalk.i64_in _ (by omega)
  have e2 : IntKind.i64.wrap (b + y) = b + y := IntWalk.i64_in _ (by omega)
  have e3 : IntKind.i64.wrap (x + y) = x + y := IntWalk.i64_in _ (by omega)
  have e4 : IntKind.i64.wrap (x + y + 1) = x + y + 1 := IntWalk.i64_in _ (by omega)
  go_enter Try.func6, Try.ntmps6
  go_wp2_with fail
  go_quiet ((go_at_call 16; refine (bring_any _ _ _ (by omega) (by omega)).mono ?_; rintro e w' ⟨rfl, rfl⟩; exact ⟨rfl, _, rfl⟩))
  rw [HA.out, HBB.out, HL.out]
  go_wp2_with fail
  refine (bring_is _ _ x _ HX (by omega) (by omega)).mono ?_
  rintro e w' ⟨rfl, rfl⟩
  go_wp2_with fail
  refine (bring_is _ _ y _ HY (by omega) (by omega)).mono ?_
  rintro e w' ⟨rfl, rfl⟩
  go_wp2_with fail
  obtain ⟨W5, hW5⟩ : ∃ W, ((((w.alloc (.cells #[.int .i64 s0, .int .i64 s1, .int .i64 s2] 22)).alloc (.cells #[.int .i64 m0, .int .i64 m1] 43)).drewN nq).alloc (.cells #[.int .i64 (a + b + left), .int .i64 a, .int .i64 0, .int .i64 b, .bool false] 24)) = W := ⟨_, rfl⟩
  rw [hW5]
  have hC : At W5 (w.heap.size + 1 + 1) (a + b + left) a 0 b false := hW5 ▸ (by simpa using At.new ((((w.alloc (.cells #[.int .i64 s0, .int .i64 s1, .int .i64 s2] 22)).alloc (.cells #[.int .i64 m0, .int .i64 m1] 43)).drewN nq)) (a + b + left) a 0 b false 24)
  have hB5 : Below w.heap.size w W5 := hW5 ▸ (belowDrewN (((Below.refl _ w).alloc (Nat.le_refl _) _).alloc (by simp) _) nq).alloc (by simp; omega) _
  have z5 := hB5.size
  clear hW5
  go_cut [13, 14, 15] from 48 to 65 (fun s13 s14 s15 wx => ∃ gd, s13 = .pointer (some ⟨gd, 0, none⟩) ∧ s14 = .bool (decide (0 < y)) ∧ s15 = .int .i64 0 ∧ At wx gd (a + b + left) (a + x) 0 (b + y) false ∧ Below W5.heap.size W5 wx)
  case first =>
    have HS : ∀ w', Below W5.heap.size W5 w' → (w'.cell? ⟨w.heap.size + 1 + 1, 0, none⟩ = some (.int .i64 (a + b + left)) ∧ w'.cell? ⟨w.heap.size + 1 + 1, 1, none⟩ = some (.int .i64 a) ∧ w'.cell? ⟨w.heap.size + 1 + 1, 2, none⟩ = some (.int .i64 0) ∧ w'.cell? ⟨w.heap.size + 1 + 1, 3, none⟩ = some (.int .i64 b) ∧ w'.cell? ⟨w.heap.size + 1 + 1, 4, none⟩ = some (.bool false)) ∧ Below W5.heap.size W5 w' := fun w' hb => by
      obtain ⟨_, kC0, kC1, kC2, kC3, kC4, kfC⟩ := hC.kept hb
      exact ⟨⟨kC0, kC1, kC2, kC3, kC4⟩, hb⟩
    have hbR := Below.refl W5.heap.size W5
    clear hC
    go_region_held3 (fun w' => (w'.cell? ⟨w.heap.size + 1 + 1, 0, none⟩ = some (.int .i64 (a + b + left)) ∧ w'.cell? ⟨w.heap.size + 1 + 1, 1, none⟩ = some (.int .i64 a) ∧ w'.cell? ⟨w.heap.size + 1 + 1, 2, none⟩ = some (.int .i64 0) ∧ w'.cell? ⟨w.heap.size + 1 + 1, 3, none⟩ = some (.int .i64 b) ∧ w'.cell? ⟨w.heap.size + 1 + 1, 4, none⟩ = some (.bool false)) ∧ Below W5.heap.size W5 w')
      ((refine HS _ ?_; (first | (with_reducible assumption) | (with_reducible exact Below.drew (by assumption)) | (with_reducible exact bAlloc (by assumption) _) | (with_reducible exact Below.drew (bAlloc (by assumption) _)) | (with_reducible exact bSet (by assumption) _ (by first | simp | (simp; omega) | omega) _ _ _ _ _))))
      (first | (go_at_call 16; refine (bring_is _ _ nw _ HN (by omega) (by omega)).mono ?_; rintro e w' ⟨rfl, rfl⟩) | (go_at_call 17; refine (frame_B _ _ _ W5 _ ?_).mono ?_; (first | (with_reducible assumption) | (with_reducible exact Below.drew (by assumption)) | (with_reducible exact bAlloc (by assumption) _) | (with_reducible exact Below.drew (bAlloc (by assumption) _))); rintro e w6 ⟨rfl, hb6, hbb6⟩; have z6 := hbb6.size; (try simp at z6); (first | (have y6 := Nat.lt_of_succ_le z6) | skip); obtain ⟨hc6, hf6⟩ := bcell hbb6; have HB6 := Lib.hid hbb6; clear hbb6) | (go_at_call 11; refine (acked_is _ _ _ _ _ _ _ _ _ _ _ _ _ _ _ _ _ _ _ _ _ W5 _ R1 ?_).mono ?_; (first | (with_reducible assumption) | (with_reducible exact Below.drew (by assumption)) | (with_reducible exact bAlloc (by assumption) _) | (with_reducible exact Below.drew (bAlloc (by assumption) _))); rintro e w7 ⟨rfl, hbb7, hb7⟩; have z7 := hbb7.size; (try simp at z7); obtain ⟨hc7, hf7⟩ := bcell hbb7; have HB7 := Lib.hid hbb7; clear hbb7))
    all_goals
      go_wp2_with fail
      go_meet
      rename_i hH
      refine ⟨_, rfl, rfl, rfl, ?_, hH.2⟩
      first
        | exact At.new _ _ _ _ _ _ _
        | exact ((At.new w6 0 0 0 0 false 24).kept HB7.out).set _ _ _ _ _
        | exact ((At.new w6 0 0 0 0 false 24).drew.kept HB7.out).set _ _ _ _ _
        | exact (((At.new W5 0 0 0 0 false 24).drew.kept HB6.out).kept HB7.out).set _ _ _ _ _
        | exact (((At.new W5 0 0 0 0 false 24).drew.kept HB6.out).drew.kept HB7.out).set _ _ _ _ _
  case rest =>
    obtain ⟨gd, rfl, rfl, rfl, hD, hb6⟩ := hcut
    obtain ⟨w6, rfl⟩ : ∃ w6 : World, w6 = wc := ⟨_, rfl⟩
    obtain ⟨_, kC0, kC1, kC2, kC3, kC4, kfC⟩ := hC.kept hb6
    have hB6 := hB5.trans (hb6.mono z5)
    have z6 := hB6.size
    clear hC hB5 hb6
    obtain ⟨lD, kD0, kD1, kD2, kD3, kD4, kfD⟩ := id hD
    by_cases hy : 0 < y
    all_goals
      go_wp2_with fail
      refine (acked_is _ _ _ _ _ _ _ _ _ _ _ _ _ _ _ _ _ _ _ _ _ w6 _ R2 (Below.refl _ _)).mono ?_
      rintro e w7 ⟨rfl, hb7, hb7'⟩
      clear kC0 kC1 kC2 kC3 kC4 kfC lD kD0 kD1 kD2 kD3 kD4 kfD
      obtain ⟨lD, kD0, kD1, kD2, kD3, kD4, kfD⟩ := hD.kept hb7
      have hB7 := hB6.trans (hb7.mono z6)
      have z7 := hB7.size
      clear hb7 hb7'
      go_wp2_with fail
      refine (works_ok _).mono ?_
      rintro e w8 ⟨rfl, hb8⟩
      go_wp2_with fail
      go_ret
      exact ⟨rfl, (hB7.alloc z7 _).trans (hb8.mono (hB7.alloc z7 _).size)⟩
end Go.Proofs.Ytiocifmebnaabaa
