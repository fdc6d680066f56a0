/-
  The walk of EcnTells.
-/
import Derived.Test.YtiocifmebnaabaaI
import Derived.Deep.RegionHeld3
namespace Go.Proofs.Ytiocifmebnaabaa
open Go.RowKit (wrap32 wrap64)
open Go.RowKit
set_option linter.unusedVariables false
set_option linter.unusedSimpArgs false

/-- A frame lies in its box. -/
structure Fr (W : World) (g : Nat) (d : Int) (A : Option Addr) (l k : Nat) (m : Bool) (e0 e1 e2 : Int) : Prop where
  lt : g < W.heap.size
  c0 : W.cell? ⟨g, 0, none⟩ = some (.int .i64 d)
  c1 : W.cell? ⟨g, 1, none⟩ = some (.slice A l k)
  c2 : W.cell? ⟨g, 2, none⟩ = some (.bool m)
  c3 : W.cell? ⟨g, 3, none⟩ = some (.int .i64 e0)
  c4 : W.cell? ⟨g, 4, none⟩ = some (.int .i64 e1)
  c5 : W.cell? ⟨g, 5, none⟩ = some (.int .i64 e2)
theorem Fr.kept {W w' : World} {g : Nat} {d : Int} {A : Option Addr} {l k : Nat} {m : Bool} {e0 e1 e2 : Int} (h : Fr W g d A l k m e0 e1 e2) (hb : Below W.heap.size W w') : Fr w' g d A l k m e0 e1 e2 := by
  obtain ⟨x, y⟩ := bcell hb
  exact ⟨Nat.lt_of_lt_of_le h.lt hb.size, (x _ _ h.lt).trans h.c0, (x _ _ h.lt).trans h.c1, (x _ _ h.lt).trans h.c2, (x _ _ h.lt).trans h.c3, (x _ _ h.lt).trans h.c4, (x _ _ h.lt).trans h.c5⟩
theorem Fr.alloc {W : World} {g : Nat} {d : Int} {A : Option Addr} {l k : Nat} {m : Bool} {e0 e1 e2 : Int} (h : Fr W g d A l k m e0 e1 e2) (o : Obj) : Fr (W.alloc o) g d A l k m e0 e1 e2 :=
  h.kept ((Below.refl _ _).alloc (Nat.le_refl _) _)
theorem Fr.new1 (W : World) (o : Obj) (d : Int) (A : Option Addr) (l k : Nat) (m : Bool) (e0 e1 e2 : Int) (t : Nat) : Fr ((W.alloc o).alloc (.cells #[.int .i64 d, .slice A l k, .bool m, .int .i64 e0, .int .i64 e1, .int .i64 e2] t)) (W.heap.size + 1) d A l k m e0 e1 e2 :=
  ⟨by simp, by simp, by simp, by simp, by simp, by simp, by simp⟩

theorem own_B (n a b c : Int) (f : Bool) (B W : World) (hB : Below B.heap.size B W) :
    Calls Try.prog 10 #[.agg #[.int .i64 n, .int .i64 a, .int .i64 b, .int .i64 c, .bool f]] W fun e w' => e = .returned (.agg #[.int .i64 n, .int .i64 a, .int .i64 b, .int .i64 c, .bool f]) ∧ Below B.heap.size B w' ∧ Below W.heap.size W w' :=
  (own_any n a b c f W).mono fun _ _ ⟨he, hb⟩ => ⟨he, hB.trans (hb.mono hB.size), hb⟩
theorem check_B (n a b c : Int) (f : Bool) (B W : World) (hB : Below B.heap.size B W) :
    Calls Try.prog 13 #[.agg #[.int .i64 n, .int .i64 a, .int .i64 b, .int .i64 c, .bool f]] W fun e w' => e = .returned (.int .i64 (checkE n a b c)) ∧ Below B.heap.size B w' :=
  (check_any n a b c f W).mono fun _ _ ⟨he, hb⟩ => ⟨he, hb ▸ ((hB.alloc hB.size _).alloc (Nat.le_trans hB.size (by simp)) _)⟩
theorem rcheck_B (n a b c : Int) (f : Bool) (B W : World) (hB : Below B.heap.size B W) :
    Calls Try.prog 14 #[.agg #[.int .i64 n, .int .i64 a, .int .i64 b, .int .i64 c, .bool f]] W fun e w' => e = .returned (.int .i64 (checkE n a b c)) ∧ Below B.heap.size B w' :=
  (rcheck_any n a b c f W).mono fun _ _ ⟨he, hb⟩ => ⟨he, hB.trans (hb.mono hB.size)⟩
theorem works_B (B W : World) (hB : Below B.heap.size B W) :
    Calls Try.prog 15 #[] W fun e w' => e = .returned (.bool true) ∧ Below B.heap.size B w' :=
  (works_ok W).mono fun _ _ ⟨he, hb⟩ => ⟨he, hB.trans (hb.mono hB.size)⟩
theorem racked_B (n a b c : Int) (f : Bool) (d : Int) (A : Option Addr) (l k : Nat) (m : Bool) (e0 e1 e2 newly : Int) (R : CR) (hR : akR n a b c f m e0 e1 e2 newly = R) (B W : World) (hB : Below B.heap.size B W) :
    Calls Try.prog 12 #[.agg #[.int .i64 n, .int .i64 a, .int .i64 b, .int .i64 c, .bool f], .agg #[.int .i64 d, .slice A l k, .bool m, .int .i64 e0, .int .i64 e1, .int .i64 e2], .int .i64 newly] W fun e w' => e = .returned (.tuple #[.agg #[.int .i64 R.n, .int .i64 R.a, .int .i64 R.b, .int .i64 R.c, .bool R.f], .bool R.ce, .int .i64 R.er]) ∧ Below B.heap.size B w' ∧ Below W.heap.size W w' := by
  subst hR
  exact (racked_any n a b c f d A l k m e0 e1 e2 newly W).mono fun _ _ ⟨he, hb⟩ => ⟨he, hB.trans (hb.mono hB.size), hb⟩

theorem bAlloc {B W : World} (h : Below B.heap.size B W) (o : Obj) : Below B.heap.size B (W.alloc o) := h.alloc h.size o
theorem bSet {B W : World} (h : Below B.heap.size B W) (q : Nat) (hq : B.heap.size ≤ q) (v0 v1 v2 v3 v4 : Value) :
    Below B.heap.size B (((((W.setCell ⟨q, 0, none⟩ v0).setCell ⟨q, 1, none⟩ v1).setCell ⟨q, 2, none⟩ v2).setCell ⟨q, 3, none⟩ v3).setCell ⟨q, 4, none⟩ v4) := by go_grown

set_option maxRecDepth 100000 in
set_option maxHeartbeats 40000000 in
theorem tells_any (n a b c : Int) (f : Bool) (d : Int) (A : Option Addr) (l k : Nat) (m : Bool) (e0 e1 e2 newly : Int) (w : World) :
    Calls Try.prog 3 #[.agg #[.int .i64 n, .int .i64 a, .int .i64 b, .int .i64 c, .bool f], .agg #[.int .i64 d, .slice A l k, .bool m, .int .i64 e0, .int .i64 e1, .int .i64 e2], .int .i64 newly] w fun e w' => e = .returned (.bool true) ∧ Below w.heap.size w w' := by
  have q31 : ∀ (n a b c : Int) (f : Bool) (w : World), (binOp .eql 31 (.agg #[.int .i64 n, .int .i64 a, .int .i64 b, .int .i64 c, .bool f]) (.agg #[.int .i64 n, .int .i64 a, .int .i64 b, .int .i64 c, .bool f])).run Try.prog w = .ok (.bool true) w := fun n a b c f w => by rw [eql_31, sameC_self]
  obtain ⟨R, hR⟩ : ∃ R, akR n a b c f m e0 e1 e2 newly = R := ⟨_, rfl⟩
  go_enter Try.func3, Try.ntmps3
  go_wp2_with fail
  have hC0 := (At.new w n a b c f 24).alloc (.cells #[.int .i64 d, .slice A l k, .bool m, .int .i64 e0, .int .i64 e1, .int .i64 e2] 27)
  have hF0 := Fr.new1 w (.cells #[.int .i64 n, .int .i64 a, .int .i64 b, .int .i64 c, .bool f] 24) d A l k m e0 e1 e2 27
  refine (marked_any n a b c f _).mono ?_
  rintro e w1 ⟨rfl, hb1⟩
  have hC1 := hC0.kept hb1
  have hF1 := hF0.kept hb1
  have hB1 : Below w.heap.size w w1 := by
    have h0 : Below w.heap.size w ((w.alloc (.cells #[.int .i64 n, .int .i64 a, .int .i64 b, .int .i64 c, .bool f] 24)).alloc (.cells #[.int .i64 d, .slice A l k, .bool m, .int .i64 e0, .int .i64 e1, .int .i64 e2] 27)) := by go_grown
    exact h0.trans (hb1.mono h0.size)
  clear hC0 hF0 hb1
  have z1 := hB1.size
  obtain ⟨lC, kC0, kC1, kC2, kC3, kC4, kfC⟩ := id hC1
  go_wp2_with fail
  refine (own_any n a b c f _).mono ?_
  rintro e w2 ⟨rfl, hb2⟩
  have hC2 := (hC1.alloc _).kept hb2
  have hF2 := (hF1.alloc _).kept hb2
  have hD2 := (At.new w1 (mkN n a b c) (mkS n a b c a) (mkS n a b c b) (mkS n a b c c) (mkF n a b c f) 24).kept hb2
  have hB2 := (hB1.alloc z1 _).trans (hb2.mono (hB1.alloc z1 _).size)
  clear hC1 hF1 hb2 hB1 lC kC0 kC1 kC2 kC3 kC4 kfC
  have z2 := hB2.size
  go_wp2_with fail
  refine (rmarked_any n a b c f _).mono ?_
  rintro e w3 ⟨rfl, hb3⟩
  have hC3 := hC2.kept hb3
  have hF3 := hF2.kept hb3
  have hD3 := hD2.kept hb3
  have hB3 := hB2.trans (hb3.mono z2)
  clear hC2 hF2 hD2 hB2 hb3
  have z3 := hB3.size
  obtain ⟨lC, kC0, kC1, kC2, kC3, kC4, kfC⟩ := id hC3
  obtain ⟨lF, kF0, kF1, kF2, kF3, kF4, kF5⟩ := id hF3
  go_wp2_with fail
  refine (acked_any n a b c f d A l k m e0 e1 e2 newly _).mono ?_
  rintro e w4 ⟨rfl, hb4⟩
  rw [hR]
  simp only [CR.v]
  have hC4 := (hC3.alloc _).kept hb4
  have hF4 := (hF3.alloc _).kept hb4
  have hD4 := (hD3.alloc _).kept hb4
  have hM4 := (At.new w3 (mkN n a b c) (mkS n a b c a) (mkS n a b c b) (mkS n a b c c) (mkF n a b c f) 31).kept hb4
  have hB4 := (hB3.alloc z3 _).trans (hb4.mono (hB3.alloc z3 _).size)
  clear hC3 hF3 hD3 hb4 hB3 lC kC0 kC1 kC2 kC3 kC4 kfC lF kF0 kF1 kF2 kF3 kF4 kF5
  have z4 := hB4.size
  go_wp2_with fail
  obtain ⟨W5, hW5⟩ : ∃ W, w4.alloc (.cells #[.int .i64 R.n, .int .i64 R.a, .int .i64 R.b, .int .i64 R.c, .bool R.f] 24) = W := ⟨_, rfl⟩
  rw [hW5]
  have hC5 : At W5 w.heap.size n a b c f := hW5 ▸ hC4.alloc _
  have hF5 : Fr W5 (w.heap.size + 1) d A l k m e0 e1 e2 := hW5 ▸ hF4.alloc _
  have hD5 : At W5 w1.heap.size (mkN n a b c) (mkS n a b c a) (mkS n a b c b) (mkS n a b c c) (mkF n a b c f) := hW5 ▸ hD4.alloc _
  have hM5 : At W5 w3.heap.size (mkN n a b c) (mkS n a b c a) (mkS n a b c b) (mkS n a b c c) (mkF n a b c f) := hW5 ▸ hM4.alloc _
  have hX5 : At W5 w4.heap.size R.n R.a R.b R.c R.f := hW5 ▸ At.new _ _ _ _ _ _ _
  have hB5 : Below w.heap.size w W5 := hW5 ▸ hB4.alloc z4 _
  have z5 := hB5.size
  clear hC4 hF4 hD4 hM4 hB4 hW5
  go_cut [14, 15, 16] from 36 to 44 (fun s14 s15 s16 wx => ∃ gy, s14 = .pointer (some ⟨gy, 0, none⟩) ∧ s15 = .bool R.ce ∧ s16 = .int .i64 R.er ∧ At wx gy R.n R.a R.b R.c R.f ∧ Below W5.heap.size W5 wx)
  case first =>
    have HS : ∀ w', Below W5.heap.size W5 w' → (w'.cell? ⟨w.heap.size, 0, none⟩ = some (.int .i64 n) ∧ w'.cell? ⟨w.heap.size, 1, none⟩ = some (.int .i64 a) ∧ w'.cell? ⟨w.heap.size, 2, none⟩ = some (.int .i64 b) ∧ w'.cell? ⟨w.heap.size, 3, none⟩ = some (.int .i64 c) ∧ w'.cell? ⟨w.heap.size, 4, none⟩ = some (.bool f)) ∧ (w'.cell? ⟨w.heap.size + 1, 0, none⟩ = some (.int .i64 d) ∧ w'.cell? ⟨w.heap.size + 1, 1, none⟩ = some (.slice A l k) ∧ w'.cell? ⟨w.heap.size + 1, 2, none⟩ = some (.bool m) ∧ w'.cell? ⟨w.heap.size + 1, 3, none⟩ = some (.int .i64 e0) ∧ w'.cell? ⟨w.heap.size + 1, 4, none⟩ = some (.int .i64 e1) ∧ w'.cell? ⟨w.heap.size + 1, 5, none⟩ = some (.int .i64 e2)) ∧ Below W5.heap.size W5 w' := fun w' hb => by
      obtain ⟨_, kC0, kC1, kC2, kC3, kC4, kfC⟩ := hC5.kept hb
      obtain ⟨_, kF0, kF1, kF2, kF3, kF4, kF5⟩ := hF5.kept hb
      exact ⟨⟨kC0, kC1, kC2, kC3, kC4⟩, ⟨kF0, kF1, kF2, kF3, kF4, kF5⟩, hb⟩
    have hbR := Below.refl W5.heap.size W5
    clear hC5 hF5 hD5 hM5 hX5
    go_region_held3 (fun w' => (w'.cell? ⟨w.heap.size, 0, none⟩ = some (.int .i64 n) ∧ w'.cell? ⟨w.heap.size, 1, none⟩ = some (.int .i64 a) ∧ w'.cell? ⟨w.heap.size, 2, none⟩ = some (.int .i64 b) ∧ w'.cell? ⟨w.heap.size, 3, none⟩ = some (.int .i64 c) ∧ w'.cell? ⟨w.heap.size, 4, none⟩ = some (.bool f)) ∧ (w'.cell? ⟨w.heap.size + 1, 0, none⟩ = some (.int .i64 d) ∧ w'.cell? ⟨w.heap.size + 1, 1, none⟩ = some (.slice A l k) ∧ w'.cell? ⟨w.heap.size + 1, 2, none⟩ = some (.bool m) ∧ w'.cell? ⟨w.heap.size + 1, 3, none⟩ = some (.int .i64 e0) ∧ w'.cell? ⟨w.heap.size + 1, 4, none⟩ = some (.int .i64 e1) ∧ w'.cell? ⟨w.heap.size + 1, 5, none⟩ = some (.int .i64 e2)) ∧ Below W5.heap.size W5 w')
      ((refine HS _ ?_; (first | (with_reducible assumption) | (with_reducible exact Below.drew (by assumption)) | (with_reducible exact bAlloc (by assumption) _) | (with_reducible exact Below.drew (bAlloc (by assumption) _)) | (with_reducible exact bSet (by assumption) _ (by first | simp | (simp; omega) | omega) _ _ _ _ _))))
      (first | (go_at_call 10; refine (own_B n a b c f W5 _ ?_).mono ?_; (first | (with_reducible assumption) | (with_reducible exact Below.drew (by assumption)) | (with_reducible exact bAlloc (by assumption) _) | (with_reducible exact Below.drew (bAlloc (by assumption) _))); rintro e w6 ⟨rfl, hb6, hbb6⟩; have z6 := hbb6.size; (try simp at z6); (first | (have y6 := Nat.lt_of_succ_le z6) | skip); obtain ⟨hc6, hf6⟩ := bcell hbb6; have HB6 := Lib.hid hbb6; clear hbb6) | (go_at_call 12; refine (racked_B n a b c f d A l k m e0 e1 e2 newly R hR W5 _ ?_).mono ?_; (first | (with_reducible assumption) | (with_reducible exact Below.drew (by assumption)) | (with_reducible exact bAlloc (by assumption) _) | (with_reducible exact Below.drew (bAlloc (by assumption) _))); rintro e w7 ⟨rfl, hb7, hbb7⟩; have z7 := hbb7.size; (try simp at z7); obtain ⟨hc7, hf7⟩ := bcell hbb7; have HB7 := Lib.hid hbb7; clear hbb7))
    all_goals
      go_wp2_with fail
      go_meet
      rename_i hH
      refine ⟨_, rfl, rfl, rfl, ?_, hH.2.2⟩
      first
        | exact At.new _ _ _ _ _ _ _
        | exact ((At.new w6 0 0 0 0 false 31).kept HB7.out).set _ _ _ _ _
        | exact (((At.new W5 0 0 0 0 false 31).drew.kept HB6.out).kept HB7.out).set _ _ _ _ _
  case rest =>
    obtain ⟨gy, rfl, rfl, rfl, hY, hb6⟩ := hcut
    obtain ⟨w6, rfl⟩ : ∃ w6 : World, w6 = wc := ⟨_, rfl⟩
    have hC := hC5.kept hb6
    have hD := hD5.kept hb6
    have hM := hM5.kept hb6
    have hX := hX5.kept hb6
    have hB6 := hB5.trans (hb6.mono z5)
    have z6 := hB6.size
    clear hC5 hF5 hD5 hM5 hX5 hb6 hB5
    have HS : ∀ w', Below w6.heap.size w6 w' → (w'.cell? ⟨w.heap.size, 0, none⟩ = some (.int .i64 n) ∧ w'.cell? ⟨w.heap.size, 1, none⟩ = some (.int .i64 a) ∧ w'.cell? ⟨w.heap.size, 2, none⟩ = some (.int .i64 b) ∧ w'.cell? ⟨w.heap.size, 3, none⟩ = some (.int .i64 c) ∧ w'.cell? ⟨w.heap.size, 4, none⟩ = some (.bool f)) ∧ (w'.cell? ⟨w1.heap.size, 0, none⟩ = some (.int .i64 (mkN n a b c)) ∧ w'.cell? ⟨w1.heap.size, 1, none⟩ = some (.int .i64 (mkS n a b c a)) ∧ w'.cell? ⟨w1.heap.size, 2, none⟩ = some (.int .i64 (mkS n a b c b)) ∧ w'.cell? ⟨w1.heap.size, 3, none⟩ = some (.int .i64 (mkS n a b c c)) ∧ w'.cell? ⟨w1.heap.size, 4, none⟩ = some (.bool (mkF n a b c f))) ∧ (w'.cell? ⟨w3.heap.size, 0, none⟩ = some (.int .i64 (mkN n a b c)) ∧ w'.cell? ⟨w3.heap.size, 1, none⟩ = some (.int .i64 (mkS n a b c a)) ∧ w'.cell? ⟨w3.heap.size, 2, none⟩ = some (.int .i64 (mkS n a b c b)) ∧ w'.cell? ⟨w3.heap.size, 3, none⟩ = some (.int .i64 (mkS n a b c c)) ∧ w'.cell? ⟨w3.heap.size, 4, none⟩ = some (.bool (mkF n a b c f))) ∧ (w'.cell? ⟨w4.heap.size, 0, none⟩ = some (.int .i64 R.n) ∧ w'.cell? ⟨w4.heap.size, 1, none⟩ = some (.int .i64 R.a) ∧ w'.cell? ⟨w4.heap.size, 2, none⟩ = some (.int .i64 R.b) ∧ w'.cell? ⟨w4.heap.size, 3, none⟩ = some (.int .i64 R.c) ∧ w'.cell? ⟨w4.heap.size, 4, none⟩ = some (.bool R.f)) ∧ (w'.cell? ⟨gy, 0, none⟩ = some (.int .i64 R.n) ∧ w'.cell? ⟨gy, 1, none⟩ = some (.int .i64 R.a) ∧ w'.cell? ⟨gy, 2, none⟩ = some (.int .i64 R.b) ∧ w'.cell? ⟨gy, 3, none⟩ = some (.int .i64 R.c) ∧ w'.cell? ⟨gy, 4, none⟩ = some (.bool R.f)) ∧ Below w6.heap.size w6 w' := fun w' hb => by
      obtain ⟨_, kC0, kC1, kC2, kC3, kC4, kfC⟩ := hC.kept hb
      obtain ⟨_, kD0, kD1, kD2, kD3, kD4, kfD⟩ := hD.kept hb
      obtain ⟨_, kM0, kM1, kM2, kM3, kM4, kfM⟩ := hM.kept hb
      obtain ⟨_, kX0, kX1, kX2, kX3, kX4, kfX⟩ := hX.kept hb
      obtain ⟨_, kY0, kY1, kY2, kY3, kY4, kfY⟩ := hY.kept hb
      exact ⟨⟨kC0, kC1, kC2, kC3, kC4⟩, ⟨kD0, kD1, kD2, kD3, kD4⟩, ⟨kM0, kM1, kM2, kM3, kM4⟩, ⟨kX0, kX1, kX2, kX3, kX4⟩, ⟨kY0, kY1, kY2, kY3, kY4⟩, hb⟩
    have hbR := Below.refl w6.heap.size w6
    clear hC hD hM hX hY
    go_wp2_with fail
    go_region_held3 (fun w' => (w'.cell? ⟨w.heap.size, 0, none⟩ = some (.int .i64 n) ∧ w'.cell? ⟨w.heap.size, 1, none⟩ = some (.int .i64 a) ∧ w'.cell? ⟨w.heap.size, 2, none⟩ = some (.int .i64 b) ∧ w'.cell? ⟨w.heap.size, 3, none⟩ = some (.int .i64 c) ∧ w'.cell? ⟨w.heap.size, 4, none⟩ = some (.bool f)) ∧ (w'.cell? ⟨w1.heap.size, 0, none⟩ = some (.int .i64 (mkN n a b c)) ∧ w'.cell? ⟨w1.heap.size, 1, none⟩ = some (.int .i64 (mkS n a b c a)) ∧ w'.cell? ⟨w1.heap.size, 2, none⟩ = some (.int .i64 (mkS n a b c b)) ∧ w'.cell? ⟨w1.heap.size, 3, none⟩ = some (.int .i64 (mkS n a b c c)) ∧ w'.cell? ⟨w1.heap.size, 4, none⟩ = some (.bool (mkF n a b c f))) ∧ (w'.cell? ⟨w3.heap.size, 0, none⟩ = some (.int .i64 (mkN n a b c)) ∧ w'.cell? ⟨w3.heap.size, 1, none⟩ = some (.int .i64 (mkS n a b c a)) ∧ w'.cell? ⟨w3.heap.size, 2, none⟩ = some (.int .i64 (mkS n a b c b)) ∧ w'.cell? ⟨w3.heap.size, 3, none⟩ = some (.int .i64 (mkS n a b c c)) ∧ w'.cell? ⟨w3.heap.size, 4, none⟩ = some (.bool (mkF n a b c f))) ∧ (w'.cell? ⟨w4.heap.size, 0, none⟩ = some (.int .i64 R.n) ∧ w'.cell? ⟨w4.heap.size, 1, none⟩ = some (.int .i64 R.a) ∧ w'.cell? ⟨w4.heap.size, 2, none⟩ = some (.int .i64 R.b) ∧ w'.cell? ⟨w4.heap.size, 3, none⟩ = some (.int .i64 R.c) ∧ w'.cell? ⟨w4.heap.size, 4, none⟩ = some (.bool R.f)) ∧ (w'.cell? ⟨gy, 0, none⟩ = some (.int .i64 R.n) ∧ w'.cell? ⟨gy, 1, none⟩ = some (.int .i64 R.a) ∧ w'.cell? ⟨gy, 2, none⟩ = some (.int .i64 R.b) ∧ w'.cell? ⟨gy, 3, none⟩ = some (.int .i64 R.c) ∧ w'.cell? ⟨gy, 4, none⟩ = some (.bool R.f)) ∧ Below w6.heap.size w6 w')
      ((refine HS _ ?_; (first | (with_reducible assumption) | (with_reducible exact Below.drew (by assumption)))))
      (first | (go_at_call 10; refine (own_B _ _ _ _ _ w6 _ ?_).mono ?_; (first | (with_reducible assumption) | (with_reducible exact Below.drew (by assumption))); rintro e w7 ⟨rfl, hb7, hbb7⟩; clear hbb7) | (go_at_call 13; refine (check_B n a b c f w6 _ ?_).mono ?_; (first | (with_reducible assumption) | (with_reducible exact Below.drew (by assumption))); rintro e w7 ⟨rfl, hb7⟩) | (go_at_call 14; refine (rcheck_B n a b c f w6 _ ?_).mono ?_; (first | (with_reducible assumption) | (with_reducible exact Below.drew (by assumption))); rintro e w7 ⟨rfl, hb7⟩) | (go_at_call 15; refine (works_B w6 _ ?_).mono ?_; (first | (with_reducible assumption) | (with_reducible exact Below.drew (by assumption))); rintro e w7 ⟨rfl, hb7⟩))
    all_goals
      go_wp2_with fail
      rename_i hH
      go_ret
      exact ⟨rfl, hB6.trans (hH.2.2.2.2.2.mono z6)⟩
end Go.Proofs.Ytiocifmebnaabaa
