/-
  The walk of EcnStays.
-/
import Derived.Test.YtiocifmebnaabaaV
import Derived.Test.YtiocifmebnaabaaW
namespace Go.Proofs.Ytiocifmebnaabaa
open Go.RowKit (wrap32 wrap64)
open Go.RowKit
set_option linter.unusedVariables false
set_option linter.unusedSimpArgs false

/-- A row of three numbers each that came in. -/
def Rows3 (w : World) (A : Option Addr) (n : Nat) : Prop := ∀ i, i < n → ∃ (b off : Nat) (x y z : Int), A = some ⟨b, off, none⟩ ∧ b < w.heap.size ∧
  w.cell? ⟨b, off + i * 3, none⟩ = some (.int .i64 x) ∧ w.cell? ⟨b, off + i * 3 + 1, none⟩ = some (.int .i64 y) ∧ w.cell? ⟨b, off + i * 3 + 2, none⟩ = some (.int .i64 z)
theorem oldcell {w w1 : World} {b o : Nat} {v : Value} (h : w.cell? ⟨b, o, none⟩ = some v) (hb : Below w.heap.size w w1) (hl : b < w.heap.size) : w1.cell? ⟨b, o, none⟩ = some v := (hb.cell (p := ⟨b, o, none⟩) hl).trans h
theorem Rows3.kept {W w' : World} {A : Option Addr} {n : Nat} (h : Rows3 W A n) (hb : Below W.heap.size W w') : Rows3 w' A n := fun i hi => by
  obtain ⟨b, off, x, y, z, hA, hl, c0, c1, c2⟩ := h i hi
  exact ⟨b, off, x, y, z, hA, Nat.lt_of_lt_of_le hl hb.size, oldcell c0 hb hl, oldcell c1 hb hl, oldcell c2 hb hl⟩
/-- Three numbers in a box. -/
structure Th (W : World) (g : Nat) (x y z : Int) : Prop where
  lt : g < W.heap.size
  c0 : W.cell? ⟨g, 0, none⟩ = some (.int .i64 x)
  c1 : W.cell? ⟨g, 1, none⟩ = some (.int .i64 y)
  c2 : W.cell? ⟨g, 2, none⟩ = some (.int .i64 z)
theorem Th.new (W : World) (x y z : Int) (t : Nat) : Th (W.alloc (.cells #[.int .i64 x, .int .i64 y, .int .i64 z] t)) W.heap.size x y z := ⟨by simp, by simp, by simp, by simp⟩
theorem Th.drew {W : World} {g : Nat} {x y z : Int} (h : Th W g x y z) : Th W.drew g x y z := ⟨h.lt, h.c0, h.c1, h.c2⟩

set_option maxRecDepth 100000 in
set_option maxHeartbeats 40000000 in
theorem stays_any (A : Option Addr) (len cap : Nat) (many : Int) (w : World) (hR : Rows3 w A len) (hl0 : len ≤ 9223372036854775807) :
    Calls Try.prog 5 #[.slice A len cap, .int .i64 many] w fun e w' => e = .returned (.bool true) ∧ Below w.heap.size w w' := by
  have qn : ∀ (n a b c : Int) (f : Bool) (w : World), (binOp .neq 24 (.agg #[.int .i64 n, .int .i64 a, .int .i64 b, .int .i64 c, .bool f]) (.agg #[.int .i64 n, .int .i64 a, .int .i64 b, .int .i64 c, .bool f])).run Try.prog w = .ok (.bool false) w := fun n a b c f w => by rw [neq_24, sameC_self]; rfl
  have q3 : ∀ (a b c : Int) (w : World), (binOp .neq 22 (.agg #[.int .i64 a, .int .i64 b, .int .i64 c]) (.agg #[.int .i64 a, .int .i64 b, .int .i64 c])).run Try.prog w = .ok (.bool false) w := fun a b c w => by rw [neq_three]; simp
  obtain ⟨mm, HMM, mm0, mm1⟩ := name_mod many 4 (by omega)
  have HR := Lib.hid hR
  clear hR
  go_enter Try.func5, Try.ntmps5
  go_wp2_with fail
  go_loopw [6] (fun s wr => ∃ (i : Nat) (n : Int), i ≤ 30 ∧ i ≤ len ∧ s = .int .i64 i ∧ 5 ≤ n ∧ n ≤ 5 + 3 * i ∧ At wr w.heap.size n 2 0 1 true ∧ Below w.heap.size w wr) (fun s _ => 31 - (intOf s).toNat)
  case atStart => exact ⟨0, 5, by omega, by omega, rfl, by omega, by omega, At.new _ _ _ _ _ _ _, by go_grown⟩
  case round =>
    obtain ⟨i, n, hi, hil, rfl, n0, n1, hA, hB⟩ := hrel
    obtain ⟨wo, rfl⟩ : ∃ wo : World, wo = wr := ⟨_, rfl⟩
    have z := hB.size
    by_cases hlt : i < len ∧ i < 30
    · obtain ⟨hlt, h30⟩ := hlt
      obtain ⟨b, off, v0, v1, v2, rfl, hbl, c0, c1, c2⟩ := (HR.out.kept hB) i hlt
      have C0 := Lib.hid c0
      have C1 := Lib.hid c1
      have C2 := Lib.hid c2
      clear c0 c1 c2
      obtain ⟨k0, HK0, p0, p0'⟩ := name_mod v0 100 (by omega)
      obtain ⟨k1, HK1, p1, p1'⟩ := name_mod v1 100 (by omega)
      obtain ⟨k2, HK2, p2, p2'⟩ := name_mod v2 100 (by omega)
      have RR : Hid (∀ m, akR n 2 0 1 true m k0 k1 k2 i = ⟨n, 2, 0, 1, true, false, 0⟩) := fun m => failed_stays n 2 0 1 m k0 k1 k2 i (by unfold OkC Num; omega) (by unfold Num; omega)
      have i0 : (0 : Int) ≤ (i : Int) := by omega
      have i1 : (i : Int) < (len : Int) := by omega
      go_wp2_with fail
      go_cut [7] from 16 to 100 (fun s7 wx => ∃ gk, s7 = .pointer (some ⟨gk, 0, none⟩) ∧ Th wx gk k0 k1 k2 ∧ Below wo.heap.size wo wx)
      case first =>
        have HS : ∀ w', Below wo.heap.size wo w' → (w'.cell? ⟨b, off + i * 3, none⟩ = some (.int .i64 v0) ∧ w'.cell? ⟨b, off + i * 3 + 1, none⟩ = some (.int .i64 v1) ∧ w'.cell? ⟨b, off + i * 3 + 2, none⟩ = some (.int .i64 v2)) ∧ Below wo.heap.size wo w' := fun w' hb => ⟨⟨oldcell C0.out hb hbl, oldcell C1.out hb hbl, oldcell C2.out hb hbl⟩, hb⟩
        have hbR := Below.refl wo.heap.size wo
        go_region_held3 (fun w' => (w'.cell? ⟨b, off + i * 3, none⟩ = some (.int .i64 v0) ∧ w'.cell? ⟨b, off + i * 3 + 1, none⟩ = some (.int .i64 v1) ∧ w'.cell? ⟨b, off + i * 3 + 2, none⟩ = some (.int .i64 v2)) ∧ Below wo.heap.size wo w')
          ((refine HS _ ?_; (first | (with_reducible assumption) | (with_reducible exact Below.drew (by assumption)) | (with_reducible exact bAlloc (by assumption) _) | (with_reducible exact Below.drew (bAlloc (by assumption) _)))))
          ((go_at_call 16; refine (bring_any _ _ _ (by omega) (by omega)).mono ?_; rintro e w' ⟨rfl, rfl⟩; (first | rw [HK0.out] | rw [HK1.out] | rw [HK2.out])))
        all_goals
          go_wp2_with fail
          go_meet
          rename_i hH
          refine ⟨_, rfl, ?_, hH.2⟩
          first
            | with_reducible exact Th.new _ _ _ _ _
            | with_reducible exact Th.drew (Th.new _ _ _ _ _)
      case rest =>
        obtain ⟨gk, rfl, hT, hb⟩ := hcut
        obtain ⟨w5, rfl⟩ : ∃ w5 : World, w5 = wc := ⟨_, rfl⟩
        have hA5 := hA.kept hb
        have hB5 := hB.trans (hb.mono z)
        have z5 := hB5.size
        obtain ⟨lT, t0, t1, t2⟩ := id hT
        obtain ⟨lA, a0, a1, a2, a3, a4, af⟩ := id hA5
        clear hb C0 C1 C2 HK0 HK1 HK2 hA hB
        go_wp2_with fail
        refine (acked_is _ _ _ _ _ _ _ _ _ _ _ _ _ _ _ _ _ _ _ _ _ w5 _ (RR.out _) (Below.refl _ _)).mono ?_
        rintro e w6 ⟨rfl, hb6, hb6'⟩
        clear lT t0 t1 t2 lA a0 a1 a2 a3 a4 af
        have hA6 := hA5.kept hb6
        have hB6 := hB5.trans (hb6.mono z5)
        have z6 := hB6.size
        clear hb6 hb6' hA5 hT hB5
        go_upto_region 7 with (fail)
        obtain ⟨w7, hW7⟩ : ∃ W, w6.alloc (.cells #[.int .i64 n, .int .i64 2, .int .i64 0, .int .i64 1, .bool true] 24) = W := ⟨_, rfl⟩
        rw [hW7]
        have hA7 : At w7 w.heap.size n 2 0 1 true := hW7 ▸ hA6.alloc _
        have hD7 : At w7 w6.heap.size n 2 0 1 true := hW7 ▸ At.new w6 n 2 0 1 true 24
        have hB7 : Below w.heap.size w w7 := hW7 ▸ hB6.alloc z6 _
        clear hW7 hA6 hB6
        obtain ⟨lA, a0, a1, a2, a3, a4, af⟩ := id hA7
        obtain ⟨lD, d0, d1, d2, d3, d4, df⟩ := id hD7
        go_wp2_with fail
        refine (bring_is _ _ mm _ HMM (by omega) (by omega)).mono ?_
        rintro e w' ⟨rfl, rfl⟩
        clear lA a0 a1 a2 a3 a4 af lD d0 d1 d2 d3 d4 df hD7
        go_wp2_with fail
        obtain ⟨wq, rfl⟩ : ∃ wo : World, wo = w7 := ⟨_, rfl⟩
        go_loopw [11] (fun s wr => ∃ (m n' : Int), 0 ≤ m ∧ m ≤ 3 ∧ s = .int .i64 m ∧ 5 ≤ n' ∧ n' + m ≤ 8 + 3 * i ∧ At wr w.heap.size n' 2 0 1 true ∧ Below w.heap.size w wr) (fun s _ => (intOf s).toNat)
        case atStart => exact ⟨mm, n, by omega, by omega, rfl, by omega, by omega, hA7, hB7⟩
        case round =>
          obtain ⟨m, n', m0, m3, rfl, q0, q1, hA, hB⟩ := hrel
          obtain ⟨wv, rfl⟩ : ∃ wo : World, wo = wr := ⟨_, rfl⟩
          have zv := hB.size
          clear hA7 hB7
          by_cases hm : 0 < m
          · have HOK : Hid (OkC n' 2 0 1) := by show OkC n' 2 0 1; unfold OkC Num; omega
            obtain ⟨lA, a0, a1, a2, a3, a4, af⟩ := id hA
            go_wp2_with fail
            refine (marked_ok n' 2 0 1 true _ HOK.out (by omega)).mono ?_
            rintro e w8 ⟨rfl, hb8⟩
            clear lA a0 a1 a2 a3 a4 af
            have hA8 := hA.kept hb8
            have hB8 := hB.trans (hb8.mono zv)
            have z8 := hB8.size
            clear hb8 hA hB
            go_upto_region 13 with (fail)
            obtain ⟨w9, hW9⟩ : ∃ W, w8.alloc (.cells #[.int .i64 (n' + 1), .int .i64 2, .int .i64 0, .int .i64 1, .bool true] 24) = W := ⟨_, rfl⟩
            rw [hW9]
            have hA9 : At w9 w.heap.size n' 2 0 1 true := hW9 ▸ hA8.alloc _
            have hD9 : At w9 w8.heap.size (n' + 1) 2 0 1 true := hW9 ▸ At.new w8 (n' + 1) 2 0 1 true 24
            have hB9 : Below w.heap.size w w9 := hW9 ▸ hB8.alloc z8 _
            clear hW9 hA8 hB8
            obtain ⟨lA, a0, a1, a2, a3, a4, af⟩ := id hA9
            obtain ⟨lD, d0, d1, d2, d3, d4, df⟩ := id hD9
            go_upto_region 15 with (fail)
            go_upto_region 11 with (fail)
            clear lA a0 a1 a2 a3 a4 af lD d0 d1 d2 d3 d4 df
            obtain ⟨w10, hW10⟩ : ∃ W, (((((w9.setCell ⟨w.heap.size, 0, none⟩ (.int .i64 (n' + 1))).setCell ⟨w.heap.size, 1, none⟩ (.int .i64 2)).setCell ⟨w.heap.size, 2, none⟩ (.int .i64 0)).setCell ⟨w.heap.size, 3, none⟩ (.int .i64 1)).setCell ⟨w.heap.size, 4, none⟩ (.bool true)) = W := ⟨_, rfl⟩
            rw [hW10]
            have hA10 : At w10 w.heap.size (n' + 1) 2 0 1 true := hW10 ▸ hA9.set _ _ _ _ _
            have hB10 : Below w.heap.size w w10 := hW10 ▸ (by have := hB9; go_grown)
            clear hW10 hA9 hB9 hD9
            go_wp2_with fail
            exact ⟨⟨m - 1, n' + 1, by omega, by omega, rfl, by omega, by omega, hA10, hB10⟩, by simp [intOf]; omega⟩
          · obtain rfl : m = 0 := by omega
            go_wp2_with fail
            go_roundw
            case rel => exact ⟨i + 1, n', by omega, by omega, by go_num, by omega, by omega, hA, hB⟩
            case measure => simp [intOf]; omega
    · have hc : ¬ (i < len) ∨ (i < len ∧ i = 30) := by omega
      clear hlt
      rcases hc with hc | ⟨hc, h30⟩
      · have d1 : decide (i < len) = false := decide_eq_false hc
        clear hc
        go_wp2_with fail
        refine (works_ok _).mono ?_
        rintro e w8 ⟨rfl, hb8⟩
        go_wp2_with fail
        go_ret
        exact ⟨rfl, hB.trans (hb8.mono z)⟩
      · have d1 : decide (i < len) = true := decide_eq_true hc
        subst h30
        go_wp2_with fail
        refine (works_ok _).mono ?_
        rintro e w8 ⟨rfl, hb8⟩
        go_wp2_with fail
        go_ret
        exact ⟨rfl, hB.trans (hb8.mono z)⟩
end Go.Proofs.Ytiocifmebnaabaa
