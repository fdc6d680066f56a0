/-
  The walk of WindowGrows.
-/
import Derived.Test.YtcjhankepchioaaR
namespace Go.Proofs.Ytcjhankepchioaa
open Go.RowKit (wrap32 wrap64)
open Go.RowKit
set_option linter.unusedVariables false
set_option linter.unusedSimpArgs false

/-- A row of numbers that came in. -/
def Row (w : World) (A : Option Addr) (n : Nat) : Prop := ∀ i, i < n → ∃ (b off : Nat) (p : Int), A = some ⟨b, off, none⟩ ∧ b < w.heap.size ∧ w.cell? ⟨b, off + i, none⟩ = some (.int .i64 p)
theorem Row.kept {W w' : World} {A : Option Addr} {n m : Nat} (h : Row W A n) (hb : Below m W w') (hm : W.heap.size ≤ m := by exact Nat.le_refl _) : Row w' A n := fun i hi => by
  obtain ⟨b, off, p, hA, hl, c0⟩ := h i hi
  exact ⟨b, off, p, hA, Nat.lt_of_lt_of_le hl hb.size, oldcellB c0 hb (by omega)⟩
theorem grows_law (fi mo R rest c n : Int) (h : c = mn (fi + (R - rest)) mo) (hn : 0 ≤ n) : mn (c + n) mo = mn (fi + (R - (rest - n))) mo := by
  subst h; unfold mn; split <;> split <;> (try split) <;> omega
theorem acked_first (da c mo k n : Int) : acked (first da c mo) k n true = first da (mn (c + n) mo) mo := by
  unfold acked
  have hs : Slow (first da c mo) := Or.inl rfl
  have hb : Behind (first da c mo) k := Or.inl rfl
  rw [if_pos ⟨rfl, hb⟩, if_pos hs]
  rfl
theorem gacked (da c mo k n : Int) (hO : Ok (first da c mo)) (k0 : 0 ≤ k) (k1 : k ≤ 9007199254740991) (n0 : 1 ≤ n) (n1 : n ≤ 65535) (w : World) :
    Calls Try.prog 28 #[.agg #[.int .i64 da, .int .i64 mo, .int .i64 c, .int .i64 (-1), .int .i64 (-1), .int .i64 0], .int .i64 k, .int .i64 n] w fun e w' => e = .returned (.agg #[.int .i64 da, .int .i64 mo, .int .i64 (mn (c + n) mo), .int .i64 (-1), .int .i64 (-1), .int .i64 0]) ∧ Below w.heap.size w w' :=
  facked_ok (first da c mo) hO k n (first da (mn (c + n) mo) mo) (Lib.hid ⟨k0, k1⟩) (Lib.hid ⟨n0, n1⟩) w (acked_first da c mo k n)

set_option maxRecDepth 100000 in
set_option maxHeartbeats 40000000 in
theorem grows_any (x0 x1 x2 : Int) (A : Option Addr) (len cap : Nat) (w : World) (hR : Row w A len) (hl0 : len ≤ 9223372036854775807) :
    Calls Try.prog 9 #[.agg #[.int .i64 x0, .int .i64 x1, .int .i64 x2], .slice A len cap] w fun e w' => e = .returned (.bool true) ∧ Below w.heap.size w w' := by
  obtain ⟨da, fi, mo, hm, hda, hmade⟩ := made_any x0 x1 x2
  clear hda
  obtain ⟨m1, m2, m3, m4, m5, m6⟩ := hm
  have HR := Lib.hid hR
  clear hR
  go_enter Try.func9, Try.ntmps9
  go_wp2_with fail
  refine (hmade _).mono ?_
  rintro e w1 ⟨rfl, hb1⟩
  clear hmade
  have hB1 : Below w.heap.size w w1 := ((Below.refl _ w).alloc (Nat.le_refl _) _).trans (hb1.mono (by simp <;> omega))
  have z1 := hB1.size
  clear hb1
  go_upto_region 2 with (fail)
  obtain ⟨g5, hg5⟩ : ∃ g, w1.heap.size = g := ⟨_, rfl⟩
  obtain ⟨W2, hW2⟩ : ∃ W, w1.alloc (.cells #[.int .i64 da, .int .i64 mo, .int .i64 fi, .int .i64 (-1), .int .i64 (-1), .int .i64 0] 26) = W := ⟨_, rfl⟩
  rw [hW2, hg5]
  have hX2 : BW W2 g5 (first da fi mo) := hg5 ▸ hW2 ▸ BW.new w1 (first da fi mo) 26
  have hB2 : Below w.heap.size w W2 := hW2 ▸ hB1.alloc z1 _
  have hg : w.heap.size ≤ g5 := hg5 ▸ z1
  clear hW2 hB1 hg5
  obtain ⟨lx, a0, a1, a2, a3, a4, a5, af⟩ : Bx W2 g5 da mo fi (-1) (-1) 0 := id hX2
  go_upto_region 3 with (fail)
  obtain ⟨R, hR⟩ : ∃ R : Int, (if (4000000 : Int) < fi then 4000000 else fi) = R := ⟨_, rfl⟩
  rw [hR]
  have hR1 : 1 ≤ R ∧ R ≤ 4000000 := by rw [← hR]; split <;> omega
  obtain ⟨hR1, hR2⟩ := hR1
  clear hR
  go_upto_region 4 with (fail)
  obtain ⟨W, hW⟩ : ∃ W : Int, (if mo < fi + R then mo else fi + R) = W := ⟨_, rfl⟩
  rw [hW]
  have HW : Hid (mn (fi + (R - 0)) mo = W) := by show mn (fi + (R - 0)) mo = W; rw [← hW, mn_lt, Int.sub_zero]
  clear hW lx a0 a1 a2 a3 a4 a5 af
  go_wp2_with fail
  go_loopw [6, 8] (fun s6 s8 wr => ∃ (k : Nat) (rest c : Int), s6 = .int .i64 rest ∧ s8 = .int .i64 k ∧ 0 ≤ rest ∧ rest ≤ R ∧ (k : Int) ≤ R - rest ∧ c = mn (fi + (R - rest)) mo ∧ BW wr g5 (first da c mo) ∧ Below w.heap.size w wr) (fun s6 _ _ => (intOf s6).toNat)
  case atStart => exact ⟨0, R, fi, rfl, rfl, by omega, by omega, by omega, by unfold mn; split <;> omega, hX2, hB2⟩
  case round =>
    obtain ⟨k, rest, c, rfl, rfl, r0, r1, hk, hc, hX, hB⟩ := hrel
    obtain ⟨wo, rfl⟩ : ∃ wo : World, wo = wr := ⟨_, rfl⟩
    have z := hB.size
    clear hX2 hB2
    have hc0 : 2 * da ≤ c ∧ c ≤ mo := by rw [hc]; unfold mn; split <;> omega
    obtain ⟨hc0, hc1⟩ := hc0
    have HCC := Lib.hid hc
    have HOC := Lib.hid (first_ok da c mo m1 m2 m4 hc0 hc1)
    clear hc
    obtain ⟨lx, a0, a1, a2, a3, a4, a5, af⟩ : Bx wo g5 da mo c (-1) (-1) 0 := id hX
    by_cases hr : 0 < rest
    · go_upto_region 8 with (fail)
      obtain ⟨nn, hnn⟩ : ∃ nn : Int, (if (65535 : Int) < rest then 65535 else rest) = nn := ⟨_, rfl⟩
      rw [hnn]
      have hn1 : 1 ≤ nn ∧ nn ≤ 65535 ∧ nn ≤ rest := by rw [← hnn]; split <;> omega
      obtain ⟨hn1, hn2, hn3⟩ := hn1
      clear hnn
      by_cases hp : k < len ∧ k < 50
      · obtain ⟨hp1, hp2⟩ := hp
        obtain ⟨b, off, p, rfl, hbl, c0⟩ := (HR.out.kept hB) k hp1
        obtain ⟨v, HV, v0, v1⟩ := name_mod p nn (by omega)
        obtain ⟨n, hn⟩ : ∃ n, 1 + v = n := ⟨_, rfl⟩
        have i0 : (0 : Int) ≤ (k : Int) := by omega
        have i1 : (k : Int) < (len : Int) := by omega
        go_wp2_with fail
        refine (bring_is _ _ v _ HV (by omega) (by omega)).mono ?_
        rintro e w' ⟨rfl, rfl⟩
        clear c0
        have hn' : 1 ≤ n ∧ n ≤ nn := by omega
        obtain ⟨hn4, hn5⟩ := hn'
        go_wp2_with fail
        clear hn
        -- slot 9 holds n
        refine (gacked da c mo (k : Int) n HOC.out (by omega) (by omega) (by omega) (by omega) _).mono ?_
        rintro e w5 ⟨rfl, hb5⟩
        clear lx a0 a1 a2 a3 a4 a5 af
        have hX5 : BW w5 g5 (first da c mo) := hX.kept hb5
        have hb5' := hb5
        obtain ⟨lx, a0, a1, a2, a3, a4, a5, af⟩ : Bx w5 g5 da mo c (-1) (-1) 0 := id hX5
        clear hb5
        go_upto_region 11 with (fail)
        clear lx a0 a1 a2 a3 a4 a5 af
        obtain ⟨w8, hW8⟩ : ∃ W, ((((((w5.setCell ⟨g5, 0, none⟩ (.int .i64 da)).setCell ⟨g5, 1, none⟩ (.int .i64 mo)).setCell ⟨g5, 2, none⟩ (.int .i64 (mn (c + n) mo))).setCell ⟨g5, 3, none⟩ (.int .i64 (-1))).setCell ⟨g5, 4, none⟩ (.int .i64 (-1))).setCell ⟨g5, 5, none⟩ (.int .i64 0)) = W := ⟨_, rfl⟩
        rw [hW8]
        have hX8 : BW w8 g5 (first da (mn (c + n) mo) mo) := hW8 ▸ BW.set6 hX5 (first da (mn (c + n) mo) mo)
        have hb8 : Below g5 wo w8 := hW8 ▸ bset (hb5'.mono (Nat.le_of_lt hX.lt)) _ (Nat.le_refl _) _ _ _ _ _ _
        have hB8 : Below w.heap.size w w8 := hB.trans (hb8.mono hg)
        clear hW8 hb8 hX5 hX hB hb5'
        obtain ⟨c', hc'⟩ : ∃ c', mn (c + n) mo = c' := ⟨_, rfl⟩
        rw [hc'] at hX8
        go_wp2_with fail
        exact ⟨⟨k + 1, rest - n, c', rfl, by go_num, by omega, by omega, by omega, by rw [← hc']; exact grows_law fi mo R rest c n HCC.out (by omega), hX8, hB8⟩, by simp [intOf]; omega⟩
      · have hq : ¬ (k < len) ∨ (k < len ∧ 50 ≤ k) := by omega
        clear hp
        obtain ⟨n, rfl⟩ : ∃ n, n = nn := ⟨_, rfl⟩
        rcases hq with hq | ⟨hq, hq2⟩
        · have d1 : decide (k < len) = false := decide_eq_false hq
          have d2 : decide ((k : Int) < (len : Int)) = false := by rw [decide_eq_false_iff_not]; omega
          clear hq
          go_wp2_with fail
          -- slot 9 holds n
          refine (gacked da c mo (k : Int) n HOC.out (by omega) (by omega) (by omega) (by omega) _).mono ?_
          rintro e w5 ⟨rfl, hb5⟩
          clear lx a0 a1 a2 a3 a4 a5 af
          have hX5 : BW w5 g5 (first da c mo) := hX.kept hb5
          have hb5' := hb5
          obtain ⟨lx, a0, a1, a2, a3, a4, a5, af⟩ : Bx w5 g5 da mo c (-1) (-1) 0 := id hX5
          clear hb5
          go_upto_region 11 with (fail)
          clear lx a0 a1 a2 a3 a4 a5 af
          obtain ⟨w8, hW8⟩ : ∃ W, ((((((w5.setCell ⟨g5, 0, none⟩ (.int .i64 da)).setCell ⟨g5, 1, none⟩ (.int .i64 mo)).setCell ⟨g5, 2, none⟩ (.int .i64 (mn (c + n) mo))).setCell ⟨g5, 3, none⟩ (.int .i64 (-1))).setCell ⟨g5, 4, none⟩ (.int .i64 (-1))).setCell ⟨g5, 5, none⟩ (.int .i64 0)) = W := ⟨_, rfl⟩
          rw [hW8]
          have hX8 : BW w8 g5 (first da (mn (c + n) mo) mo) := hW8 ▸ BW.set6 hX5 (first da (mn (c + n) mo) mo)
          have hb8 : Below g5 wo w8 := hW8 ▸ bset (hb5'.mono (Nat.le_of_lt hX.lt)) _ (Nat.le_refl _) _ _ _ _ _ _
          have hB8 : Below w.heap.size w w8 := hB.trans (hb8.mono hg)
          clear hW8 hb8 hX5 hX hB hb5'
          obtain ⟨c', hc'⟩ : ∃ c', mn (c + n) mo = c' := ⟨_, rfl⟩
          rw [hc'] at hX8
          go_wp2_with fail
          exact ⟨⟨k + 1, rest - n, c', rfl, by go_num, by omega, by omega, by omega, by rw [← hc']; exact grows_law fi mo R rest c n HCC.out (by omega), hX8, hB8⟩, by simp [intOf]; omega⟩
        · have d1 : decide (k < len) = true := decide_eq_true hq
          have d2 : (50 : Int) ≤ (k : Int) := by omega
          go_wp2_with fail
          -- slot 9 holds n
          refine (gacked da c mo (k : Int) n HOC.out (by omega) (by omega) (by omega) (by omega) _).mono ?_
          rintro e w5 ⟨rfl, hb5⟩
          clear lx a0 a1 a2 a3 a4 a5 af
          have hX5 : BW w5 g5 (first da c mo) := hX.kept hb5
          have hb5' := hb5
          obtain ⟨lx, a0, a1, a2, a3, a4, a5, af⟩ : Bx w5 g5 da mo c (-1) (-1) 0 := id hX5
          clear hb5
          go_upto_region 11 with (fail)
          clear lx a0 a1 a2 a3 a4 a5 af
          obtain ⟨w8, hW8⟩ : ∃ W, ((((((w5.setCell ⟨g5, 0, none⟩ (.int .i64 da)).setCell ⟨g5, 1, none⟩ (.int .i64 mo)).setCell ⟨g5, 2, none⟩ (.int .i64 (mn (c + n) mo))).setCell ⟨g5, 3, none⟩ (.int .i64 (-1))).setCell ⟨g5, 4, none⟩ (.int .i64 (-1))).setCell ⟨g5, 5, none⟩ (.int .i64 0)) = W := ⟨_, rfl⟩
          rw [hW8]
          have hX8 : BW w8 g5 (first da (mn (c + n) mo) mo) := hW8 ▸ BW.set6 hX5 (first da (mn (c + n) mo) mo)
          have hb8 : Below g5 wo w8 := hW8 ▸ bset (hb5'.mono (Nat.le_of_lt hX.lt)) _ (Nat.le_refl _) _ _ _ _ _ _
          have hB8 : Below w.heap.size w w8 := hB.trans (hb8.mono hg)
          clear hW8 hb8 hX5 hX hB hb5'
          obtain ⟨c', hc'⟩ : ∃ c', mn (c + n) mo = c' := ⟨_, rfl⟩
          rw [hc'] at hX8
          go_wp2_with fail
          exact ⟨⟨k + 1, rest - n, c', rfl, by go_num, by omega, by omega, by omega, by rw [← hc']; exact grows_law fi mo R rest c n HCC.out (by omega), hX8, hB8⟩, by simp [intOf]; omega⟩
    · obtain rfl : rest = 0 := by omega
      have f1 : (c == W) = true := by rw [beq_iff_eq, ← HW.out]; exact HCC.out
      go_wp2_with fail
      refine (works_ok _).mono ?_
      rintro e w10 ⟨rfl, hb10⟩
      clear f1
      go_wp2_with fail
      go_ret
      exact ⟨rfl, hB.trans (hb10.mono z)⟩
end Go.Proofs.Ytcjhankepchioaa
