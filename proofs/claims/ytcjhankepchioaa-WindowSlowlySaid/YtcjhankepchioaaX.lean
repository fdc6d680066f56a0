/-
  The walk of WindowSlowly.
-/
import Derived.Test.YtcjhankepchioaaV
namespace Go.Proofs.Ytcjhankepchioaa
open Go.RowKit (wrap32 wrap64)
open Go.RowKit
set_option linter.unusedVariables false
set_option linter.unusedSimpArgs false

/-- A window that is not slow. -/
def sl (da mo C T g : Int) : Win := ⟨da, mo, C, T, 0, g⟩
theorem sl_ok (da mo C T g : Int) (m1 : 1200 ≤ da) (m2 : da ≤ 65527) (m4 : mo ≤ 1099511627776) (cd : 2 * da ≤ C) (cm : C ≤ mo) (t0 : da ≤ T) (t2 : T ≤ mo) (g0 : 0 ≤ g) (g1 : g < C) : Ok (sl da mo C T g) :=
  ⟨m1, m2, m4, cd, cm, Or.inr ⟨t0, t2⟩, Or.inr ⟨by simp [sl], by simp [sl]⟩, g0, g1⟩
theorem sl_slow (da mo C T g : Int) (t0 : 0 ≤ T) (t1 : T ≤ C) : ¬ Slow (sl da mo C T g) := fun h => by
  rcases h with h | h
  · simp only [sl] at h; omega
  · simp only [sl] at h; omega
theorem slowly_step (da mo C T rest n k : Int) (m1 : 1200 ≤ da) (m2 : da ≤ 65527) (t1 : 0 ≤ T ∧ T ≤ C) (cd : 2 * da ≤ C) (cm : C ≤ mo) (hr : 0 < rest) (r1 : rest ≤ C) (hn : 1 ≤ n) (hnr : n ≤ rest) (hk : 0 < k) :
    ∃ c' g' : Int, acked (sl da mo C T (C - rest)) k n true = sl da mo c' T g' ∧ (0 < rest - n → c' = C ∧ g' = C - (rest - n)) ∧ (rest - n = 0 → c' = mn (C + da) mo ∧ g' = 0) := by
  have hs := sl_slow da mo C T (C - rest) t1.1 t1.2
  have hb : Behind (sl da mo C T (C - rest)) k := Or.inr hk
  have e : acked (sl da mo C T (C - rest)) k n true = sl da mo (slowly da mo (C - rest + n) C).2 T (slowly da mo (C - rest + n) C).1 := by
    unfold acked
    rw [if_pos ⟨rfl, hb⟩, if_neg hs]
    rfl
  rw [e]
  by_cases h : n = rest
  · have h1 : C - rest + n = C := by omega
    have hmn : 0 < mn (C + da) mo := by unfold mn; split <;> omega
    rw [h1, slowly_yes da mo C C (by omega) (by omega) (by omega) (Int.le_refl _), Int.sub_self, slowly_no da mo 0 _ hmn]
    exact ⟨_, _, rfl, fun hq => by omega, fun _ => ⟨rfl, rfl⟩⟩
  · rw [slowly_no da mo (C - rest + n) C (by omega)]
    exact ⟨_, _, rfl, fun hq => ⟨rfl, by show C - rest + n = _; omega⟩, fun hq => by omega⟩
theorem sacked (da mo C T g c' g' k n : Int) (hO : Ok (sl da mo C T g)) (k0 : 0 ≤ k) (k1 : k ≤ 9007199254740991) (n0 : 1 ≤ n) (n1 : n ≤ 65535) (h : acked (sl da mo C T g) k n true = sl da mo c' T g') (w : World) :
    Calls Try.prog 28 #[.agg #[.int .i64 da, .int .i64 mo, .int .i64 C, .int .i64 T, .int .i64 0, .int .i64 g], .int .i64 k, .int .i64 n] w fun e w' => e = .returned (.agg #[.int .i64 da, .int .i64 mo, .int .i64 c', .int .i64 T, .int .i64 0, .int .i64 g']) ∧ Below w.heap.size w w' :=
  facked_ok (sl da mo C T g) hO k n (sl da mo c' T g') (Lib.hid ⟨k0, k1⟩) (Lib.hid ⟨n0, n1⟩) w h
theorem sbad (da mo fi C T : Int) (hO : Ok (first da fi mo)) (hC : mx (fi / 2) (2 * da) = C) (hT : fi / 2 = T) (w : World) :
    Calls Try.prog 27 #[.agg #[.int .i64 da, .int .i64 mo, .int .i64 fi, .int .i64 (-1), .int .i64 (-1), .int .i64 0], .int .i64 0, .int .i64 0] w fun e w' => e = .returned (.agg #[.int .i64 da, .int .i64 mo, .int .i64 C, .int .i64 T, .int .i64 0, .int .i64 0]) ∧ Below w.heap.size w w' :=
  fbad_ok (first da fi mo) hO 0 0 (sl da mo C T 0) (Lib.hid ⟨by decide, by decide⟩) (Lib.hid ⟨by decide, by decide⟩) w (by
    show bad _ _ _ = _
    unfold bad
    have hb : Behind (first da fi mo) 0 := Or.inl rfl
    rw [if_pos hb, ← hC, ← hT]
    rfl)
theorem sslow (da mo C T g : Int) (t0 : 0 ≤ T) (t1 : T ≤ C) (w : World) :
    Calls Try.prog 25 #[.agg #[.int .i64 da, .int .i64 mo, .int .i64 C, .int .i64 T, .int .i64 0, .int .i64 g]] w fun e w' => e = .returned (.bool false) ∧ Below w.heap.size w w' :=
  wslow_is (sl da mo C T g) false w (by
    show slowB _ = false
    unfold slowB
    rw [decide_eq_false (sl_slow da mo C T g t0 t1), Bool.and_false])
theorem scheck (da mo C T g : Int) (hO : Ok (sl da mo C T g)) (w : World) :
    Calls Try.prog 23 #[.agg #[.int .i64 da, .int .i64 mo, .int .i64 C, .int .i64 T, .int .i64 0, .int .i64 g]] w fun e w' => e = .returned (.int .i64 0) ∧ Below w.heap.size w w' :=
  check_B (sl da mo C T g) 0 w (Lib.hid (if_pos hO))

set_option maxRecDepth 100000 in
set_option maxHeartbeats 40000000 in
theorem slowly_law (x0 x1 x2 : Int) (A : Option Addr) (len cap : Nat) (w : World) (hR : Row w A len) (hl0 : len ≤ 9223372036854775807) :
    Calls Try.prog 10 #[.agg #[.int .i64 x0, .int .i64 x1, .int .i64 x2], .slice A len cap] w fun e w' => e = .returned (.bool true) ∧ Below w.heap.size w w' := by
  obtain ⟨da, fi, mo, hm, hda, hmade⟩ := made_any x0 x1 x2
  clear hda
  obtain ⟨m1, m2, m3, m4, m5, m6⟩ := hm
  obtain ⟨C, hC⟩ : ∃ C, mx (fi / 2) (2 * da) = C := ⟨_, rfl⟩
  obtain ⟨T, hT⟩ : ∃ T, fi / 2 = T := ⟨_, rfl⟩
  have hf : 2 * da ≤ C ∧ C ≤ mo ∧ T ≤ C ∧ da ≤ T ∧ T ≤ mo := by rw [← hC, ← hT]; unfold mx; split <;> omega
  obtain ⟨cd, cm, tc, td, tm⟩ := hf
  have t1 : 0 ≤ T ∧ T ≤ C := ⟨by omega, tc⟩
  have HO := Lib.hid (first_ok da fi mo m1 m2 m4 m5 m6)
  have HCQ := Lib.hid hC
  have HTQ := Lib.hid hT
  clear hC hT
  have HR := Lib.hid hR
  clear hR
  go_enter Try.func10, Try.ntmps10
  go_wp2_with fail
  refine (hmade _).mono ?_
  rintro e w1 ⟨rfl, hb1⟩
  clear hmade
  have hB1 : Below w.heap.size w w1 := ((Below.refl _ w).alloc (Nat.le_refl _) _).trans (hb1.mono (by simp <;> omega))
  have z1 := hB1.size
  clear hb1
  go_upto_region 2 with (fail)
  obtain ⟨g5, hg5⟩ : ∃ g, w1.heap.size = g := ⟨_, rfl⟩
  obtain ⟨W2, hW2⟩ : ∃ W, w1.alloc (.cells #[.int .i64 da, .int .i64 mo, .int .i64 fi, .int .i64 (-1), .int .i64 (-1), .int .i64 0] 26) = W := ⟨_, rfl⟩
  rw [hW2, hg5]
  have hX2 : BW W2 g5 (first da fi mo) := hg5 ▸ hW2 ▸ BW.new w1 (first da fi mo) 26
  have hB2 : Below w.heap.size w W2 := hW2 ▸ hB1.alloc z1 _
  have hg : w.heap.size ≤ g5 := hg5 ▸ z1
  have z2 := hB2.size
  clear hW2 hB1 hg5
  obtain ⟨lx, a0, a1, a2, a3, a4, a5, af⟩ : Bx W2 g5 da mo fi (-1) (-1) 0 := id hX2
  go_wp2_with fail
  refine (sbad da mo fi C T HO.out HCQ.out HTQ.out _).mono ?_
  rintro e w3 ⟨rfl, hb3⟩
  clear lx a0 a1 a2 a3 a4 a5 af
  have hX3 := hX2.kept hb3
  have hB3 := hB2.trans (hb3.mono z2)
  obtain ⟨lx, a0, a1, a2, a3, a4, a5, af⟩ : Bx w3 g5 da mo fi (-1) (-1) 0 := id hX3
  clear hb3 hX2 hB2
  go_upto_region 3 with (fail)
  clear lx a0 a1 a2 a3 a4 a5 af
  obtain ⟨W3, hW3⟩ : ∃ W, ((((((w3.setCell ⟨g5, 0, none⟩ (.int .i64 da)).setCell ⟨g5, 1, none⟩ (.int .i64 mo)).setCell ⟨g5, 2, none⟩ (.int .i64 C)).setCell ⟨g5, 3, none⟩ (.int .i64 T)).setCell ⟨g5, 4, none⟩ (.int .i64 0)).setCell ⟨g5, 5, none⟩ (.int .i64 0)) = W := ⟨_, rfl⟩
  rw [hW3]
  have hX4 : BW W3 g5 (sl da mo C T 0) := hW3 ▸ BW.set6 hX3 (sl da mo C T 0)
  have hB4 : Below w.heap.size w W3 := hW3 ▸ bset hB3 _ hg _ _ _ _ _ _
  have z4 := hB4.size
  clear hW3 hX3 hB3
  obtain ⟨lx, a0, a1, a2, a3, a4, a5, af⟩ : Bx W3 g5 da mo C T 0 0 := id hX4
  by_cases h4 : 4000000 < C
  · go_wp2_with fail
    refine (sslow da mo C T 0 (by omega) tc _).mono ?_
    rintro e w5 ⟨rfl, hb5⟩
    clear lx a0 a1 a2 a3 a4 a5 af
    obtain ⟨lx, a0, a1, a2, a3, a4, a5, af⟩ : Bx w5 g5 da mo C T 0 0 := hX4.kept hb5
    have hB5 := hB4.trans (hb5.mono z4)
    have z5 := hB5.size
    clear hb5
    have HOK := Lib.hid (sl_ok da mo C T 0 m1 m2 m4 cd cm td tm (by omega) (by omega))
    go_wp2_with fail
    refine (scheck da mo C T 0 HOK.out _).mono ?_
    rintro e w6 ⟨rfl, hb6⟩
    clear lx a0 a1 a2 a3 a4 a5 af
    have hB6 := hB5.trans (hb6.mono z5)
    have z6 := hB6.size
    clear hb6
    go_wp2_with fail
    refine (works_ok _).mono ?_
    rintro e w7 ⟨rfl, hb7⟩
    go_wp2_with fail
    go_ret
    exact ⟨rfl, hB6.trans (hb7.mono z6)⟩
  · go_wp2_with fail
    refine (sslow da mo C T 0 (by omega) tc _).mono ?_
    rintro e w5 ⟨rfl, hb5⟩
    clear lx a0 a1 a2 a3 a4 a5 af
    have hX5 := hX4.kept hb5
    obtain ⟨lx, a0, a1, a2, a3, a4, a5, af⟩ : Bx w5 g5 da mo C T 0 0 := id hX5
    have hB5 := hB4.trans (hb5.mono z4)
    have z5 := hB5.size
    clear hb5 hX4 hB4
    go_upto_region 6 with (fail)
    obtain ⟨g6, hg6⟩ : ∃ g, w5.heap.size = g := ⟨_, rfl⟩
    obtain ⟨W6, hW6⟩ : ∃ W, w5.alloc (.cells #[.int .i64 da, .int .i64 mo, .int .i64 C, .int .i64 T, .int .i64 0, .int .i64 0] 26) = W := ⟨_, rfl⟩
    rw [hW6, hg6]
    clear lx a0 a1 a2 a3 a4 a5 af
    have hX6 : BW W6 g5 (sl da mo C T 0) := hW6 ▸ hX5.alloc _
    have hY6 : BW W6 g6 (sl da mo C T 0) := hg6 ▸ hW6 ▸ BW.new w5 (sl da mo C T 0) 26
    have hB6 : Below w.heap.size w W6 := hW6 ▸ hB5.alloc z5 _
    have hgg : g5 < g6 := hg6 ▸ hX5.lt
    clear hW6 hX5 hB5 hg6
    obtain ⟨lx, a0, a1, a2, a3, a4, a5, af⟩ : Bx W6 g5 da mo C T 0 0 := id hX6
    go_wp2_with fail
    clear lx a0 a1 a2 a3 a4 a5 af
    go_loopw [7, 8] (fun s7 s8 wr => ∃ (k : Nat) (rest c g : Int), s7 = .int .i64 rest ∧ s8 = .int .i64 k ∧ 0 ≤ rest ∧ rest ≤ C ∧ (k : Int) ≤ C - rest ∧ (0 < rest → c = C ∧ g = C - rest) ∧ (rest = 0 → c = mn (C + da) mo ∧ g = 0) ∧ BW wr g5 (sl da mo c T g) ∧ BW wr g6 (sl da mo C T 0) ∧ Below w.heap.size w wr) (fun s7 _ _ => (intOf s7).toNat)
    case atStart => exact ⟨0, C, C, 0, rfl, rfl, by omega, by omega, by omega, fun _ => ⟨rfl, by omega⟩, fun h => by omega, hX6, hY6, hB6⟩
    case round =>
      obtain ⟨k, rest, c, g, rfl, rfl, r0, r1, hk, hp0, hp1, hX, hY, hB⟩ := hrel
      obtain ⟨wo, rfl⟩ : ∃ wo : World, wo = wr := ⟨_, rfl⟩
      have z := hB.size
      clear hX6 hY6 hB6
      by_cases hr : 0 < rest
      · obtain ⟨rfl, rfl⟩ := hp0 hr
        clear hp0 hp1
        have HOC := Lib.hid (sl_ok da mo c T (c - rest) m1 m2 m4 cd cm td tm (by omega) (by omega))
        obtain ⟨lx, a0, a1, a2, a3, a4, a5, af⟩ : Bx wo g5 da mo c T 0 (c - rest) := id hX
        obtain ⟨ly, b0, b1, b2, b3, b4, b5, bf⟩ : Bx wo g6 da mo c T 0 0 := id hY
        go_upto_region 11 with (fail)
        obtain ⟨nn, hnn⟩ : ∃ nn : Int, (if (65535 : Int) < rest then 65535 else rest) = nn := ⟨_, rfl⟩
        rw [hnn]
        have hn1 : 1 ≤ nn ∧ nn ≤ 65535 ∧ nn ≤ rest := by rw [← hnn]; split <;> omega
        obtain ⟨hn1, hn2, hn3⟩ := hn1
        clear hnn
        by_cases hp : k < len ∧ k < 50
        · obtain ⟨hp1, hp2⟩ := hp
          obtain ⟨b, off, p, rfl, hbl, c0⟩ := (HR.out.kept hB) k hp1
          obtain ⟨v, HV, v0, v1⟩ := name_mod p nn (by omega)
          obtain ⟨n, hn⟩ : ∃ n, 1 + v = n := ⟨_, rfl⟩
          have i0 : (0 : Int) ≤ (k : Int) := by omega
          have i1 : (k : Int) < (len : Int) := by omega
          have hnr : n ≤ rest := by omega
          have hn1' : 1 ≤ n := by omega
          have hn2' : n ≤ 65535 := by omega
          go_wp2_with fail
          refine (bring_is _ _ v _ HV (by omega) (by omega)).mono ?_
          rintro e w' ⟨rfl, rfl⟩
          clear c0
          go_wp2_with fail
          clear hn hn1 hn2
          have hn1 := hn1'
          -- slot 9 holds n
          obtain ⟨c', g', hst, hs1, hs2⟩ := slowly_step da mo c T rest n (1 + (k : Int)) m1 m2 t1 cd cm hr r1 hn1 hnr (by omega)
          refine (sacked da mo c T (c - rest) c' g' (1 + (k : Int)) n HOC.out (by omega) (by omega) (by omega) (by omega) hst _).mono ?_
          rintro e w5 ⟨rfl, hb5⟩
          clear lx a0 a1 a2 a3 a4 a5 af ly b0 b1 b2 b3 b4 b5 bf
          have hX5 : BW w5 g5 (sl da mo c T (c - rest)) := hX.kept hb5
          have hb5' := hb5
          obtain ⟨lx, a0, a1, a2, a3, a4, a5, af⟩ : Bx w5 g5 da mo c T 0 (c - rest) := id hX5
          clear hb5
          go_upto_region 16 with (fail)
          clear lx a0 a1 a2 a3 a4 a5 af
          obtain ⟨w8, hW8⟩ : ∃ W, ((((((w5.setCell ⟨g5, 0, none⟩ (.int .i64 da)).setCell ⟨g5, 1, none⟩ (.int .i64 mo)).setCell ⟨g5, 2, none⟩ (.int .i64 c')).setCell ⟨g5, 3, none⟩ (.int .i64 T)).setCell ⟨g5, 4, none⟩ (.int .i64 0)).setCell ⟨g5, 5, none⟩ (.int .i64 g')) = W := ⟨_, rfl⟩
          rw [hW8]
          have hX8 : BW w8 g5 (sl da mo c' T g') := hW8 ▸ BW.set6 hX5 (sl da mo c' T g')
          have hY8 : BW w8 g6 (sl da mo c T 0) := hW8 ▸ BW.far6 (hY.kept hb5') g5 (Nat.ne_of_lt hgg) _ _ _ _ _ _
          have hb8 : Below g5 wo w8 := hW8 ▸ bset (hb5'.mono (Nat.le_of_lt hX.lt)) _ (Nat.le_refl _) _ _ _ _ _ _
          have hB8 : Below w.heap.size w w8 := hB.trans (hb8.mono hg)
          clear hW8 hb8 hX5 hX hB hY hb5'
          have HS1 := Lib.hid hs1
          have HS2 := Lib.hid hs2
          clear hs1 hs2 hst
          go_wp2_with fail
          exact ⟨⟨k + 1, rest - n, c', g', rfl, by go_num, by omega, by omega, by omega, HS1.out, HS2.out, hX8, hY8, hB8⟩, by simp [intOf]; omega⟩
        · have hq : ¬ (k < len) ∨ (k < len ∧ 50 ≤ k) := by omega
          clear hp
          obtain ⟨n, rfl⟩ : ∃ n, n = nn := ⟨_, rfl⟩
          have hnr := hn3
          rcases hq with hq | ⟨hq, hq2⟩
          · have d1 : decide (k < len) = false := decide_eq_false hq
            have d2 : decide ((k : Int) < (len : Int)) = false := by rw [decide_eq_false_iff_not]; omega
            clear hq
            go_wp2_with fail
            -- slot 9 holds n
            obtain ⟨c', g', hst, hs1, hs2⟩ := slowly_step da mo c T rest n (1 + (k : Int)) m1 m2 t1 cd cm hr r1 hn1 hnr (by omega)
            refine (sacked da mo c T (c - rest) c' g' (1 + (k : Int)) n HOC.out (by omega) (by omega) (by omega) (by omega) hst _).mono ?_
            rintro e w5 ⟨rfl, hb5⟩
            clear lx a0 a1 a2 a3 a4 a5 af ly b0 b1 b2 b3 b4 b5 bf
            have hX5 : BW w5 g5 (sl da mo c T (c - rest)) := hX.kept hb5
            have hb5' := hb5
            obtain ⟨lx, a0, a1, a2, a3, a4, a5, af⟩ : Bx w5 g5 da mo c T 0 (c - rest) := id hX5
            clear hb5
            go_upto_region 16 with (fail)
            clear lx a0 a1 a2 a3 a4 a5 af
            obtain ⟨w8, hW8⟩ : ∃ W, ((((((w5.setCell ⟨g5, 0, none⟩ (.int .i64 da)).setCell ⟨g5, 1, none⟩ (.int .i64 mo)).setCell ⟨g5, 2, none⟩ (.int .i64 c')).setCell ⟨g5, 3, none⟩ (.int .i64 T)).setCell ⟨g5, 4, none⟩ (.int .i64 0)).setCell ⟨g5, 5, none⟩ (.int .i64 g')) = W := ⟨_, rfl⟩
            rw [hW8]
            have hX8 : BW w8 g5 (sl da mo c' T g') := hW8 ▸ BW.set6 hX5 (sl da mo c' T g')
            have hY8 : BW w8 g6 (sl da mo c T 0) := hW8 ▸ BW.far6 (hY.kept hb5') g5 (Nat.ne_of_lt hgg) _ _ _ _ _ _
            have hb8 : Below g5 wo w8 := hW8 ▸ bset (hb5'.mono (Nat.le_of_lt hX.lt)) _ (Nat.le_refl _) _ _ _ _ _ _
            have hB8 : Below w.heap.size w w8 := hB.trans (hb8.mono hg)
            clear hW8 hb8 hX5 hX hB hY hb5'
            have HS1 := Lib.hid hs1
            have HS2 := Lib.hid hs2
            clear hs1 hs2 hst
            go_wp2_with fail
            exact ⟨⟨k + 1, rest - n, c', g', rfl, by go_num, by omega, by omega, by omega, HS1.out, HS2.out, hX8, hY8, hB8⟩, by simp [intOf]; omega⟩
          · have d1 : decide (k < len) = true := decide_eq_true hq
            have d2 : (50 : Int) ≤ (k : Int) := by omega
            go_wp2_with fail
            -- slot 9 holds n
            obtain ⟨c', g', hst, hs1, hs2⟩ := slowly_step da mo c T rest n (1 + (k : Int)) m1 m2 t1 cd cm hr r1 hn1 hnr (by omega)
            refine (sacked da mo c T (c - rest) c' g' (1 + (k : Int)) n HOC.out (by omega) (by omega) (by omega) (by omega) hst _).mono ?_
            rintro e w5 ⟨rfl, hb5⟩
            clear lx a0 a1 a2 a3 a4 a5 af ly b0 b1 b2 b3 b4 b5 bf
            have hX5 : BW w5 g5 (sl da mo c T (c - rest)) := hX.kept hb5
            have hb5' := hb5
            obtain ⟨lx, a0, a1, a2, a3, a4, a5, af⟩ : Bx w5 g5 da mo c T 0 (c - rest) := id hX5
            clear hb5
            go_upto_region 16 with (fail)
            clear lx a0 a1 a2 a3 a4 a5 af
            obtain ⟨w8, hW8⟩ : ∃ W, ((((((w5.setCell ⟨g5, 0, none⟩ (.int .i64 da)).setCell ⟨g5, 1, none⟩ (.int .i64 mo)).setCell ⟨g5, 2, none⟩ (.int .i64 c')).setCell ⟨g5, 3, none⟩ (.int .i64 T)).setCell ⟨g5, 4, none⟩ (.int .i64 0)).setCell ⟨g5, 5, none⟩ (.int .i64 g')) = W := ⟨_, rfl⟩
            rw [hW8]
            have hX8 : BW w8 g5 (sl da mo c' T g') := hW8 ▸ BW.set6 hX5 (sl da mo c' T g')
            have hY8 : BW w8 g6 (sl da mo c T 0) := hW8 ▸ BW.far6 (hY.kept hb5') g5 (Nat.ne_of_lt hgg) _ _ _ _ _ _
            have hb8 : Below g5 wo w8 := hW8 ▸ bset (hb5'.mono (Nat.le_of_lt hX.lt)) _ (Nat.le_refl _) _ _ _ _ _ _
            have hB8 : Below w.heap.size w w8 := hB.trans (hb8.mono hg)
            clear hW8 hb8 hX5 hX hB hY hb5'
            have HS1 := Lib.hid hs1
            have HS2 := Lib.hid hs2
            clear hs1 hs2 hst
            go_wp2_with fail
            exact ⟨⟨k + 1, rest - n, c', g', rfl, by go_num, by omega, by omega, by omega, HS1.out, HS2.out, hX8, hY8, hB8⟩, by simp [intOf]; omega⟩
      · obtain rfl : rest = 0 := by omega
        obtain ⟨hc, rfl⟩ := hp1 rfl
        clear hp0 hp1
        obtain ⟨lx, a0, a1, a2, a3, a4, a5, af⟩ : Bx wo g5 da mo c T 0 0 := id hX
        obtain ⟨ly, b0, b1, b2, b3, b4, b5, bf⟩ : Bx wo g6 da mo C T 0 0 := id hY
        by_cases hmo : mo < C + da
        · have f1 : (c == mo) = true := by rw [beq_iff_eq, hc]; unfold mn; split <;> omega
          clear hc
          go_wp2_with fail
          refine (works_ok _).mono ?_
          rintro e w10 ⟨rfl, hb10⟩
          clear f1
          go_wp2_with fail
          go_ret
          exact ⟨rfl, hB.trans (hb10.mono z)⟩
        · have f1 : (c == C + da) = true := by rw [beq_iff_eq, hc]; unfold mn; split <;> omega
          clear hc
          go_wp2_with fail
          refine (works_ok _).mono ?_
          rintro e w10 ⟨rfl, hb10⟩
          clear f1
          go_wp2_with fail
          go_ret
          exact ⟨rfl, hB.trans (hb10.mono z)⟩
end Go.Proofs.Ytcjhankepchioaa
