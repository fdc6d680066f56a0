/-
  The examples: works.
-/
import Derived.Test.YtcjhankepchioaaH
namespace Go.Proofs.Ytcjhankepchioaa
open Go.RowKit (wrap32 wrap64)
open Go.RowKit
set_option linter.unusedVariables false
set_option linter.unusedSimpArgs false

theorem first_ok (da fi mo : Int) (d0 : 1200 ≤ da) (d1 : da ≤ 65527) (m1 : mo ≤ 1099511627776) (f0 : 2 * da ≤ fi) (f1 : fi ≤ mo) : Ok (first da fi mo) :=
  ⟨d0, d1, m1, f0, f1, Or.inl rfl, Or.inl rfl, by simp [first], by simp [first]; omega⟩
theorem wnew_ok (da fi mo : Int) (w : World) (h : Ok (first da fi mo)) :
    Calls Try.prog 21 #[.int .i64 da, .int .i64 fi, .int .i64 mo] w fun e w' => e = .returned (.tuple #[.agg #[.int .i64 da, .int .i64 mo, .int .i64 fi, .int .i64 (-1), .int .i64 (-1), .int .i64 0], .int .i64 0]) ∧ Below w.heap.size w w' := by
  refine (wnew_any da fi mo w).mono ?_
  rintro e w' ⟨rfl, hb⟩
  rw [show newW da fi mo = first da fi mo from if_pos h, show newE da fi mo = 0 from if_pos h]
  exact ⟨rfl, hb⟩
theorem okW0 : Ok ⟨1200, 20000, 12000, -1, -1, 0⟩ := (ok_iff _).2 (by decide)
theorem okW1 : Ok ⟨1200, 20000, 13200, -1, -1, 0⟩ := (ok_iff _).2 (by decide)
theorem okW2 : Ok ⟨1200, 20000, 6600, 6600, 40, 0⟩ := (ok_iff _).2 (by decide)
theorem okW3 : Ok ⟨1200, 20000, 6600, 6600, 40, 5000⟩ := (ok_iff _).2 (by decide)
theorem okX : Ok ⟨1200, 20000, 7800, 6600, 40, 3400⟩ := (ok_iff _).2 (by decide)
theorem okY : Ok ⟨1200, 20000, 13800, 6600, 40, 12400⟩ := (ok_iff _).2 (by decide)
theorem okZ : Ok ⟨1200, 20000, 2400, 6600, -1, 0⟩ := (ok_iff _).2 (by decide)
theorem is_B (d m c t s g : Int) (B W : World) (hB : Below B.heap.size B W) :
    Calls Try.prog 36 #[.agg #[.int .i64 d, .int .i64 m, .int .i64 c, .int .i64 t, .int .i64 s, .int .i64 g], .int .i64 c, .int .i64 t, .slice (some ⟨W.heap.size, 0, none⟩) 2 2] (W.alloc (.cells #[.int .i64 s, .int .i64 g] 3)) fun e w' => e = .returned (.bool true) ∧ Below B.heap.size B w' ∧ Below W.heap.size W w' :=
  (is_yes d m c t s g W).mono fun _ _ ⟨he, hb⟩ => ⟨he, hB.trans (hb.mono hB.size), hb⟩
theorem wslow_is (x : Win) (b : Bool) (w : World) (h : Hid (slowB x = b)) :
    Calls Try.prog 25 #[.agg #[.int .i64 x.d, .int .i64 x.m, .int .i64 x.c, .int .i64 x.t, .int .i64 x.s, .int .i64 x.g]] w fun e w' => e = .returned (.bool b) ∧ Below w.heap.size w w' := by
  have h' := h.out
  subst h'
  exact wslow_any x w

theorem cn (w : World) : Calls Try.prog 21 #[.int .i64 1200, .int .i64 12000, .int .i64 20000] w fun e w' => e = .returned (.tuple #[.agg #[.int .i64 1200, .int .i64 20000, .int .i64 12000, .int .i64 (-1), .int .i64 (-1), .int .i64 0], .int .i64 0]) ∧ Below w.heap.size w w' :=
  wnew_ok 1200 12000 20000 w (first_ok _ _ _ (by decide) (by decide) (by decide) (by decide) (by decide))
theorem c1 (w : World) : Calls Try.prog 25 #[.agg #[.int .i64 1200, .int .i64 20000, .int .i64 12000, .int .i64 (-1), .int .i64 (-1), .int .i64 0]] w fun e w' => e = .returned (.bool true) ∧ Below w.heap.size w w' :=
  wslow_is ⟨1200, 20000, 12000, -1, -1, 0⟩ true w (by show _ = _; decide)
theorem c2 (w : World) : Calls Try.prog 14 #[.agg #[.int .i64 1200, .int .i64 20000, .int .i64 12000, .int .i64 (-1), .int .i64 (-1), .int .i64 0], .agg #[.int .i64 0, .int .i64 5, .int .i64 1200, .bool false, .bool false, .bool false], .bool false] w fun e w' => e = .returned (.tuple #[.agg #[.int .i64 1200, .int .i64 20000, .int .i64 12000, .int .i64 (-1), .int .i64 (-1), .int .i64 0], .int .i64 0]) ∧ Below w.heap.size w w' :=
  wacked_ok ⟨1200, 20000, 12000, -1, -1, 0⟩ okW0 0 5 1200 false false false false ⟨1200, 20000, 12000, -1, -1, 0⟩ w (by decide) (by decide) (by decide) (by show _ = _; decide)
theorem c3 (w : World) : Calls Try.prog 28 #[.agg #[.int .i64 1200, .int .i64 20000, .int .i64 12000, .int .i64 (-1), .int .i64 (-1), .int .i64 0], .int .i64 5, .int .i64 1200] w fun e w' => e = .returned (.agg #[.int .i64 1200, .int .i64 20000, .int .i64 13200, .int .i64 (-1), .int .i64 (-1), .int .i64 0]) ∧ Below w.heap.size w w' :=
  facked_ok ⟨1200, 20000, 12000, -1, -1, 0⟩ okW0 5 1200 ⟨1200, 20000, 13200, -1, -1, 0⟩ (by show _ ∧ _; decide) (by show _ ∧ _; decide) w (by show _ = _; decide)
theorem c4 (w : World) : Calls Try.prog 27 #[.agg #[.int .i64 1200, .int .i64 20000, .int .i64 13200, .int .i64 (-1), .int .i64 (-1), .int .i64 0], .int .i64 5, .int .i64 40] w fun e w' => e = .returned (.agg #[.int .i64 1200, .int .i64 20000, .int .i64 6600, .int .i64 6600, .int .i64 40, .int .i64 0]) ∧ Below w.heap.size w w' :=
  fbad_ok ⟨1200, 20000, 13200, -1, -1, 0⟩ okW1 5 40 ⟨1200, 20000, 6600, 6600, 40, 0⟩ (by show _ ∧ _; decide) (by show _ ∧ _; decide) w (by show _ = _; decide)
theorem c5 (w : World) : Calls Try.prog 27 #[.agg #[.int .i64 1200, .int .i64 20000, .int .i64 6600, .int .i64 6600, .int .i64 40, .int .i64 0], .int .i64 40, .int .i64 60] w fun e w' => e = .returned (.agg #[.int .i64 1200, .int .i64 20000, .int .i64 6600, .int .i64 6600, .int .i64 40, .int .i64 0]) ∧ Below w.heap.size w w' :=
  fbad_ok ⟨1200, 20000, 6600, 6600, 40, 0⟩ okW2 40 60 ⟨1200, 20000, 6600, 6600, 40, 0⟩ (by show _ ∧ _; decide) (by show _ ∧ _; decide) w (by show _ = _; decide)
theorem c6 (w : World) : Calls Try.prog 28 #[.agg #[.int .i64 1200, .int .i64 20000, .int .i64 6600, .int .i64 6600, .int .i64 40, .int .i64 0], .int .i64 41, .int .i64 5000] w fun e w' => e = .returned (.agg #[.int .i64 1200, .int .i64 20000, .int .i64 6600, .int .i64 6600, .int .i64 40, .int .i64 5000]) ∧ Below w.heap.size w w' :=
  facked_ok ⟨1200, 20000, 6600, 6600, 40, 0⟩ okW2 41 5000 ⟨1200, 20000, 6600, 6600, 40, 5000⟩ (by show _ ∧ _; decide) (by show _ ∧ _; decide) w (by show _ = _; decide)
theorem c7 (w : World) : Calls Try.prog 28 #[.agg #[.int .i64 1200, .int .i64 20000, .int .i64 6600, .int .i64 6600, .int .i64 40, .int .i64 5000], .int .i64 41, .int .i64 5000] w fun e w' => e = .returned (.agg #[.int .i64 1200, .int .i64 20000, .int .i64 7800, .int .i64 6600, .int .i64 40, .int .i64 3400]) ∧ Below w.heap.size w w' :=
  facked_ok ⟨1200, 20000, 6600, 6600, 40, 5000⟩ okW3 41 5000 ⟨1200, 20000, 7800, 6600, 40, 3400⟩ (by show _ ∧ _; decide) (by show _ ∧ _; decide) w (by show _ = _; decide)
theorem c8 (w : World) : Calls Try.prog 28 #[.agg #[.int .i64 1200, .int .i64 20000, .int .i64 7800, .int .i64 6600, .int .i64 40, .int .i64 3400], .int .i64 41, .int .i64 60000] w fun e w' => e = .returned (.agg #[.int .i64 1200, .int .i64 20000, .int .i64 13800, .int .i64 6600, .int .i64 40, .int .i64 12400]) ∧ Below w.heap.size w w' :=
  facked_ok ⟨1200, 20000, 7800, 6600, 40, 3400⟩ okX 41 60000 ⟨1200, 20000, 13800, 6600, 40, 12400⟩ (by show _ ∧ _; decide) (by show _ ∧ _; decide) w (by show _ = _; decide)
theorem c9 (w : World) : Calls Try.prog 19 #[.agg #[.int .i64 1200, .int .i64 20000, .int .i64 13800, .int .i64 6600, .int .i64 40, .int .i64 12400]] w fun e w' => e = .returned (.tuple #[.agg #[.int .i64 1200, .int .i64 20000, .int .i64 2400, .int .i64 6600, .int .i64 (-1), .int .i64 0], .int .i64 0]) ∧ Below w.heap.size w w' :=
  wcollapse_ok ⟨1200, 20000, 13800, 6600, 40, 12400⟩ okY ⟨1200, 20000, 2400, 6600, -1, 0⟩ w (by show _ = _; decide)
theorem c10 (w : World) : Calls Try.prog 25 #[.agg #[.int .i64 1200, .int .i64 20000, .int .i64 7800, .int .i64 6600, .int .i64 40, .int .i64 3400]] w fun e w' => e = .returned (.bool false) ∧ Below w.heap.size w w' :=
  wslow_is ⟨1200, 20000, 7800, 6600, 40, 3400⟩ false w (by show _ = _; decide)
theorem c11 (w : World) : Calls Try.prog 25 #[.agg #[.int .i64 1200, .int .i64 20000, .int .i64 2400, .int .i64 6600, .int .i64 (-1), .int .i64 0]] w fun e w' => e = .returned (.bool true) ∧ Below w.heap.size w w' :=
  wslow_is ⟨1200, 20000, 2400, 6600, -1, 0⟩ true w (by show _ = _; decide)
set_option maxRecDepth 100000 in
set_option maxHeartbeats 40000000 in
theorem works_ok (w : World) : Calls Try.prog 15 #[] w fun e w' => e = .returned (.bool true) ∧ Below w.heap.size w w' := by
  go_enter Try.func15, Try.ntmps15
  go_wp2_with fail
  refine (cn _).mono ?_
  rintro e w1 ⟨rfl, hb⟩
  have HB1 : Hid (Below w.heap.size w w1) := Lib.hid hb
  clear hb
  go_upto_region 2 with (fail)
  have hzxa : w.heap.size ≤ w1.heap.size := HB1.out.size
  obtain ⟨w2, hW⟩ : ∃ W, w1.alloc (.cells #[.int .i64 1200, .int .i64 20000, .int .i64 12000, .int .i64 (-1), .int .i64 (-1), .int .i64 0] 26) = W := ⟨_, rfl⟩
  rw [hW]
  have hxa : BW w2 w1.heap.size ⟨1200, 20000, 12000, -1, -1, 0⟩ := hW ▸ BW.new w1 ⟨1200, 20000, 12000, -1, -1, 0⟩ 26
  have HB2 : Hid (Below w.heap.size w w2) := hW ▸ (HB1.out.alloc HB1.out.size _)
  clear hW
  obtain ⟨lxa, xa0, xa1, xa2, xa3, xa4, xa5, xaf⟩ : Bx w2 w1.heap.size 1200 20000 12000 (-1) (-1) 0 := id hxa
  go_wp2_with fail
  refine (is_yes 1200 20000 12000 (-1) (-1) 0 _).mono ?_
  rintro e w3 ⟨rfl, hb⟩
  clear lxa xa0 xa1 xa2 xa3 xa4 xa5 xaf
  replace hxa := hxa.kept hb
  have HB3 : Hid (Below w.heap.size w w3) := Lib.hid (HB2.out.trans (hb.mono HB2.out.size))
  clear hb
  obtain ⟨lxa, xa0, xa1, xa2, xa3, xa4, xa5, xaf⟩ : Bx w3 w1.heap.size 1200 20000 12000 (-1) (-1) 0 := id hxa
  go_wp2_with fail
  refine (c1 _).mono ?_
  rintro e w4 ⟨rfl, hb⟩
  clear lxa xa0 xa1 xa2 xa3 xa4 xa5 xaf
  replace hxa := hxa.kept hb
  have HB4 : Hid (Below w.heap.size w w4) := Lib.hid (HB3.out.trans (hb.mono HB3.out.size))
  clear hb
  obtain ⟨lxa, xa0, xa1, xa2, xa3, xa4, xa5, xaf⟩ : Bx w4 w1.heap.size 1200 20000 12000 (-1) (-1) 0 := id hxa
  go_wp2_with fail
  refine (c2 _).mono ?_
  rintro e w5 ⟨rfl, hb⟩
  clear lxa xa0 xa1 xa2 xa3 xa4 xa5 xaf
  replace hxa := hxa.kept hb
  have HB5 : Hid (Below w.heap.size w w5) := Lib.hid (HB4.out.trans (hb.mono HB4.out.size))
  clear hb
  obtain ⟨lxa, xa0, xa1, xa2, xa3, xa4, xa5, xaf⟩ : Bx w5 w1.heap.size 1200 20000 12000 (-1) (-1) 0 := id hxa
  go_upto_region 5 with (fail)
  have qxaxb : w1.heap.size < w5.heap.size := hxa.lt
  have hzxb : w.heap.size ≤ w5.heap.size := HB5.out.size
  clear lxa xa0 xa1 xa2 xa3 xa4 xa5 xaf
  obtain ⟨w6, hW⟩ : ∃ W, w5.alloc (.cells #[.int .i64 1200, .int .i64 20000, .int .i64 12000, .int .i64 (-1), .int .i64 (-1), .int .i64 0] 26) = W := ⟨_, rfl⟩
  rw [hW]
  have hxa' : BW w6 w1.heap.size ⟨1200, 20000, 12000, -1, -1, 0⟩ := hW ▸ hxa.alloc _
  have hxb : BW w6 w5.heap.size ⟨1200, 20000, 12000, -1, -1, 0⟩ := hW ▸ BW.new w5 ⟨1200, 20000, 12000, -1, -1, 0⟩ 26
  have HB6 : Hid (Below w.heap.size w w6) := hW ▸ (HB5.out.alloc HB5.out.size _)
  clear hW
  replace hxa := hxa'
  obtain ⟨lxa, xa0, xa1, xa2, xa3, xa4, xa5, xaf⟩ : Bx w6 w1.heap.size 1200 20000 12000 (-1) (-1) 0 := id hxa
  obtain ⟨lxb, xb0, xb1, xb2, xb3, xb4, xb5, xbf⟩ : Bx w6 w5.heap.size 1200 20000 12000 (-1) (-1) 0 := id hxb
  go_wp2_with fail
  refine (c3 _).mono ?_
  rintro e w7 ⟨rfl, hb⟩
  clear lxa xa0 xa1 xa2 xa3 xa4 xa5 xaf lxb xb0 xb1 xb2 xb3 xb4 xb5 xbf
  replace hxa := hxa.kept hb
  replace hxb := hxb.kept hb
  have HB7 : Hid (Below w.heap.size w w7) := Lib.hid (HB6.out.trans (hb.mono HB6.out.size))
  clear hb
  obtain ⟨lxa, xa0, xa1, xa2, xa3, xa4, xa5, xaf⟩ : Bx w7 w1.heap.size 1200 20000 12000 (-1) (-1) 0 := id hxa
  obtain ⟨lxb, xb0, xb1, xb2, xb3, xb4, xb5, xbf⟩ : Bx w7 w5.heap.size 1200 20000 12000 (-1) (-1) 0 := id hxb
  go_upto_region 6 with (fail)
  clear lxa xa0 xa1 xa2 xa3 xa4 xa5 xaf lxb xb0 xb1 xb2 xb3 xb4 xb5 xbf
  obtain ⟨w8, hW⟩ : ∃ W, ((((((w7.setCell ⟨w1.heap.size, 0, none⟩ (.int .i64 1200)).setCell ⟨w1.heap.size, 1, none⟩ (.int .i64 20000)).setCell ⟨w1.heap.size, 2, none⟩ (.int .i64 13200)).setCell ⟨w1.heap.size, 3, none⟩ (.int .i64 (-1))).setCell ⟨w1.heap.size, 4, none⟩ (.int .i64 (-1))).setCell ⟨w1.heap.size, 5, none⟩ (.int .i64 0)) = W := ⟨_, rfl⟩
  rw [hW]
  have hxa' : BW w8 w1.heap.size ⟨1200, 20000, 13200, -1, -1, 0⟩ := hW ▸ BW.set6 hxa ⟨1200, 20000, 13200, -1, -1, 0⟩
  have hxb' : BW w8 w5.heap.size ⟨1200, 20000, 12000, -1, -1, 0⟩ := hW ▸ BW.far6 hxb _ (by omega) _ _ _ _ _ _
  have HB8 : Hid (Below w.heap.size w w8) := hW ▸ (bSet6 HB7.out _ (by have := HB7.out.size; omega) _ _ _ _ _ _)
  clear hW
  replace hxa := hxa'
  replace hxb := hxb'
  obtain ⟨lxa, xa0, xa1, xa2, xa3, xa4, xa5, xaf⟩ : Bx w8 w1.heap.size 1200 20000 13200 (-1) (-1) 0 := id hxa
  obtain ⟨lxb, xb0, xb1, xb2, xb3, xb4, xb5, xbf⟩ : Bx w8 w5.heap.size 1200 20000 12000 (-1) (-1) 0 := id hxb
  go_wp2_with fail
  refine (is_yes 1200 20000 12000 (-1) (-1) 0 _).mono ?_
  rintro e w9 ⟨rfl, hb⟩
  clear lxa xa0 xa1 xa2 xa3 xa4 xa5 xaf lxb xb0 xb1 xb2 xb3 xb4 xb5 xbf
  replace hxa := hxa.kept hb
  replace hxb := hxb.kept hb
  have HB9 : Hid (Below w.heap.size w w9) := Lib.hid (HB8.out.trans (hb.mono HB8.out.size))
  clear hb
  obtain ⟨lxa, xa0, xa1, xa2, xa3, xa4, xa5, xaf⟩ : Bx w9 w1.heap.size 1200 20000 13200 (-1) (-1) 0 := id hxa
  obtain ⟨lxb, xb0, xb1, xb2, xb3, xb4, xb5, xbf⟩ : Bx w9 w5.heap.size 1200 20000 12000 (-1) (-1) 0 := id hxb
  go_wp2_with fail
  refine (is_yes 1200 20000 13200 (-1) (-1) 0 _).mono ?_
  rintro e w10 ⟨rfl, hb⟩
  clear lxa xa0 xa1 xa2 xa3 xa4 xa5 xaf lxb xb0 xb1 xb2 xb3 xb4 xb5 xbf
  replace hxa := hxa.kept hb
  replace hxb := hxb.kept hb
  have HB10 : Hid (Below w.heap.size w w10) := Lib.hid (HB9.out.trans (hb.mono HB9.out.size))
  clear hb
  obtain ⟨lxa, xa0, xa1, xa2, xa3, xa4, xa5, xaf⟩ : Bx w10 w1.heap.size 1200 20000 13200 (-1) (-1) 0 := id hxa
  obtain ⟨lxb, xb0, xb1, xb2, xb3, xb4, xb5, xbf⟩ : Bx w10 w5.heap.size 1200 20000 12000 (-1) (-1) 0 := id hxb
  go_wp2_with fail
  refine (c4 _).mono ?_
  rintro e w11 ⟨rfl, hb⟩
  clear lxa xa0 xa1 xa2 xa3 xa4 xa5 xaf lxb xb0 xb1 xb2 xb3 xb4 xb5 xbf
  replace hxa := hxa.kept hb
  replace hxb := hxb.kept hb
  have HB11 : Hid (Below w.heap.size w w11) := Lib.hid (HB10.out.trans (hb.mono HB10.out.size))
  clear hb
  obtain ⟨lxa, xa0, xa1, xa2, xa3, xa4, xa5, xaf⟩ : Bx w11 w1.heap.size 1200 20000 13200 (-1) (-1) 0 := id hxa
  obtain ⟨lxb, xb0, xb1, xb2, xb3, xb4, xb5, xbf⟩ : Bx w11 w5.heap.size 1200 20000 12000 (-1) (-1) 0 := id hxb
  go_upto_region 9 with (fail)
  clear lxa xa0 xa1 xa2 xa3 xa4 xa5 xaf lxb xb0 xb1 xb2 xb3 xb4 xb5 xbf
  obtain ⟨w12, hW⟩ : ∃ W, ((((((w11.setCell ⟨w1.heap.size, 0, none⟩ (.int .i64 1200)).setCell ⟨w1.heap.size, 1, none⟩ (.int .i64 20000)).setCell ⟨w1.heap.size, 2, none⟩ (.int .i64 6600)).setCell ⟨w1.heap.size, 3, none⟩ (.int .i64 6600)).setCell ⟨w1.heap.size, 4, none⟩ (.int .i64 40)).setCell ⟨w1.heap.size, 5, none⟩ (.int .i64 0)) = W := ⟨_, rfl⟩
  rw [hW]
  have hxa' : BW w12 w1.heap.size ⟨1200, 20000, 6600, 6600, 40, 0⟩ := hW ▸ BW.set6 hxa ⟨1200, 20000, 6600, 6600, 40, 0⟩
  have hxb' : BW w12 w5.heap.size ⟨1200, 20000, 12000, -1, -1, 0⟩ := hW ▸ BW.far6 hxb _ (by omega) _ _ _ _ _ _
  have HB12 : Hid (Below w.heap.size w w12) := hW ▸ (bSet6 HB11.out _ (by have := HB11.out.size; omega) _ _ _ _ _ _)
  clear hW
  replace hxa := hxa'
  replace hxb := hxb'
  obtain ⟨lxa, xa0, xa1, xa2, xa3, xa4, xa5, xaf⟩ : Bx w12 w1.heap.size 1200 20000 6600 6600 40 0 := id hxa
  obtain ⟨lxb, xb0, xb1, xb2, xb3, xb4, xb5, xbf⟩ : Bx w12 w5.heap.size 1200 20000 12000 (-1) (-1) 0 := id hxb
  go_wp2_with fail
  refine (is_yes 1200 20000 6600 6600 40 0 _).mono ?_
  rintro e w13 ⟨rfl, hb⟩
  clear lxa xa0 xa1 xa2 xa3 xa4 xa5 xaf lxb xb0 xb1 xb2 xb3 xb4 xb5 xbf
  replace hxa := hxa.kept hb
  replace hxb := hxb.kept hb
  have HB13 : Hid (Below w.heap.size w w13) := Lib.hid (HB12.out.trans (hb.mono HB12.out.size))
  clear hb
  obtain ⟨lxa, xa0, xa1, xa2, xa3, xa4, xa5, xaf⟩ : Bx w13 w1.heap.size 1200 20000 6600 6600 40 0 := id hxa
  obtain ⟨lxb, xb0, xb1, xb2, xb3, xb4, xb5, xbf⟩ : Bx w13 w5.heap.size 1200 20000 12000 (-1) (-1) 0 := id hxb
  go_wp2_with fail
  refine (c5 _).mono ?_
  rintro e w14 ⟨rfl, hb⟩
  clear lxa xa0 xa1 xa2 xa3 xa4 xa5 xaf lxb xb0 xb1 xb2 xb3 xb4 xb5 xbf
  replace hxa := hxa.kept hb
  replace hxb := hxb.kept hb
  have HB14 : Hid (Below w.heap.size w w14) := Lib.hid (HB13.out.trans (hb.mono HB13.out.size))
  clear hb
  obtain ⟨lxa, xa0, xa1, xa2, xa3, xa4, xa5, xaf⟩ : Bx w14 w1.heap.size 1200 20000 6600 6600 40 0 := id hxa
  obtain ⟨lxb, xb0, xb1, xb2, xb3, xb4, xb5, xbf⟩ : Bx w14 w5.heap.size 1200 20000 12000 (-1) (-1) 0 := id hxb
  go_wp2_with fail
  refine (is_yes 1200 20000 6600 6600 40 0 _).mono ?_
  rintro e w15 ⟨rfl, hb⟩
  clear lxa xa0 xa1 xa2 xa3 xa4 xa5 xaf lxb xb0 xb1 xb2 xb3 xb4 xb5 xbf
  replace hxa := hxa.kept hb
  replace hxb := hxb.kept hb
  have HB15 : Hid (Below w.heap.size w w15) := Lib.hid (HB14.out.trans (hb.mono HB14.out.size))
  clear hb
  obtain ⟨lxa, xa0, xa1, xa2, xa3, xa4, xa5, xaf⟩ : Bx w15 w1.heap.size 1200 20000 6600 6600 40 0 := id hxa
  obtain ⟨lxb, xb0, xb1, xb2, xb3, xb4, xb5, xbf⟩ : Bx w15 w5.heap.size 1200 20000 12000 (-1) (-1) 0 := id hxb
  go_wp2_with fail
  refine (c6 _).mono ?_
  rintro e w16 ⟨rfl, hb⟩
  clear lxa xa0 xa1 xa2 xa3 xa4 xa5 xaf lxb xb0 xb1 xb2 xb3 xb4 xb5 xbf
  replace hxa := hxa.kept hb
  replace hxb := hxb.kept hb
  have HB16 : Hid (Below w.heap.size w w16) := Lib.hid (HB15.out.trans (hb.mono HB15.out.size))
  clear hb
  obtain ⟨lxa, xa0, xa1, xa2, xa3, xa4, xa5, xaf⟩ : Bx w16 w1.heap.size 1200 20000 6600 6600 40 0 := id hxa
  obtain ⟨lxb, xb0, xb1, xb2, xb3, xb4, xb5, xbf⟩ : Bx w16 w5.heap.size 1200 20000 12000 (-1) (-1) 0 := id hxb
  go_upto_region 12 with (fail)
  clear lxa xa0 xa1 xa2 xa3 xa4 xa5 xaf lxb xb0 xb1 xb2 xb3 xb4 xb5 xbf
  obtain ⟨w17, hW⟩ : ∃ W, ((((((w16.setCell ⟨w1.heap.size, 0, none⟩ (.int .i64 1200)).setCell ⟨w1.heap.size, 1, none⟩ (.int .i64 20000)).setCell ⟨w1.heap.size, 2, none⟩ (.int .i64 6600)).setCell ⟨w1.heap.size, 3, none⟩ (.int .i64 6600)).setCell ⟨w1.heap.size, 4, none⟩ (.int .i64 40)).setCell ⟨w1.heap.size, 5, none⟩ (.int .i64 5000)) = W := ⟨_, rfl⟩
  rw [hW]
  have hxa' : BW w17 w1.heap.size ⟨1200, 20000, 6600, 6600, 40, 5000⟩ := hW ▸ BW.set6 hxa ⟨1200, 20000, 6600, 6600, 40, 5000⟩
  have hxb' : BW w17 w5.heap.size ⟨1200, 20000, 12000, -1, -1, 0⟩ := hW ▸ BW.far6 hxb _ (by omega) _ _ _ _ _ _
  have HB17 : Hid (Below w.heap.size w w17) := hW ▸ (bSet6 HB16.out _ (by have := HB16.out.size; omega) _ _ _ _ _ _)
  clear hW
  replace hxa := hxa'
  replace hxb := hxb'
  obtain ⟨lxa, xa0, xa1, xa2, xa3, xa4, xa5, xaf⟩ : Bx w17 w1.heap.size 1200 20000 6600 6600 40 5000 := id hxa
  obtain ⟨lxb, xb0, xb1, xb2, xb3, xb4, xb5, xbf⟩ : Bx w17 w5.heap.size 1200 20000 12000 (-1) (-1) 0 := id hxb
  go_wp2_with fail
  refine (c7 _).mono ?_
  rintro e w18 ⟨rfl, hb⟩
  clear lxa xa0 xa1 xa2 xa3 xa4 xa5 xaf lxb xb0 xb1 xb2 xb3 xb4 xb5 xbf
  replace hxa := hxa.kept hb
  replace hxb := hxb.kept hb
  have HB18 : Hid (Below w.heap.size w w18) := Lib.hid (HB17.out.trans (hb.mono HB17.out.size))
  clear hb
  obtain ⟨lxa, xa0, xa1, xa2, xa3, xa4, xa5, xaf⟩ : Bx w18 w1.heap.size 1200 20000 6600 6600 40 5000 := id hxa
  obtain ⟨lxb, xb0, xb1, xb2, xb3, xb4, xb5, xbf⟩ : Bx w18 w5.heap.size 1200 20000 12000 (-1) (-1) 0 := id hxb
  go_upto_region 13 with (fail)
  have qxaxc : w1.heap.size < w18.heap.size := hxa.lt
  have qxbxc : w5.heap.size < w18.heap.size := hxb.lt
  have hzxc : w.heap.size ≤ w18.heap.size := HB18.out.size
  clear lxa xa0 xa1 xa2 xa3 xa4 xa5 xaf lxb xb0 xb1 xb2 xb3 xb4 xb5 xbf
  obtain ⟨w19, hW⟩ : ∃ W, w18.alloc (.cells #[.int .i64 1200, .int .i64 20000, .int .i64 7800, .int .i64 6600, .int .i64 40, .int .i64 3400] 26) = W := ⟨_, rfl⟩
  rw [hW]
  have hxa' : BW w19 w1.heap.size ⟨1200, 20000, 6600, 6600, 40, 5000⟩ := hW ▸ hxa.alloc _
  have hxb' : BW w19 w5.heap.size ⟨1200, 20000, 12000, -1, -1, 0⟩ := hW ▸ hxb.alloc _
  have hxc : BW w19 w18.heap.size ⟨1200, 20000, 7800, 6600, 40, 3400⟩ := hW ▸ BW.new w18 ⟨1200, 20000, 7800, 6600, 40, 3400⟩ 26
  have HB19 : Hid (Below w.heap.size w w19) := hW ▸ (HB18.out.alloc HB18.out.size _)
  clear hW
  replace hxa := hxa'
  replace hxb := hxb'
  obtain ⟨lxa, xa0, xa1, xa2, xa3, xa4, xa5, xaf⟩ : Bx w19 w1.heap.size 1200 20000 6600 6600 40 5000 := id hxa
  obtain ⟨lxb, xb0, xb1, xb2, xb3, xb4, xb5, xbf⟩ : Bx w19 w5.heap.size 1200 20000 12000 (-1) (-1) 0 := id hxb
  obtain ⟨lxc, xc0, xc1, xc2, xc3, xc4, xc5, xcf⟩ : Bx w19 w18.heap.size 1200 20000 7800 6600 40 3400 := id hxc
  go_wp2_with fail
  refine (c8 _).mono ?_
  rintro e w20 ⟨rfl, hb⟩
  clear lxa xa0 xa1 xa2 xa3 xa4 xa5 xaf lxb xb0 xb1 xb2 xb3 xb4 xb5 xbf lxc xc0 xc1 xc2 xc3 xc4 xc5 xcf
  replace hxa := hxa.kept hb
  replace hxb := hxb.kept hb
  replace hxc := hxc.kept hb
  have HB20 : Hid (Below w.heap.size w w20) := Lib.hid (HB19.out.trans (hb.mono HB19.out.size))
  clear hb
  obtain ⟨lxa, xa0, xa1, xa2, xa3, xa4, xa5, xaf⟩ : Bx w20 w1.heap.size 1200 20000 6600 6600 40 5000 := id hxa
  obtain ⟨lxb, xb0, xb1, xb2, xb3, xb4, xb5, xbf⟩ : Bx w20 w5.heap.size 1200 20000 12000 (-1) (-1) 0 := id hxb
  obtain ⟨lxc, xc0, xc1, xc2, xc3, xc4, xc5, xcf⟩ : Bx w20 w18.heap.size 1200 20000 7800 6600 40 3400 := id hxc
  go_upto_region 14 with (fail)
  have qxaxd : w1.heap.size < w20.heap.size := hxa.lt
  have qxbxd : w5.heap.size < w20.heap.size := hxb.lt
  have qxcxd : w18.heap.size < w20.heap.size := hxc.lt
  have hzxd : w.heap.size ≤ w20.heap.size := HB20.out.size
  clear lxa xa0 xa1 xa2 xa3 xa4 xa5 xaf lxb xb0 xb1 xb2 xb3 xb4 xb5 xbf lxc xc0 xc1 xc2 xc3 xc4 xc5 xcf
  obtain ⟨w21, hW⟩ : ∃ W, w20.alloc (.cells #[.int .i64 1200, .int .i64 20000, .int .i64 13800, .int .i64 6600, .int .i64 40, .int .i64 12400] 26) = W := ⟨_, rfl⟩
  rw [hW]
  have hxa' : BW w21 w1.heap.size ⟨1200, 20000, 6600, 6600, 40, 5000⟩ := hW ▸ hxa.alloc _
  have hxb' : BW w21 w5.heap.size ⟨1200, 20000, 12000, -1, -1, 0⟩ := hW ▸ hxb.alloc _
  have hxc' : BW w21 w18.heap.size ⟨1200, 20000, 7800, 6600, 40, 3400⟩ := hW ▸ hxc.alloc _
  have hxd : BW w21 w20.heap.size ⟨1200, 20000, 13800, 6600, 40, 12400⟩ := hW ▸ BW.new w20 ⟨1200, 20000, 13800, 6600, 40, 12400⟩ 26
  have HB21 : Hid (Below w.heap.size w w21) := hW ▸ (HB20.out.alloc HB20.out.size _)
  clear hW
  replace hxa := hxa'
  replace hxb := hxb'
  replace hxc := hxc'
  obtain ⟨lxa, xa0, xa1, xa2, xa3, xa4, xa5, xaf⟩ : Bx w21 w1.heap.size 1200 20000 6600 6600 40 5000 := id hxa
  obtain ⟨lxb, xb0, xb1, xb2, xb3, xb4, xb5, xbf⟩ : Bx w21 w5.heap.size 1200 20000 12000 (-1) (-1) 0 := id hxb
  obtain ⟨lxc, xc0, xc1, xc2, xc3, xc4, xc5, xcf⟩ : Bx w21 w18.heap.size 1200 20000 7800 6600 40 3400 := id hxc
  obtain ⟨lxd, xd0, xd1, xd2, xd3, xd4, xd5, xdf⟩ : Bx w21 w20.heap.size 1200 20000 13800 6600 40 12400 := id hxd
  go_wp2_with fail
  refine (c9 _).mono ?_
  rintro e w22 ⟨rfl, hb⟩
  clear lxa xa0 xa1 xa2 xa3 xa4 xa5 xaf lxb xb0 xb1 xb2 xb3 xb4 xb5 xbf lxc xc0 xc1 xc2 xc3 xc4 xc5 xcf lxd xd0 xd1 xd2 xd3 xd4 xd5 xdf
  replace hxa := hxa.kept hb
  replace hxb := hxb.kept hb
  replace hxc := hxc.kept hb
  replace hxd := hxd.kept hb
  have HB22 : Hid (Below w.heap.size w w22) := Lib.hid (HB21.out.trans (hb.mono HB21.out.size))
  clear hb
  obtain ⟨lxa, xa0, xa1, xa2, xa3, xa4, xa5, xaf⟩ : Bx w22 w1.heap.size 1200 20000 6600 6600 40 5000 := id hxa
  obtain ⟨lxb, xb0, xb1, xb2, xb3, xb4, xb5, xbf⟩ : Bx w22 w5.heap.size 1200 20000 12000 (-1) (-1) 0 := id hxb
  obtain ⟨lxc, xc0, xc1, xc2, xc3, xc4, xc5, xcf⟩ : Bx w22 w18.heap.size 1200 20000 7800 6600 40 3400 := id hxc
  obtain ⟨lxd, xd0, xd1, xd2, xd3, xd4, xd5, xdf⟩ : Bx w22 w20.heap.size 1200 20000 13800 6600 40 12400 := id hxd
  go_upto_region 15 with (fail)
  have qxaxe : w1.heap.size < w22.heap.size := hxa.lt
  have qxbxe : w5.heap.size < w22.heap.size := hxb.lt
  have qxcxe : w18.heap.size < w22.heap.size := hxc.lt
  have qxdxe : w20.heap.size < w22.heap.size := hxd.lt
  have hzxe : w.heap.size ≤ w22.heap.size := HB22.out.size
  clear lxa xa0 xa1 xa2 xa3 xa4 xa5 xaf lxb xb0 xb1 xb2 xb3 xb4 xb5 xbf lxc xc0 xc1 xc2 xc3 xc4 xc5 xcf lxd xd0 xd1 xd2 xd3 xd4 xd5 xdf
  obtain ⟨w23, hW⟩ : ∃ W, w22.alloc (.cells #[.int .i64 1200, .int .i64 20000, .int .i64 2400, .int .i64 6600, .int .i64 (-1), .int .i64 0] 26) = W := ⟨_, rfl⟩
  rw [hW]
  have hxa' : BW w23 w1.heap.size ⟨1200, 20000, 6600, 6600, 40, 5000⟩ := hW ▸ hxa.alloc _
  have hxb' : BW w23 w5.heap.size ⟨1200, 20000, 12000, -1, -1, 0⟩ := hW ▸ hxb.alloc _
  have hxc' : BW w23 w18.heap.size ⟨1200, 20000, 7800, 6600, 40, 3400⟩ := hW ▸ hxc.alloc _
  have hxd' : BW w23 w20.heap.size ⟨1200, 20000, 13800, 6600, 40, 12400⟩ := hW ▸ hxd.alloc _
  have hxe : BW w23 w22.heap.size ⟨1200, 20000, 2400, 6600, -1, 0⟩ := hW ▸ BW.new w22 ⟨1200, 20000, 2400, 6600, -1, 0⟩ 26
  have HB23 : Hid (Below w.heap.size w w23) := hW ▸ (HB22.out.alloc HB22.out.size _)
  clear hW
  replace hxa := hxa'
  replace hxb := hxb'
  replace hxc := hxc'
  replace hxd := hxd'
  obtain ⟨lxa, xa0, xa1, xa2, xa3, xa4, xa5, xaf⟩ : Bx w23 w1.heap.size 1200 20000 6600 6600 40 5000 := id hxa
  obtain ⟨lxb, xb0, xb1, xb2, xb3, xb4, xb5, xbf⟩ : Bx w23 w5.heap.size 1200 20000 12000 (-1) (-1) 0 := id hxb
  obtain ⟨lxc, xc0, xc1, xc2, xc3, xc4, xc5, xcf⟩ : Bx w23 w18.heap.size 1200 20000 7800 6600 40 3400 := id hxc
  obtain ⟨lxd, xd0, xd1, xd2, xd3, xd4, xd5, xdf⟩ : Bx w23 w20.heap.size 1200 20000 13800 6600 40 12400 := id hxd
  obtain ⟨lxe, xe0, xe1, xe2, xe3, xe4, xe5, xef⟩ : Bx w23 w22.heap.size 1200 20000 2400 6600 (-1) 0 := id hxe
  go_wp2_with fail
  refine (is_yes 1200 20000 6600 6600 40 5000 _).mono ?_
  rintro e w24 ⟨rfl, hb⟩
  clear lxa xa0 xa1 xa2 xa3 xa4 xa5 xaf lxb xb0 xb1 xb2 xb3 xb4 xb5 xbf lxc xc0 xc1 xc2 xc3 xc4 xc5 xcf lxd xd0 xd1 xd2 xd3 xd4 xd5 xdf lxe xe0 xe1 xe2 xe3 xe4 xe5 xef
  replace hxa := hxa.kept hb
  replace hxb := hxb.kept hb
  replace hxc := hxc.kept hb
  replace hxd := hxd.kept hb
  replace hxe := hxe.kept hb
  have HB24 : Hid (Below w.heap.size w w24) := Lib.hid (HB23.out.trans (hb.mono HB23.out.size))
  clear hb
  obtain ⟨lxa, xa0, xa1, xa2, xa3, xa4, xa5, xaf⟩ : Bx w24 w1.heap.size 1200 20000 6600 6600 40 5000 := id hxa
  obtain ⟨lxb, xb0, xb1, xb2, xb3, xb4, xb5, xbf⟩ : Bx w24 w5.heap.size 1200 20000 12000 (-1) (-1) 0 := id hxb
  obtain ⟨lxc, xc0, xc1, xc2, xc3, xc4, xc5, xcf⟩ : Bx w24 w18.heap.size 1200 20000 7800 6600 40 3400 := id hxc
  obtain ⟨lxd, xd0, xd1, xd2, xd3, xd4, xd5, xdf⟩ : Bx w24 w20.heap.size 1200 20000 13800 6600 40 12400 := id hxd
  obtain ⟨lxe, xe0, xe1, xe2, xe3, xe4, xe5, xef⟩ : Bx w24 w22.heap.size 1200 20000 2400 6600 (-1) 0 := id hxe
  go_wp2_with fail
  refine (is_yes 1200 20000 7800 6600 40 3400 _).mono ?_
  rintro e w25 ⟨rfl, hb⟩
  clear lxa xa0 xa1 xa2 xa3 xa4 xa5 xaf lxb xb0 xb1 xb2 xb3 xb4 xb5 xbf lxc xc0 xc1 xc2 xc3 xc4 xc5 xcf lxd xd0 xd1 xd2 xd3 xd4 xd5 xdf lxe xe0 xe1 xe2 xe3 xe4 xe5 xef
  replace hxa := hxa.kept hb
  replace hxb := hxb.kept hb
  replace hxc := hxc.kept hb
  replace hxd := hxd.kept hb
  replace hxe := hxe.kept hb
  have HB25 : Hid (Below w.heap.size w w25) := Lib.hid (HB24.out.trans (hb.mono HB24.out.size))
  clear hb
  obtain ⟨lxa, xa0, xa1, xa2, xa3, xa4, xa5, xaf⟩ : Bx w25 w1.heap.size 1200 20000 6600 6600 40 5000 := id hxa
  obtain ⟨lxb, xb0, xb1, xb2, xb3, xb4, xb5, xbf⟩ : Bx w25 w5.heap.size 1200 20000 12000 (-1) (-1) 0 := id hxb
  obtain ⟨lxc, xc0, xc1, xc2, xc3, xc4, xc5, xcf⟩ : Bx w25 w18.heap.size 1200 20000 7800 6600 40 3400 := id hxc
  obtain ⟨lxd, xd0, xd1, xd2, xd3, xd4, xd5, xdf⟩ : Bx w25 w20.heap.size 1200 20000 13800 6600 40 12400 := id hxd
  obtain ⟨lxe, xe0, xe1, xe2, xe3, xe4, xe5, xef⟩ : Bx w25 w22.heap.size 1200 20000 2400 6600 (-1) 0 := id hxe
  go_wp2_with fail
  refine (is_yes 1200 20000 13800 6600 40 12400 _).mono ?_
  rintro e w26 ⟨rfl, hb⟩
  clear lxa xa0 xa1 xa2 xa3 xa4 xa5 xaf lxb xb0 xb1 xb2 xb3 xb4 xb5 xbf lxc xc0 xc1 xc2 xc3 xc4 xc5 xcf lxd xd0 xd1 xd2 xd3 xd4 xd5 xdf lxe xe0 xe1 xe2 xe3 xe4 xe5 xef
  replace hxa := hxa.kept hb
  replace hxb := hxb.kept hb
  replace hxc := hxc.kept hb
  replace hxd := hxd.kept hb
  replace hxe := hxe.kept hb
  have HB26 : Hid (Below w.heap.size w w26) := Lib.hid (HB25.out.trans (hb.mono HB25.out.size))
  clear hb
  obtain ⟨lxa, xa0, xa1, xa2, xa3, xa4, xa5, xaf⟩ : Bx w26 w1.heap.size 1200 20000 6600 6600 40 5000 := id hxa
  obtain ⟨lxb, xb0, xb1, xb2, xb3, xb4, xb5, xbf⟩ : Bx w26 w5.heap.size 1200 20000 12000 (-1) (-1) 0 := id hxb
  obtain ⟨lxc, xc0, xc1, xc2, xc3, xc4, xc5, xcf⟩ : Bx w26 w18.heap.size 1200 20000 7800 6600 40 3400 := id hxc
  obtain ⟨lxd, xd0, xd1, xd2, xd3, xd4, xd5, xdf⟩ : Bx w26 w20.heap.size 1200 20000 13800 6600 40 12400 := id hxd
  obtain ⟨lxe, xe0, xe1, xe2, xe3, xe4, xe5, xef⟩ : Bx w26 w22.heap.size 1200 20000 2400 6600 (-1) 0 := id hxe
  go_wp2_with fail
  refine (is_yes 1200 20000 2400 6600 (-1) 0 _).mono ?_
  rintro e w27 ⟨rfl, hb⟩
  clear lxa xa0 xa1 xa2 xa3 xa4 xa5 xaf lxb xb0 xb1 xb2 xb3 xb4 xb5 xbf lxc xc0 xc1 xc2 xc3 xc4 xc5 xcf lxd xd0 xd1 xd2 xd3 xd4 xd5 xdf lxe xe0 xe1 xe2 xe3 xe4 xe5 xef
  replace hxa := hxa.kept hb
  replace hxb := hxb.kept hb
  replace hxc := hxc.kept hb
  replace hxd := hxd.kept hb
  replace hxe := hxe.kept hb
  have HB27 : Hid (Below w.heap.size w w27) := Lib.hid (HB26.out.trans (hb.mono HB26.out.size))
  clear hb
  obtain ⟨lxa, xa0, xa1, xa2, xa3, xa4, xa5, xaf⟩ : Bx w27 w1.heap.size 1200 20000 6600 6600 40 5000 := id hxa
  obtain ⟨lxb, xb0, xb1, xb2, xb3, xb4, xb5, xbf⟩ : Bx w27 w5.heap.size 1200 20000 12000 (-1) (-1) 0 := id hxb
  obtain ⟨lxc, xc0, xc1, xc2, xc3, xc4, xc5, xcf⟩ : Bx w27 w18.heap.size 1200 20000 7800 6600 40 3400 := id hxc
  obtain ⟨lxd, xd0, xd1, xd2, xd3, xd4, xd5, xdf⟩ : Bx w27 w20.heap.size 1200 20000 13800 6600 40 12400 := id hxd
  obtain ⟨lxe, xe0, xe1, xe2, xe3, xe4, xe5, xef⟩ : Bx w27 w22.heap.size 1200 20000 2400 6600 (-1) 0 := id hxe
  go_wp2_with fail
  refine (c10 _).mono ?_
  rintro e w28 ⟨rfl, hb⟩
  clear lxa xa0 xa1 xa2 xa3 xa4 xa5 xaf lxb xb0 xb1 xb2 xb3 xb4 xb5 xbf lxc xc0 xc1 xc2 xc3 xc4 xc5 xcf lxd xd0 xd1 xd2 xd3 xd4 xd5 xdf lxe xe0 xe1 xe2 xe3 xe4 xe5 xef
  replace hxa := hxa.kept hb
  replace hxb := hxb.kept hb
  replace hxc := hxc.kept hb
  replace hxd := hxd.kept hb
  replace hxe := hxe.kept hb
  have HB28 : Hid (Below w.heap.size w w28) := Lib.hid (HB27.out.trans (hb.mono HB27.out.size))
  clear hb
  obtain ⟨lxa, xa0, xa1, xa2, xa3, xa4, xa5, xaf⟩ : Bx w28 w1.heap.size 1200 20000 6600 6600 40 5000 := id hxa
  obtain ⟨lxb, xb0, xb1, xb2, xb3, xb4, xb5, xbf⟩ : Bx w28 w5.heap.size 1200 20000 12000 (-1) (-1) 0 := id hxb
  obtain ⟨lxc, xc0, xc1, xc2, xc3, xc4, xc5, xcf⟩ : Bx w28 w18.heap.size 1200 20000 7800 6600 40 3400 := id hxc
  obtain ⟨lxd, xd0, xd1, xd2, xd3, xd4, xd5, xdf⟩ : Bx w28 w20.heap.size 1200 20000 13800 6600 40 12400 := id hxd
  obtain ⟨lxe, xe0, xe1, xe2, xe3, xe4, xe5, xef⟩ : Bx w28 w22.heap.size 1200 20000 2400 6600 (-1) 0 := id hxe
  go_wp2_with fail
  refine (c11 _).mono ?_
  rintro e w29 ⟨rfl, hb⟩
  clear lxa xa0 xa1 xa2 xa3 xa4 xa5 xaf lxb xb0 xb1 xb2 xb3 xb4 xb5 xbf lxc xc0 xc1 xc2 xc3 xc4 xc5 xcf lxd xd0 xd1 xd2 xd3 xd4 xd5 xdf lxe xe0 xe1 xe2 xe3 xe4 xe5 xef
  replace hxa := hxa.kept hb
  replace hxb := hxb.kept hb
  replace hxc := hxc.kept hb
  replace hxd := hxd.kept hb
  replace hxe := hxe.kept hb
  have HB29 : Hid (Below w.heap.size w w29) := Lib.hid (HB28.out.trans (hb.mono HB28.out.size))
  clear hb
  obtain ⟨lxa, xa0, xa1, xa2, xa3, xa4, xa5, xaf⟩ : Bx w29 w1.heap.size 1200 20000 6600 6600 40 5000 := id hxa
  obtain ⟨lxb, xb0, xb1, xb2, xb3, xb4, xb5, xbf⟩ : Bx w29 w5.heap.size 1200 20000 12000 (-1) (-1) 0 := id hxb
  obtain ⟨lxc, xc0, xc1, xc2, xc3, xc4, xc5, xcf⟩ : Bx w29 w18.heap.size 1200 20000 7800 6600 40 3400 := id hxc
  obtain ⟨lxd, xd0, xd1, xd2, xd3, xd4, xd5, xdf⟩ : Bx w29 w20.heap.size 1200 20000 13800 6600 40 12400 := id hxd
  obtain ⟨lxe, xe0, xe1, xe2, xe3, xe4, xe5, xef⟩ : Bx w29 w22.heap.size 1200 20000 2400 6600 (-1) 0 := id hxe
  go_wp2_with fail
  go_ret
  exact ⟨rfl, HB29.out⟩
end Go.Proofs.Ytcjhankepchioaa
