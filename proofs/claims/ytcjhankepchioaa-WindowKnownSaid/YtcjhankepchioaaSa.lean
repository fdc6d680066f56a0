/-
  The walk of WindowTells.
-/
import Derived.Test.YtcjhankepchioaaRd
import Derived.Test.YtcjhankepchioaaY
import Derived.Test.YtcjhankepchioaaQ
namespace Go.Proofs.Ytcjhankepchioaa
open Go.RowKit (wrap32 wrap64)
open Go.RowKit
set_option linter.unusedVariables false
set_option linter.unusedSimpArgs false

theorem cell_at3 {W : World} {n ty : Nat} {a b c : Int} (h : W.heap.size = n) (j : Nat) (v : Value) (hv : #[Value.int .i64 a, .int .i64 b, .int .i64 c][j]? = some v) : (W.alloc (.cells #[.int .i64 a, .int .i64 b, .int .i64 c] ty)).cell? ⟨n, j, none⟩ = some v := by
  subst h
  match j, hv with
  | 0, hv => simp at hv; subst hv; simp
  | 1, hv => simp at hv; subst hv; simp
  | 2, hv => simp at hv; subst hv; simp
theorem below_to {B W W' : World} (h : Below B.heap.size B W) (h' : Below W.heap.size W W') : Below B.heap.size B W' := h.trans (h'.mono h.size)

set_option maxRecDepth 100000 in
set_option maxHeartbeats 40000000 in
theorem tells_any (x : Win) (nu ti si : Int) (b1 b2 b3 : Bool) (x0 x1 x2 : Int) (w : World) :
    Calls Try.prog 5 #[.agg #[.int .i64 x.d, .int .i64 x.m, .int .i64 x.c, .int .i64 x.t, .int .i64 x.s, .int .i64 x.g], .agg #[.int .i64 nu, .int .i64 ti, .int .i64 si, .bool b1, .bool b2, .bool b3], .agg #[.int .i64 x0, .int .i64 x1, .int .i64 x2]] w fun e w' => e = .returned (.bool true) ∧ Below w.heap.size w w' := by
  have qe : ∀ (d m c t s g : Int) (w : World), (binOp .eql 26 (.agg #[.int .i64 d, .int .i64 m, .int .i64 c, .int .i64 t, .int .i64 s, .int .i64 g]) (.agg #[.int .i64 d, .int .i64 m, .int .i64 c, .int .i64 t, .int .i64 s, .int .i64 g])).run Try.prog w = .ok (.bool true) w := fun d m c t s g w => eql_26 d m c t s g w
  have qn : ∀ (d m c t s g : Int) (w : World), (binOp .neq 26 (.agg #[.int .i64 d, .int .i64 m, .int .i64 c, .int .i64 t, .int .i64 s, .int .i64 g]) (.agg #[.int .i64 d, .int .i64 m, .int .i64 c, .int .i64 t, .int .i64 s, .int .i64 g])).run Try.prog w = .ok (.bool false) w := fun d m c t s g w => neq_26 d m c t s g w
  obtain ⟨k, HK, k0, k1⟩ := name_mod x2 2 (by omega)
  obtain ⟨fb, HFB⟩ : ∃ fb : Bool, Hid ((k == 1) = fb) := ⟨_, rfl⟩
  obtain ⟨r1, HR1⟩ : ∃ r, Hid (chW x (acked x ti si fb) (rightP ti si) = r) := ⟨_, rfl⟩
  obtain ⟨e1, HE1⟩ : ∃ e, Hid (chE x (rightP ti si) = e) := ⟨_, rfl⟩
  obtain ⟨r2, HR2⟩ : ∃ r, Hid (chW x (bad x x0 x1) (timeB x0 && timeB x1) = r) := ⟨_, rfl⟩
  obtain ⟨e2, HE2⟩ : ∃ e, Hid (chE x (timeB x0 && timeB x1) = e) := ⟨_, rfl⟩
  obtain ⟨r3, HR3⟩ : ∃ r, Hid (chW x (collapse x) true = r) := ⟨_, rfl⟩
  obtain ⟨e3, HE3⟩ : ∃ e, Hid (chE x true = e) := ⟨_, rfl⟩
  obtain ⟨r4, HR4⟩ : ∃ r, newW x0 x1 x2 = r := ⟨_, rfl⟩
  obtain ⟨e4, HE4⟩ : ∃ e, newE x0 x1 x2 = e := ⟨_, rfl⟩
  have cnew := fun W => wnew_any x0 x1 x2 W
  have crnew := fun W => rnew_any x0 x1 x2 W
  rw [HR4, HE4] at cnew crnew
  have CNEW := Lib.hid cnew
  have CRNEW := Lib.hid crnew
  clear HR4 HE4 cnew crnew
  obtain ⟨e5, HE5⟩ : ∃ e, Hid ((if Ok x then (0 : Int) else 2) = e) := ⟨_, rfl⟩
  obtain ⟨bs, HBS⟩ : ∃ b, Hid (slowB x = b) := ⟨_, rfl⟩
  go_enter Try.func5, Try.ntmps5
  go_wp2_with fail
  obtain ⟨W0, hW0⟩ : ∃ W, (((w.alloc (.cells #[.int .i64 x.d, .int .i64 x.m, .int .i64 x.c, .int .i64 x.t, .int .i64 x.s, .int .i64 x.g] 26)).alloc (.cells #[.int .i64 nu, .int .i64 ti, .int .i64 si, .bool b1, .bool b2, .bool b3] 34)).alloc (.cells #[.int .i64 x0, .int .i64 x1, .int .i64 x2] 22)) = W := ⟨_, rfl⟩
  rw [hW0]
  have hL0 : (W0.cell? ⟨w.heap.size, 0, none⟩ = some (.int .i64 x.d) ∧ W0.cell? ⟨w.heap.size, 1, none⟩ = some (.int .i64 x.m) ∧ W0.cell? ⟨w.heap.size, 2, none⟩ = some (.int .i64 x.c) ∧ W0.cell? ⟨w.heap.size, 3, none⟩ = some (.int .i64 x.t) ∧ W0.cell? ⟨w.heap.size, 4, none⟩ = some (.int .i64 x.s) ∧ W0.cell? ⟨w.heap.size, 5, none⟩ = some (.int .i64 x.g)) ∧ (W0.cell? ⟨w.heap.size + 1, 0, none⟩ = some (.int .i64 nu) ∧ W0.cell? ⟨w.heap.size + 1, 1, none⟩ = some (.int .i64 ti) ∧ W0.cell? ⟨w.heap.size + 1, 2, none⟩ = some (.int .i64 si) ∧ W0.cell? ⟨w.heap.size + 1, 3, none⟩ = some (.bool b1) ∧ W0.cell? ⟨w.heap.size + 1, 4, none⟩ = some (.bool b2) ∧ W0.cell? ⟨w.heap.size + 1, 5, none⟩ = some (.bool b3)) ∧ (W0.cell? ⟨w.heap.size + 1 + 1, 0, none⟩ = some (.int .i64 x0) ∧ W0.cell? ⟨w.heap.size + 1 + 1, 1, none⟩ = some (.int .i64 x1) ∧ W0.cell? ⟨w.heap.size + 1 + 1, 2, none⟩ = some (.int .i64 x2)) := by
    rw [← hW0]
    refine ⟨⟨?_, ?_, ?_, ?_, ?_, ?_⟩, ⟨?_, ?_, ?_, ?_, ?_, ?_⟩, ?_, ?_, ?_⟩
    · exact (((BW.new w x 26).alloc _).alloc _).c0
    · exact (((BW.new w x 26).alloc _).alloc _).c1
    · exact (((BW.new w x 26).alloc _).alloc _).c2
    · exact (((BW.new w x 26).alloc _).alloc _).c3
    · exact (((BW.new w x 26).alloc _).alloc _).c4
    · exact (((BW.new w x 26).alloc _).alloc _).c5
    · exact cell_old (b := w.heap.size + 1) (by simp) (by simp)
    · exact cell_old (b := w.heap.size + 1) (by simp) (by simp)
    · exact cell_old (b := w.heap.size + 1) (by simp) (by simp)
    · exact cell_old (b := w.heap.size + 1) (by simp) (by simp)
    · exact cell_old (b := w.heap.size + 1) (by simp) (by simp)
    · exact cell_old (b := w.heap.size + 1) (by simp) (by simp)
    · exact cell_at3 (by simp) 0 _ rfl
    · exact cell_at3 (by simp) 1 _ rfl
    · exact cell_at3 (by simp) 2 _ rfl
  have hn0 : w.heap.size + 1 + 1 < W0.heap.size := by rw [← hW0]; simp only [World.size_alloc]; omega
  have HB0 : Hid (Below w.heap.size w W0) := hW0 ▸ (by show Below _ _ _; go_grown)
  have HL : ∀ W, Below W0.heap.size W0 W → (W.cell? ⟨w.heap.size, 0, none⟩ = some (.int .i64 x.d) ∧ W.cell? ⟨w.heap.size, 1, none⟩ = some (.int .i64 x.m) ∧ W.cell? ⟨w.heap.size, 2, none⟩ = some (.int .i64 x.c) ∧ W.cell? ⟨w.heap.size, 3, none⟩ = some (.int .i64 x.t) ∧ W.cell? ⟨w.heap.size, 4, none⟩ = some (.int .i64 x.s) ∧ W.cell? ⟨w.heap.size, 5, none⟩ = some (.int .i64 x.g)) ∧ (W.cell? ⟨w.heap.size + 1, 0, none⟩ = some (.int .i64 nu) ∧ W.cell? ⟨w.heap.size + 1, 1, none⟩ = some (.int .i64 ti) ∧ W.cell? ⟨w.heap.size + 1, 2, none⟩ = some (.int .i64 si) ∧ W.cell? ⟨w.heap.size + 1, 3, none⟩ = some (.bool b1) ∧ W.cell? ⟨w.heap.size + 1, 4, none⟩ = some (.bool b2) ∧ W.cell? ⟨w.heap.size + 1, 5, none⟩ = some (.bool b3)) ∧ (W.cell? ⟨w.heap.size + 1 + 1, 0, none⟩ = some (.int .i64 x0) ∧ W.cell? ⟨w.heap.size + 1 + 1, 1, none⟩ = some (.int .i64 x1) ∧ W.cell? ⟨w.heap.size + 1 + 1, 2, none⟩ = some (.int .i64 x2)) := fun W hb => by
    obtain ⟨⟨a0, a1, a2, a3, a4, a5⟩, ⟨c0, c1, c2, c3, c4, c5⟩, d0, d1, d2⟩ := hL0
    exact ⟨⟨oldcell a0 hb (by omega), oldcell a1 hb (by omega), oldcell a2 hb (by omega), oldcell a3 hb (by omega), oldcell a4 hb (by omega), oldcell a5 hb (by omega)⟩, ⟨oldcell c0 hb (by omega), oldcell c1 hb (by omega), oldcell c2 hb (by omega), oldcell c3 hb (by omega), oldcell c4 hb (by omega), oldcell c5 hb (by omega)⟩, oldcell d0 hb (by omega), oldcell d1 hb (by omega), oldcell d2 hb (by omega)⟩
  have HLL := Lib.hid HL
  clear HL hW0
  have HBq0 : Hid (Below W0.heap.size W0 W0) := Below.refl _ _
  obtain ⟨⟨la0, la1, la2, la3, la4, la5⟩, ⟨lp0, lp1, lp2, lp3, lp4, lp5⟩, l30, l31, l32⟩ := hL0
  -- the walk
  go_wp2_with fail
  refine (bring_is _ _ k _ HK (by omega) (by omega)).mono ?_
  rintro e w' ⟨rfl, rfl⟩
  go_upto_region 2 with (fail)
  rw [HFB.out]
  go_wp2_with fail
  refine (wacked_any x nu ti si b1 b2 b3 fb r1 e1 _ HR1 HE1).mono ?_
  rintro e w1 ⟨rfl, hb⟩
  clear la0 la1 la2 la3 la4 la5 lp0 lp1 lp2 lp3 lp4 lp5 l30 l31 l32
  have HBq1 : Hid (Below W0.heap.size W0 w1) := below_to HBq0.out hb
  clear hb
  obtain ⟨⟨la0, la1, la2, la3, la4, la5⟩, ⟨lp0, lp1, lp2, lp3, lp4, lp5⟩, l30, l31, l32⟩ := HLL.out w1 HBq1.out
  go_upto_region 3 with (fail)
  clear la0 la1 la2 la3 la4 la5 lp0 lp1 lp2 lp3 lp4 lp5 l30 l31 l32
  obtain ⟨w2, hW⟩ : ∃ W, w1.alloc (.cells #[.int .i64 r1.d, .int .i64 r1.m, .int .i64 r1.c, .int .i64 r1.t, .int .i64 r1.s, .int .i64 r1.g] 26) = W := ⟨_, rfl⟩
  rw [hW]
  have hzxa : W0.heap.size ≤ w1.heap.size := HBq1.out.size
  have hxa : BW w2 w1.heap.size r1 := hW ▸ BW.new w1 r1 26
  have HBq2 : Hid (Below W0.heap.size W0 w2) := hW ▸ (HBq1.out.alloc HBq1.out.size _)
  clear hW
  obtain ⟨⟨la0, la1, la2, la3, la4, la5⟩, ⟨lp0, lp1, lp2, lp3, lp4, lp5⟩, l30, l31, l32⟩ := HLL.out w2 HBq2.out
  obtain ⟨lxa, xa0, xa1, xa2, xa3, xa4, xa5, xaf⟩ := id hxa
  go_wp2_with fail
  refine (racked_any x nu ti si b1 b2 b3 fb r1 e1 _ HR1 HE1).mono ?_
  rintro e w3 ⟨rfl, hb⟩
  clear la0 la1 la2 la3 la4 la5 lp0 lp1 lp2 lp3 lp4 lp5 l30 l31 l32 lxa xa0 xa1 xa2 xa3 xa4 xa5 xaf
  replace hxa := hxa.kept hb
  have HBq3 : Hid (Below W0.heap.size W0 w3) := below_to HBq2.out hb
  clear hb
  obtain ⟨⟨la0, la1, la2, la3, la4, la5⟩, ⟨lp0, lp1, lp2, lp3, lp4, lp5⟩, l30, l31, l32⟩ := HLL.out w3 HBq3.out
  obtain ⟨lxa, xa0, xa1, xa2, xa3, xa4, xa5, xaf⟩ := id hxa
  go_upto_region 4 with (fail)
  clear la0 la1 la2 la3 la4 la5 lp0 lp1 lp2 lp3 lp4 lp5 l30 l31 l32 lxa xa0 xa1 xa2 xa3 xa4 xa5 xaf
  obtain ⟨w4, hW⟩ : ∃ W, w3.alloc (.cells #[.int .i64 r1.d, .int .i64 r1.m, .int .i64 r1.c, .int .i64 r1.t, .int .i64 r1.s, .int .i64 r1.g] 26) = W := ⟨_, rfl⟩
  rw [hW]
  have qxaxb : w1.heap.size < w3.heap.size := hxa.lt
  have hzxb : W0.heap.size ≤ w3.heap.size := HBq3.out.size
  have hxa' : BW w4 w1.heap.size r1 := hW ▸ hxa.alloc _
  have hxb : BW w4 w3.heap.size r1 := hW ▸ BW.new w3 r1 26
  have HBq4 : Hid (Below W0.heap.size W0 w4) := hW ▸ (HBq3.out.alloc HBq3.out.size _)
  clear hW
  replace hxa := hxa'
  obtain ⟨⟨la0, la1, la2, la3, la4, la5⟩, ⟨lp0, lp1, lp2, lp3, lp4, lp5⟩, l30, l31, l32⟩ := HLL.out w4 HBq4.out
  obtain ⟨lxa, xa0, xa1, xa2, xa3, xa4, xa5, xaf⟩ := id hxa
  obtain ⟨lxb, xb0, xb1, xb2, xb3, xb4, xb5, xbf⟩ := id hxb
  go_wp2_with fail
  refine (wbad_any x x0 x1 r2 e2 _ HR2 HE2).mono ?_
  rintro e w5 ⟨rfl, hb⟩
  clear la0 la1 la2 la3 la4 la5 lp0 lp1 lp2 lp3 lp4 lp5 l30 l31 l32 lxa xa0 xa1 xa2 xa3 xa4 xa5 xaf lxb xb0 xb1 xb2 xb3 xb4 xb5 xbf
  replace hxa := hxa.kept hb
  replace hxb := hxb.kept hb
  have HBq5 : Hid (Below W0.heap.size W0 w5) := below_to HBq4.out hb
  clear hb
  obtain ⟨⟨la0, la1, la2, la3, la4, la5⟩, ⟨lp0, lp1, lp2, lp3, lp4, lp5⟩, l30, l31, l32⟩ := HLL.out w5 HBq5.out
  obtain ⟨lxa, xa0, xa1, xa2, xa3, xa4, xa5, xaf⟩ := id hxa
  obtain ⟨lxb, xb0, xb1, xb2, xb3, xb4, xb5, xbf⟩ := id hxb
  go_upto_region 5 with (fail)
  clear la0 la1 la2 la3 la4 la5 lp0 lp1 lp2 lp3 lp4 lp5 l30 l31 l32 lxa xa0 xa1 xa2 xa3 xa4 xa5 xaf lxb xb0 xb1 xb2 xb3 xb4 xb5 xbf
  obtain ⟨w6, hW⟩ : ∃ W, w5.alloc (.cells #[.int .i64 r2.d, .int .i64 r2.m, .int .i64 r2.c, .int .i64 r2.t, .int .i64 r2.s, .int .i64 r2.g] 26) = W := ⟨_, rfl⟩
  rw [hW]
  have qxaxc : w1.heap.size < w5.heap.size := hxa.lt
  have qxbxc : w3.heap.size < w5.heap.size := hxb.lt
  have hzxc : W0.heap.size ≤ w5.heap.size := HBq5.out.size
  have hxa' : BW w6 w1.heap.size r1 := hW ▸ hxa.alloc _
  have hxb' : BW w6 w3.heap.size r1 := hW ▸ hxb.alloc _
  have hxc : BW w6 w5.heap.size r2 := hW ▸ BW.new w5 r2 26
  have HBq6 : Hid (Below W0.heap.size W0 w6) := hW ▸ (HBq5.out.alloc HBq5.out.size _)
  clear hW
  replace hxa := hxa'
  replace hxb := hxb'
  obtain ⟨⟨la0, la1, la2, la3, la4, la5⟩, ⟨lp0, lp1, lp2, lp3, lp4, lp5⟩, l30, l31, l32⟩ := HLL.out w6 HBq6.out
  obtain ⟨lxa, xa0, xa1, xa2, xa3, xa4, xa5, xaf⟩ := id hxa
  obtain ⟨lxb, xb0, xb1, xb2, xb3, xb4, xb5, xbf⟩ := id hxb
  obtain ⟨lxc, xc0, xc1, xc2, xc3, xc4, xc5, xcf⟩ := id hxc
  go_wp2_with fail
  refine (rbad_any x x0 x1 r2 e2 _ HR2 HE2).mono ?_
  rintro e w7 ⟨rfl, hb⟩
  clear la0 la1 la2 la3 la4 la5 lp0 lp1 lp2 lp3 lp4 lp5 l30 l31 l32 lxa xa0 xa1 xa2 xa3 xa4 xa5 xaf lxb xb0 xb1 xb2 xb3 xb4 xb5 xbf lxc xc0 xc1 xc2 xc3 xc4 xc5 xcf
  replace hxa := hxa.kept hb
  replace hxb := hxb.kept hb
  replace hxc := hxc.kept hb
  have HBq7 : Hid (Below W0.heap.size W0 w7) := below_to HBq6.out hb
  clear hb
  obtain ⟨⟨la0, la1, la2, la3, la4, la5⟩, ⟨lp0, lp1, lp2, lp3, lp4, lp5⟩, l30, l31, l32⟩ := HLL.out w7 HBq7.out
  obtain ⟨lxa, xa0, xa1, xa2, xa3, xa4, xa5, xaf⟩ := id hxa
  obtain ⟨lxb, xb0, xb1, xb2, xb3, xb4, xb5, xbf⟩ := id hxb
  obtain ⟨lxc, xc0, xc1, xc2, xc3, xc4, xc5, xcf⟩ := id hxc
  go_upto_region 6 with (fail)
  clear la0 la1 la2 la3 la4 la5 lp0 lp1 lp2 lp3 lp4 lp5 l30 l31 l32 lxa xa0 xa1 xa2 xa3 xa4 xa5 xaf lxb xb0 xb1 xb2 xb3 xb4 xb5 xbf lxc xc0 xc1 xc2 xc3 xc4 xc5 xcf
  obtain ⟨w8, hW⟩ : ∃ W, w7.alloc (.cells #[.int .i64 r2.d, .int .i64 r2.m, .int .i64 r2.c, .int .i64 r2.t, .int .i64 r2.s, .int .i64 r2.g] 26) = W := ⟨_, rfl⟩
  rw [hW]
  have qxaxd : w1.heap.size < w7.heap.size := hxa.lt
  have qxbxd : w3.heap.size < w7.heap.size := hxb.lt
  have qxcxd : w5.heap.size < w7.heap.size := hxc.lt
  have hzxd : W0.heap.size ≤ w7.heap.size := HBq7.out.size
  have hxa' : BW w8 w1.heap.size r1 := hW ▸ hxa.alloc _
  have hxb' : BW w8 w3.heap.size r1 := hW ▸ hxb.alloc _
  have hxc' : BW w8 w5.heap.size r2 := hW ▸ hxc.alloc _
  have hxd : BW w8 w7.heap.size r2 := hW ▸ BW.new w7 r2 26
  have HBq8 : Hid (Below W0.heap.size W0 w8) := hW ▸ (HBq7.out.alloc HBq7.out.size _)
  clear hW
  replace hxa := hxa'
  replace hxb := hxb'
  replace hxc := hxc'
  obtain ⟨⟨la0, la1, la2, la3, la4, la5⟩, ⟨lp0, lp1, lp2, lp3, lp4, lp5⟩, l30, l31, l32⟩ := HLL.out w8 HBq8.out
  obtain ⟨lxa, xa0, xa1, xa2, xa3, xa4, xa5, xaf⟩ := id hxa
  obtain ⟨lxb, xb0, xb1, xb2, xb3, xb4, xb5, xbf⟩ := id hxb
  obtain ⟨lxc, xc0, xc1, xc2, xc3, xc4, xc5, xcf⟩ := id hxc
  obtain ⟨lxd, xd0, xd1, xd2, xd3, xd4, xd5, xdf⟩ := id hxd
  go_wp2_with fail
  refine (wcollapse_any x r3 e3 _ HR3 HE3).mono ?_
  rintro e w9 ⟨rfl, hb⟩
  clear la0 la1 la2 la3 la4 la5 lp0 lp1 lp2 lp3 lp4 lp5 l30 l31 l32 lxa xa0 xa1 xa2 xa3 xa4 xa5 xaf lxb xb0 xb1 xb2 xb3 xb4 xb5 xbf lxc xc0 xc1 xc2 xc3 xc4 xc5 xcf lxd xd0 xd1 xd2 xd3 xd4 xd5 xdf
  replace hxa := hxa.kept hb
  replace hxb := hxb.kept hb
  replace hxc := hxc.kept hb
  replace hxd := hxd.kept hb
  have HBq9 : Hid (Below W0.heap.size W0 w9) := below_to HBq8.out hb
  clear hb
  obtain ⟨⟨la0, la1, la2, la3, la4, la5⟩, ⟨lp0, lp1, lp2, lp3, lp4, lp5⟩, l30, l31, l32⟩ := HLL.out w9 HBq9.out
  obtain ⟨lxa, xa0, xa1, xa2, xa3, xa4, xa5, xaf⟩ := id hxa
  obtain ⟨lxb, xb0, xb1, xb2, xb3, xb4, xb5, xbf⟩ := id hxb
  obtain ⟨lxc, xc0, xc1, xc2, xc3, xc4, xc5, xcf⟩ := id hxc
  obtain ⟨lxd, xd0, xd1, xd2, xd3, xd4, xd5, xdf⟩ := id hxd
  go_upto_region 9 with (fail)
  clear la0 la1 la2 la3 la4 la5 lp0 lp1 lp2 lp3 lp4 lp5 l30 l31 l32 lxa xa0 xa1 xa2 xa3 xa4 xa5 xaf lxb xb0 xb1 xb2 xb3 xb4 xb5 xbf lxc xc0 xc1 xc2 xc3 xc4 xc5 xcf lxd xd0 xd1 xd2 xd3 xd4 xd5 xdf
  obtain ⟨w10, hW⟩ : ∃ W, ((((((w9.setCell ⟨w1.heap.size, 0, none⟩ (.int .i64 r3.d)).setCell ⟨w1.heap.size, 1, none⟩ (.int .i64 r3.m)).setCell ⟨w1.heap.size, 2, none⟩ (.int .i64 r3.c)).setCell ⟨w1.heap.size, 3, none⟩ (.int .i64 r3.t)).setCell ⟨w1.heap.size, 4, none⟩ (.int .i64 r3.s)).setCell ⟨w1.heap.size, 5, none⟩ (.int .i64 r3.g)) = W := ⟨_, rfl⟩
  rw [hW]
  have hxa' : BW w10 w1.heap.size r3 := hW ▸ BW.set6 hxa r3
  have hxb' : BW w10 w3.heap.size r1 := hW ▸ BW.far6 hxb _ (by omega) _ _ _ _ _ _
  have hxc' : BW w10 w5.heap.size r2 := hW ▸ BW.far6 hxc _ (by omega) _ _ _ _ _ _
  have hxd' : BW w10 w7.heap.size r2 := hW ▸ BW.far6 hxd _ (by omega) _ _ _ _ _ _
  have HBq10 : Hid (Below W0.heap.size W0 w10) := hW ▸ (bset HBq9.out _ hzxa _ _ _ _ _ _)
  clear hW
  replace hxa := hxa'
  replace hxb := hxb'
  replace hxc := hxc'
  replace hxd := hxd'
  obtain ⟨⟨la0, la1, la2, la3, la4, la5⟩, ⟨lp0, lp1, lp2, lp3, lp4, lp5⟩, l30, l31, l32⟩ := HLL.out w10 HBq10.out
  obtain ⟨lxa, xa0, xa1, xa2, xa3, xa4, xa5, xaf⟩ := id hxa
  obtain ⟨lxb, xb0, xb1, xb2, xb3, xb4, xb5, xbf⟩ := id hxb
  obtain ⟨lxc, xc0, xc1, xc2, xc3, xc4, xc5, xcf⟩ := id hxc
  obtain ⟨lxd, xd0, xd1, xd2, xd3, xd4, xd5, xdf⟩ := id hxd
  go_wp2_with fail
  refine (rcollapse_any x r3 e3 _ HR3 HE3).mono ?_
  rintro e w11 ⟨rfl, hb⟩
  clear la0 la1 la2 la3 la4 la5 lp0 lp1 lp2 lp3 lp4 lp5 l30 l31 l32 lxa xa0 xa1 xa2 xa3 xa4 xa5 xaf lxb xb0 xb1 xb2 xb3 xb4 xb5 xbf lxc xc0 xc1 xc2 xc3 xc4 xc5 xcf lxd xd0 xd1 xd2 xd3 xd4 xd5 xdf
  replace hxa := hxa.kept hb
  replace hxb := hxb.kept hb
  replace hxc := hxc.kept hb
  replace hxd := hxd.kept hb
  have HBq11 : Hid (Below W0.heap.size W0 w11) := below_to HBq10.out hb
  clear hb
  obtain ⟨⟨la0, la1, la2, la3, la4, la5⟩, ⟨lp0, lp1, lp2, lp3, lp4, lp5⟩, l30, l31, l32⟩ := HLL.out w11 HBq11.out
  obtain ⟨lxa, xa0, xa1, xa2, xa3, xa4, xa5, xaf⟩ := id hxa
  obtain ⟨lxb, xb0, xb1, xb2, xb3, xb4, xb5, xbf⟩ := id hxb
  obtain ⟨lxc, xc0, xc1, xc2, xc3, xc4, xc5, xcf⟩ := id hxc
  obtain ⟨lxd, xd0, xd1, xd2, xd3, xd4, xd5, xdf⟩ := id hxd
  go_upto_region 10 with (fail)
  clear la0 la1 la2 la3 la4 la5 lp0 lp1 lp2 lp3 lp4 lp5 l30 l31 l32 lxa xa0 xa1 xa2 xa3 xa4 xa5 xaf lxb xb0 xb1 xb2 xb3 xb4 xb5 xbf lxc xc0 xc1 xc2 xc3 xc4 xc5 xcf lxd xd0 xd1 xd2 xd3 xd4 xd5 xdf
  obtain ⟨w12, hW⟩ : ∃ W, ((((((w11.setCell ⟨w3.heap.size, 0, none⟩ (.int .i64 r3.d)).setCell ⟨w3.heap.size, 1, none⟩ (.int .i64 r3.m)).setCell ⟨w3.heap.size, 2, none⟩ (.int .i64 r3.c)).setCell ⟨w3.heap.size, 3, none⟩ (.int .i64 r3.t)).setCell ⟨w3.heap.size, 4, none⟩ (.int .i64 r3.s)).setCell ⟨w3.heap.size, 5, none⟩ (.int .i64 r3.g)) = W := ⟨_, rfl⟩
  rw [hW]
  have hxa' : BW w12 w1.heap.size r3 := hW ▸ BW.far6 hxa _ (by omega) _ _ _ _ _ _
  have hxb' : BW w12 w3.heap.size r3 := hW ▸ BW.set6 hxb r3
  have hxc' : BW w12 w5.heap.size r2 := hW ▸ BW.far6 hxc _ (by omega) _ _ _ _ _ _
  have hxd' : BW w12 w7.heap.size r2 := hW ▸ BW.far6 hxd _ (by omega) _ _ _ _ _ _
  have HBq12 : Hid (Below W0.heap.size W0 w12) := hW ▸ (bset HBq11.out _ hzxb _ _ _ _ _ _)
  clear hW
  replace hxa := hxa'
  replace hxb := hxb'
  replace hxc := hxc'
  replace hxd := hxd'
  obtain ⟨⟨la0, la1, la2, la3, la4, la5⟩, ⟨lp0, lp1, lp2, lp3, lp4, lp5⟩, l30, l31, l32⟩ := HLL.out w12 HBq12.out
  obtain ⟨lxa, xa0, xa1, xa2, xa3, xa4, xa5, xaf⟩ := id hxa
  obtain ⟨lxb, xb0, xb1, xb2, xb3, xb4, xb5, xbf⟩ := id hxb
  obtain ⟨lxc, xc0, xc1, xc2, xc3, xc4, xc5, xcf⟩ := id hxc
  obtain ⟨lxd, xd0, xd1, xd2, xd3, xd4, xd5, xdf⟩ := id hxd
  go_wp2_with fail
  refine (CNEW.out _).mono ?_
  rintro e w13 ⟨rfl, hb⟩
  clear la0 la1 la2 la3 la4 la5 lp0 lp1 lp2 lp3 lp4 lp5 l30 l31 l32 lxa xa0 xa1 xa2 xa3 xa4 xa5 xaf lxb xb0 xb1 xb2 xb3 xb4 xb5 xbf lxc xc0 xc1 xc2 xc3 xc4 xc5 xcf lxd xd0 xd1 xd2 xd3 xd4 xd5 xdf
  replace hxa := hxa.kept hb
  replace hxb := hxb.kept hb
  replace hxc := hxc.kept hb
  replace hxd := hxd.kept hb
  have HBq13 : Hid (Below W0.heap.size W0 w13) := below_to HBq12.out hb
  clear hb
  obtain ⟨⟨la0, la1, la2, la3, la4, la5⟩, ⟨lp0, lp1, lp2, lp3, lp4, lp5⟩, l30, l31, l32⟩ := HLL.out w13 HBq13.out
  obtain ⟨lxa, xa0, xa1, xa2, xa3, xa4, xa5, xaf⟩ := id hxa
  obtain ⟨lxb, xb0, xb1, xb2, xb3, xb4, xb5, xbf⟩ := id hxb
  obtain ⟨lxc, xc0, xc1, xc2, xc3, xc4, xc5, xcf⟩ := id hxc
  obtain ⟨lxd, xd0, xd1, xd2, xd3, xd4, xd5, xdf⟩ := id hxd
  go_upto_region 11 with (fail)
  clear la0 la1 la2 la3 la4 la5 lp0 lp1 lp2 lp3 lp4 lp5 l30 l31 l32 lxa xa0 xa1 xa2 xa3 xa4 xa5 xaf lxb xb0 xb1 xb2 xb3 xb4 xb5 xbf lxc xc0 xc1 xc2 xc3 xc4 xc5 xcf lxd xd0 xd1 xd2 xd3 xd4 xd5 xdf
  obtain ⟨w14, hW⟩ : ∃ W, ((((((w13.setCell ⟨w5.heap.size, 0, none⟩ (.int .i64 r4.d)).setCell ⟨w5.heap.size, 1, none⟩ (.int .i64 r4.m)).setCell ⟨w5.heap.size, 2, none⟩ (.int .i64 r4.c)).setCell ⟨w5.heap.size, 3, none⟩ (.int .i64 r4.t)).setCell ⟨w5.heap.size, 4, none⟩ (.int .i64 r4.s)).setCell ⟨w5.heap.size, 5, none⟩ (.int .i64 r4.g)) = W := ⟨_, rfl⟩
  rw [hW]
  have hxa' : BW w14 w1.heap.size r3 := hW ▸ BW.far6 hxa _ (by omega) _ _ _ _ _ _
  have hxb' : BW w14 w3.heap.size r3 := hW ▸ BW.far6 hxb _ (by omega) _ _ _ _ _ _
  have hxc' : BW w14 w5.heap.size r4 := hW ▸ BW.set6 hxc r4
  have hxd' : BW w14 w7.heap.size r2 := hW ▸ BW.far6 hxd _ (by omega) _ _ _ _ _ _
  have HBq14 : Hid (Below W0.heap.size W0 w14) := hW ▸ (bset HBq13.out _ hzxc _ _ _ _ _ _)
  clear hW
  replace hxa := hxa'
  replace hxb := hxb'
  replace hxc := hxc'
  replace hxd := hxd'
  obtain ⟨⟨la0, la1, la2, la3, la4, la5⟩, ⟨lp0, lp1, lp2, lp3, lp4, lp5⟩, l30, l31, l32⟩ := HLL.out w14 HBq14.out
  obtain ⟨lxa, xa0, xa1, xa2, xa3, xa4, xa5, xaf⟩ := id hxa
  obtain ⟨lxb, xb0, xb1, xb2, xb3, xb4, xb5, xbf⟩ := id hxb
  obtain ⟨lxc, xc0, xc1, xc2, xc3, xc4, xc5, xcf⟩ := id hxc
  obtain ⟨lxd, xd0, xd1, xd2, xd3, xd4, xd5, xdf⟩ := id hxd
  go_wp2_with fail
  refine (CRNEW.out _).mono ?_
  rintro e w15 ⟨rfl, hb⟩
  clear la0 la1 la2 la3 la4 la5 lp0 lp1 lp2 lp3 lp4 lp5 l30 l31 l32 lxa xa0 xa1 xa2 xa3 xa4 xa5 xaf lxb xb0 xb1 xb2 xb3 xb4 xb5 xbf lxc xc0 xc1 xc2 xc3 xc4 xc5 xcf lxd xd0 xd1 xd2 xd3 xd4 xd5 xdf
  replace hxa := hxa.kept hb
  replace hxb := hxb.kept hb
  replace hxc := hxc.kept hb
  replace hxd := hxd.kept hb
  have HBq15 : Hid (Below W0.heap.size W0 w15) := below_to HBq14.out hb
  clear hb
  obtain ⟨⟨la0, la1, la2, la3, la4, la5⟩, ⟨lp0, lp1, lp2, lp3, lp4, lp5⟩, l30, l31, l32⟩ := HLL.out w15 HBq15.out
  obtain ⟨lxa, xa0, xa1, xa2, xa3, xa4, xa5, xaf⟩ := id hxa
  obtain ⟨lxb, xb0, xb1, xb2, xb3, xb4, xb5, xbf⟩ := id hxb
  obtain ⟨lxc, xc0, xc1, xc2, xc3, xc4, xc5, xcf⟩ := id hxc
  obtain ⟨lxd, xd0, xd1, xd2, xd3, xd4, xd5, xdf⟩ := id hxd
  go_upto_region 12 with (fail)
  clear la0 la1 la2 la3 la4 la5 lp0 lp1 lp2 lp3 lp4 lp5 l30 l31 l32 lxa xa0 xa1 xa2 xa3 xa4 xa5 xaf lxb xb0 xb1 xb2 xb3 xb4 xb5 xbf lxc xc0 xc1 xc2 xc3 xc4 xc5 xcf lxd xd0 xd1 xd2 xd3 xd4 xd5 xdf
  obtain ⟨w16, hW⟩ : ∃ W, ((((((w15.setCell ⟨w7.heap.size, 0, none⟩ (.int .i64 r4.d)).setCell ⟨w7.heap.size, 1, none⟩ (.int .i64 r4.m)).setCell ⟨w7.heap.size, 2, none⟩ (.int .i64 r4.c)).setCell ⟨w7.heap.size, 3, none⟩ (.int .i64 r4.t)).setCell ⟨w7.heap.size, 4, none⟩ (.int .i64 r4.s)).setCell ⟨w7.heap.size, 5, none⟩ (.int .i64 r4.g)) = W := ⟨_, rfl⟩
  rw [hW]
  have hxa' : BW w16 w1.heap.size r3 := hW ▸ BW.far6 hxa _ (by omega) _ _ _ _ _ _
  have hxb' : BW w16 w3.heap.size r3 := hW ▸ BW.far6 hxb _ (by omega) _ _ _ _ _ _
  have hxc' : BW w16 w5.heap.size r4 := hW ▸ BW.far6 hxc _ (by omega) _ _ _ _ _ _
  have hxd' : BW w16 w7.heap.size r4 := hW ▸ BW.set6 hxd r4
  have HBq16 : Hid (Below W0.heap.size W0 w16) := hW ▸ (bset HBq15.out _ hzxd _ _ _ _ _ _)
  clear hW
  replace hxa := hxa'
  replace hxb := hxb'
  replace hxc := hxc'
  replace hxd := hxd'
  obtain ⟨⟨la0, la1, la2, la3, la4, la5⟩, ⟨lp0, lp1, lp2, lp3, lp4, lp5⟩, l30, l31, l32⟩ := HLL.out w16 HBq16.out
  obtain ⟨lxa, xa0, xa1, xa2, xa3, xa4, xa5, xaf⟩ := id hxa
  obtain ⟨lxb, xb0, xb1, xb2, xb3, xb4, xb5, xbf⟩ := id hxb
  obtain ⟨lxc, xc0, xc1, xc2, xc3, xc4, xc5, xcf⟩ := id hxc
  obtain ⟨lxd, xd0, xd1, xd2, xd3, xd4, xd5, xdf⟩ := id hxd
  have HS : ∀ w', Below w16.heap.size w16 w' → (w'.cell? ⟨w.heap.size, 0, none⟩ = some (.int .i64 x.d) ∧ w'.cell? ⟨w.heap.size, 1, none⟩ = some (.int .i64 x.m) ∧ w'.cell? ⟨w.heap.size, 2, none⟩ = some (.int .i64 x.c) ∧ w'.cell? ⟨w.heap.size, 3, none⟩ = some (.int .i64 x.t) ∧ w'.cell? ⟨w.heap.size, 4, none⟩ = some (.int .i64 x.s) ∧ w'.cell? ⟨w.heap.size, 5, none⟩ = some (.int .i64 x.g)) ∧ (w'.cell? ⟨w1.heap.size, 0, none⟩ = some (.int .i64 r3.d) ∧ w'.cell? ⟨w1.heap.size, 1, none⟩ = some (.int .i64 r3.m) ∧ w'.cell? ⟨w1.heap.size, 2, none⟩ = some (.int .i64 r3.c) ∧ w'.cell? ⟨w1.heap.size, 3, none⟩ = some (.int .i64 r3.t) ∧ w'.cell? ⟨w1.heap.size, 4, none⟩ = some (.int .i64 r3.s) ∧ w'.cell? ⟨w1.heap.size, 5, none⟩ = some (.int .i64 r3.g)) ∧ (w'.cell? ⟨w3.heap.size, 0, none⟩ = some (.int .i64 r3.d) ∧ w'.cell? ⟨w3.heap.size, 1, none⟩ = some (.int .i64 r3.m) ∧ w'.cell? ⟨w3.heap.size, 2, none⟩ = some (.int .i64 r3.c) ∧ w'.cell? ⟨w3.heap.size, 3, none⟩ = some (.int .i64 r3.t) ∧ w'.cell? ⟨w3.heap.size, 4, none⟩ = some (.int .i64 r3.s) ∧ w'.cell? ⟨w3.heap.size, 5, none⟩ = some (.int .i64 r3.g)) ∧ (w'.cell? ⟨w5.heap.size, 0, none⟩ = some (.int .i64 r4.d) ∧ w'.cell? ⟨w5.heap.size, 1, none⟩ = some (.int .i64 r4.m) ∧ w'.cell? ⟨w5.heap.size, 2, none⟩ = some (.int .i64 r4.c) ∧ w'.cell? ⟨w5.heap.size, 3, none⟩ = some (.int .i64 r4.t) ∧ w'.cell? ⟨w5.heap.size, 4, none⟩ = some (.int .i64 r4.s) ∧ w'.cell? ⟨w5.heap.size, 5, none⟩ = some (.int .i64 r4.g)) ∧ (w'.cell? ⟨w7.heap.size, 0, none⟩ = some (.int .i64 r4.d) ∧ w'.cell? ⟨w7.heap.size, 1, none⟩ = some (.int .i64 r4.m) ∧ w'.cell? ⟨w7.heap.size, 2, none⟩ = some (.int .i64 r4.c) ∧ w'.cell? ⟨w7.heap.size, 3, none⟩ = some (.int .i64 r4.t) ∧ w'.cell? ⟨w7.heap.size, 4, none⟩ = some (.int .i64 r4.s) ∧ w'.cell? ⟨w7.heap.size, 5, none⟩ = some (.int .i64 r4.g)) ∧ Below w16.heap.size w16 w' := fun w' hb => by
    obtain ⟨⟨a0, a1, a2, a3, a4, a5⟩, _, _⟩ := HLL.out w' (below_to HBq16.out hb)
    obtain ⟨_, ka0, ka1, ka2, ka3, ka4, ka5, _⟩ := hxa.kept hb
    obtain ⟨_, kb0, kb1, kb2, kb3, kb4, kb5, _⟩ := hxb.kept hb
    obtain ⟨_, kc0, kc1, kc2, kc3, kc4, kc5, _⟩ := hxc.kept hb
    obtain ⟨_, kd0, kd1, kd2, kd3, kd4, kd5, _⟩ := hxd.kept hb
    exact ⟨⟨a0, a1, a2, a3, a4, a5⟩, ⟨ka0, ka1, ka2, ka3, ka4, ka5⟩, ⟨kb0, kb1, kb2, kb3, kb4, kb5⟩, ⟨kc0, kc1, kc2, kc3, kc4, kc5⟩, ⟨kd0, kd1, kd2, kd3, kd4, kd5⟩, hb⟩
  have hbR := Below.refl w16.heap.size w16
  clear la0 la1 la2 la3 la4 la5 lp0 lp1 lp2 lp3 lp4 lp5 l30 l31 l32 lxa xa0 xa1 xa2 xa3 xa4 xa5 xaf lxb xb0 xb1 xb2 xb3 xb4 xb5 xbf lxc xc0 xc1 xc2 xc3 xc4 xc5 xcf lxd xd0 xd1 xd2 xd3 xd4 xd5 xdf
  go_region_held3 (fun w' => (w'.cell? ⟨w.heap.size, 0, none⟩ = some (.int .i64 x.d) ∧ w'.cell? ⟨w.heap.size, 1, none⟩ = some (.int .i64 x.m) ∧ w'.cell? ⟨w.heap.size, 2, none⟩ = some (.int .i64 x.c) ∧ w'.cell? ⟨w.heap.size, 3, none⟩ = some (.int .i64 x.t) ∧ w'.cell? ⟨w.heap.size, 4, none⟩ = some (.int .i64 x.s) ∧ w'.cell? ⟨w.heap.size, 5, none⟩ = some (.int .i64 x.g)) ∧ (w'.cell? ⟨w1.heap.size, 0, none⟩ = some (.int .i64 r3.d) ∧ w'.cell? ⟨w1.heap.size, 1, none⟩ = some (.int .i64 r3.m) ∧ w'.cell? ⟨w1.heap.size, 2, none⟩ = some (.int .i64 r3.c) ∧ w'.cell? ⟨w1.heap.size, 3, none⟩ = some (.int .i64 r3.t) ∧ w'.cell? ⟨w1.heap.size, 4, none⟩ = some (.int .i64 r3.s) ∧ w'.cell? ⟨w1.heap.size, 5, none⟩ = some (.int .i64 r3.g)) ∧ (w'.cell? ⟨w3.heap.size, 0, none⟩ = some (.int .i64 r3.d) ∧ w'.cell? ⟨w3.heap.size, 1, none⟩ = some (.int .i64 r3.m) ∧ w'.cell? ⟨w3.heap.size, 2, none⟩ = some (.int .i64 r3.c) ∧ w'.cell? ⟨w3.heap.size, 3, none⟩ = some (.int .i64 r3.t) ∧ w'.cell? ⟨w3.heap.size, 4, none⟩ = some (.int .i64 r3.s) ∧ w'.cell? ⟨w3.heap.size, 5, none⟩ = some (.int .i64 r3.g)) ∧ (w'.cell? ⟨w5.heap.size, 0, none⟩ = some (.int .i64 r4.d) ∧ w'.cell? ⟨w5.heap.size, 1, none⟩ = some (.int .i64 r4.m) ∧ w'.cell? ⟨w5.heap.size, 2, none⟩ = some (.int .i64 r4.c) ∧ w'.cell? ⟨w5.heap.size, 3, none⟩ = some (.int .i64 r4.t) ∧ w'.cell? ⟨w5.heap.size, 4, none⟩ = some (.int .i64 r4.s) ∧ w'.cell? ⟨w5.heap.size, 5, none⟩ = some (.int .i64 r4.g)) ∧ (w'.cell? ⟨w7.heap.size, 0, none⟩ = some (.int .i64 r4.d) ∧ w'.cell? ⟨w7.heap.size, 1, none⟩ = some (.int .i64 r4.m) ∧ w'.cell? ⟨w7.heap.size, 2, none⟩ = some (.int .i64 r4.c) ∧ w'.cell? ⟨w7.heap.size, 3, none⟩ = some (.int .i64 r4.t) ∧ w'.cell? ⟨w7.heap.size, 4, none⟩ = some (.int .i64 r4.s) ∧ w'.cell? ⟨w7.heap.size, 5, none⟩ = some (.int .i64 r4.g)) ∧ Below w16.heap.size w16 w')
    ((refine HS _ ?_; (first | (with_reducible assumption) | (with_reducible exact Below.drew (by assumption)))))
    (first | (go_at_call 23; refine (check_B x e5 _ HE5).mono ?_; rintro e w99 ⟨rfl, hbb7⟩; have hb7 : Below w16.heap.size w16 w99 := below_to (by (first | (with_reducible assumption) | (with_reducible exact Below.drew (by assumption)))) hbb7; clear hbb7) | (go_at_call 24; refine (rcheck_is x e5 _ HE5).mono ?_; rintro e w99 ⟨rfl, hbb7⟩; have hb7 : Below w16.heap.size w16 w99 := below_to (by (first | (with_reducible assumption) | (with_reducible exact Below.drew (by assumption)))) hbb7; clear hbb7) | (go_at_call 25; refine (wslow_is x bs _ HBS).mono ?_; rintro e w99 ⟨rfl, hbb7⟩; have hb7 : Below w16.heap.size w16 w99 := below_to (by (first | (with_reducible assumption) | (with_reducible exact Below.drew (by assumption)))) hbb7; clear hbb7) | (go_at_call 26; refine (rslow_is x bs _ HBS).mono ?_; rintro e w99 ⟨rfl, hbb7⟩; have hb7 : Below w16.heap.size w16 w99 := below_to (by (first | (with_reducible assumption) | (with_reducible exact Below.drew (by assumption)))) hbb7; clear hbb7) | (go_at_call 15; refine (works_ok _).mono ?_; rintro e w99 ⟨rfl, hbb7⟩; have hb7 : Below w16.heap.size w16 w99 := below_to (by (first | (with_reducible assumption) | (with_reducible exact Below.drew (by assumption)))) hbb7; clear hbb7))
  all_goals
    go_wp2_with fail
    rename_i hH
    go_ret
    exact ⟨rfl, HB0.out.trans ((below_to HBq16.out hH.2.2.2.2.2).mono (by omega))⟩
end Go.Proofs.Ytcjhankepchioaa
