/-
  The walk of WindowRuns.
-/
import Derived.Test.YtcjhankepchioaaSa
import Derived.Test.YtcjhankepchioaaR
namespace Go.Proofs.Ytcjhankepchioaa
open Go.RowKit (wrap32 wrap64)
open Go.RowKit
set_option linter.unusedVariables false
set_option linter.unusedSimpArgs false

theorem Pk.far6 {W : World} {g : Nat} {t s : Int} (h : Pk W g t s) (p : Nat) (hp : p ≠ g) (v0 v1 v2 v3 v4 v5 : Value) :
    Pk ((((((W.setCell ⟨p, 0, none⟩ v0).setCell ⟨p, 1, none⟩ v1).setCell ⟨p, 2, none⟩ v2).setCell ⟨p, 3, none⟩ v3).setCell ⟨p, 4, none⟩ v4).setCell ⟨p, 5, none⟩ v5) g t s := by
  obtain ⟨l, k0, k1, k2, k3, k4, k5⟩ := h
  have far : ∀ (W : World) (o q : Nat) (v : Value), (W.setCell ⟨p, o, none⟩ v).cell? ⟨g, q, none⟩ = W.cell? ⟨g, q, none⟩ := fun W o q v => World.cell?_setCell_far W _ _ v hp
  exact ⟨by simpa using l, by simp only [far, k0], by simp only [far, k1], by simp only [far, k2], by simp only [far, k3], by simp only [far, k4], by simp only [far, k5]⟩
theorem stores57 {W : World} {g5 g7 : Nat} {x y : Win} (h5 : BW W g5 x) (h7 : BW W g7 y) (hne : g5 ≠ g7) (r : Win) : BW (((((((((((((W.setCell ⟨g5, 0, none⟩ (.int .i64 r.d)).setCell ⟨g5, 1, none⟩ (.int .i64 r.m)).setCell ⟨g5, 2, none⟩ (.int .i64 r.c)).setCell ⟨g5, 3, none⟩ (.int .i64 r.t)).setCell ⟨g5, 4, none⟩ (.int .i64 r.s)).setCell ⟨g5, 5, none⟩ (.int .i64 r.g)).setCell ⟨g7, 0, none⟩ (.int .i64 r.d)).setCell ⟨g7, 1, none⟩ (.int .i64 r.m)).setCell ⟨g7, 2, none⟩ (.int .i64 r.c)).setCell ⟨g7, 3, none⟩ (.int .i64 r.t)).setCell ⟨g7, 4, none⟩ (.int .i64 r.s)).setCell ⟨g7, 5, none⟩ (.int .i64 r.g))) g5 r ∧ BW (((((((((((((W.setCell ⟨g5, 0, none⟩ (.int .i64 r.d)).setCell ⟨g5, 1, none⟩ (.int .i64 r.m)).setCell ⟨g5, 2, none⟩ (.int .i64 r.c)).setCell ⟨g5, 3, none⟩ (.int .i64 r.t)).setCell ⟨g5, 4, none⟩ (.int .i64 r.s)).setCell ⟨g5, 5, none⟩ (.int .i64 r.g)).setCell ⟨g7, 0, none⟩ (.int .i64 r.d)).setCell ⟨g7, 1, none⟩ (.int .i64 r.m)).setCell ⟨g7, 2, none⟩ (.int .i64 r.c)).setCell ⟨g7, 3, none⟩ (.int .i64 r.t)).setCell ⟨g7, 4, none⟩ (.int .i64 r.s)).setCell ⟨g7, 5, none⟩ (.int .i64 r.g))) g7 r :=
  ⟨BW.far6 (BW.set6 h5 r) g7 (Ne.symm hne) _ _ _ _ _ _, BW.set6 (BW.far6 h7 g5 hne _ _ _ _ _ _) r⟩
theorem stores75 {W : World} {g5 g7 : Nat} {x y : Win} (h5 : BW W g5 x) (h7 : BW W g7 y) (hne : g5 ≠ g7) (r : Win) : BW (((((((((((((W.setCell ⟨g7, 0, none⟩ (.int .i64 r.d)).setCell ⟨g7, 1, none⟩ (.int .i64 r.m)).setCell ⟨g7, 2, none⟩ (.int .i64 r.c)).setCell ⟨g7, 3, none⟩ (.int .i64 r.t)).setCell ⟨g7, 4, none⟩ (.int .i64 r.s)).setCell ⟨g7, 5, none⟩ (.int .i64 r.g)).setCell ⟨g5, 0, none⟩ (.int .i64 r.d)).setCell ⟨g5, 1, none⟩ (.int .i64 r.m)).setCell ⟨g5, 2, none⟩ (.int .i64 r.c)).setCell ⟨g5, 3, none⟩ (.int .i64 r.t)).setCell ⟨g5, 4, none⟩ (.int .i64 r.s)).setCell ⟨g5, 5, none⟩ (.int .i64 r.g))) g5 r ∧ BW (((((((((((((W.setCell ⟨g7, 0, none⟩ (.int .i64 r.d)).setCell ⟨g7, 1, none⟩ (.int .i64 r.m)).setCell ⟨g7, 2, none⟩ (.int .i64 r.c)).setCell ⟨g7, 3, none⟩ (.int .i64 r.t)).setCell ⟨g7, 4, none⟩ (.int .i64 r.s)).setCell ⟨g7, 5, none⟩ (.int .i64 r.g)).setCell ⟨g5, 0, none⟩ (.int .i64 r.d)).setCell ⟨g5, 1, none⟩ (.int .i64 r.m)).setCell ⟨g5, 2, none⟩ (.int .i64 r.c)).setCell ⟨g5, 3, none⟩ (.int .i64 r.t)).setCell ⟨g5, 4, none⟩ (.int .i64 r.s)).setCell ⟨g5, 5, none⟩ (.int .i64 r.g))) g7 r :=
  ⟨BW.set6 (BW.far6 h5 g7 (Ne.symm hne) _ _ _ _ _ _) r, BW.far6 (BW.set6 h7 r) g5 hne _ _ _ _ _ _⟩

set_option maxRecDepth 100000 in
set_option maxHeartbeats 40000000 in
theorem runs_any (x0 x1 x2 : Int) (A : Option Addr) (len cap : Nat) (w : World) (hD : Dos w A len) (hl0 : len ≤ 9223372036854775807) :
    Calls Try.prog 6 #[.agg #[.int .i64 x0, .int .i64 x1, .int .i64 x2], .slice A len cap] w fun e w' => e = .returned (.bool true) ∧ Below w.heap.size w w' := by
  have qn : ∀ (d m c t s g : Int) (w : World), (binOp .neq 26 (.agg #[.int .i64 d, .int .i64 m, .int .i64 c, .int .i64 t, .int .i64 s, .int .i64 g]) (.agg #[.int .i64 d, .int .i64 m, .int .i64 c, .int .i64 t, .int .i64 s, .int .i64 g])).run Try.prog w = .ok (.bool false) w := fun d m c t s g w => neq_26 d m c t s g w
  obtain ⟨r4, HR4⟩ : ∃ r, newW x0 x1 x2 = r := ⟨_, rfl⟩
  obtain ⟨e4, HE4⟩ : ∃ e, newE x0 x1 x2 = e := ⟨_, rfl⟩
  have cnew := fun W => wnew_any x0 x1 x2 W
  have crnew := fun W => rnew_any x0 x1 x2 W
  rw [HR4, HE4] at cnew crnew
  have CNEW := Lib.hid cnew
  have CRNEW := Lib.hid crnew
  clear HR4 HE4 cnew crnew
  have HD := Lib.hid hD
  clear hD
  go_enter Try.func6, Try.ntmps6
  go_wp2_with fail
  refine (CNEW.out _).mono ?_
  rintro e w1 ⟨rfl, hb1⟩
  have hB1 : Below w.heap.size w w1 := ((Below.refl _ w).alloc (Nat.le_refl _) _).trans (hb1.mono (by simp <;> omega))
  have l0 := oldcell (cell_at3 (W := w) (ty := 22) (a := x0) (b := x1) (c := x2) rfl 0 _ rfl) hb1 (by simp)
  have l1 := oldcell (cell_at3 (W := w) (ty := 22) (a := x0) (b := x1) (c := x2) rfl 1 _ rfl) hb1 (by simp)
  have l2 := oldcell (cell_at3 (W := w) (ty := 22) (a := x0) (b := x1) (c := x2) rfl 2 _ rfl) hb1 (by simp)
  have z1 := hB1.size
  have hsz : w.heap.size < w1.heap.size := by have := hb1.size; simp at this; omega
  clear hb1
  go_upto_region 2 with (fail)
  obtain ⟨g5, hg5⟩ : ∃ g, w1.heap.size = g := ⟨_, rfl⟩
  obtain ⟨w2, hW2⟩ : ∃ W, w1.alloc (.cells #[.int .i64 r4.d, .int .i64 r4.m, .int .i64 r4.c, .int .i64 r4.t, .int .i64 r4.s, .int .i64 r4.g] 26) = W := ⟨_, rfl⟩
  rw [hW2, hg5]
  have hX2 : BW w2 g5 r4 := hg5 ▸ hW2 ▸ BW.new w1 r4 26
  have hB2 : Below w.heap.size w w2 := hW2 ▸ hB1.alloc z1 _
  have m0 := hW2 ▸ cell_old (o := .cells #[.int .i64 r4.d, .int .i64 r4.m, .int .i64 r4.c, .int .i64 r4.t, .int .i64 r4.s, .int .i64 r4.g] 26) l0 hsz
  have m1 := hW2 ▸ cell_old (o := .cells #[.int .i64 r4.d, .int .i64 r4.m, .int .i64 r4.c, .int .i64 r4.t, .int .i64 r4.s, .int .i64 r4.g] 26) l1 hsz
  have m2 := hW2 ▸ cell_old (o := .cells #[.int .i64 r4.d, .int .i64 r4.m, .int .i64 r4.c, .int .i64 r4.t, .int .i64 r4.s, .int .i64 r4.g] 26) l2 hsz
  have hg : w.heap.size ≤ g5 := hg5 ▸ z1
  have z2 := hB2.size
  clear hW2 hB1 hg5 l0 l1 l2 hsz
  go_wp2_with fail
  refine (CRNEW.out _).mono ?_
  rintro e w3 ⟨rfl, hb3⟩
  clear m0 m1 m2
  have hX3 := hX2.kept hb3
  have hB3 := hB2.trans (hb3.mono z2)
  have z3 := hB3.size
  clear hX2 hB2 hb3
  go_upto_region 3 with (fail)
  obtain ⟨g7, hg7⟩ : ∃ g, w3.heap.size = g := ⟨_, rfl⟩
  obtain ⟨w4, hW4⟩ : ∃ W, w3.alloc (.cells #[.int .i64 r4.d, .int .i64 r4.m, .int .i64 r4.c, .int .i64 r4.t, .int .i64 r4.s, .int .i64 r4.g] 26) = W := ⟨_, rfl⟩
  rw [hW4, hg7]
  have hX4 : BW w4 g5 r4 := hW4 ▸ hX3.alloc _
  have hY4 : BW w4 g7 r4 := hg7 ▸ hW4 ▸ BW.new w3 r4 26
  have hB4 : Below w.heap.size w w4 := hW4 ▸ hB3.alloc z3 _
  have hgg : g5 < g7 := hg7 ▸ hX3.lt
  clear hW4 hX3 hB3 hg7
  obtain ⟨lx, a0, a1, a2, a3, a4, a5, af⟩ := id hX4
  obtain ⟨ly, b0, b1, b2, b3, b4, b5, bf⟩ := id hY4
  go_wp2_with fail
  clear lx a0 a1 a2 a3 a4 a5 af ly b0 b1 b2 b3 b4 b5 bf
  go_loopw [9] (fun s wr => ∃ (k : Nat) (x : Win), k ≤ 100 ∧ k ≤ len ∧ s = .int .i64 k ∧ BW wr g5 x ∧ BW wr g7 x ∧ Below w.heap.size w wr) (fun s _ => 101 - (intOf s).toNat)
  case atStart => exact ⟨0, r4, by omega, by omega, rfl, hX4, hY4, hB4⟩
  case round =>
    obtain ⟨k, x, hk, hkl, rfl, hX, hY, hB⟩ := hrel
    obtain ⟨wo, rfl⟩ : ∃ wo : World, wo = wr := ⟨_, rfl⟩
    have z := hB.size
    clear hX4 hY4 hB4
    have HDD : Hid (Dos wo A len) := HD.out.kept hB
    by_cases hlt : (k < len ∧ k < 100) ∧ e4 = 0
    · obtain ⟨⟨hlt, h100⟩, he4⟩ := hlt
      obtain ⟨b, off, ki, ti, no, si, fu, rfl, hbl, c0, c1, c2, c3, c4⟩ := HDD.out k hlt
      have i0 : (0 : Int) ≤ (k : Int) := by omega
      have i1 : (k : Int) < (len : Int) := by omega
      have f1 : (e4 == 0) = true := by rw [beq_iff_eq]; exact he4
      clear he4
      have D0 := Lib.hid c0
      have D1 := Lib.hid c1
      have D2 := Lib.hid c2
      have D3 := Lib.hid c3
      have D4 := Lib.hid c4
      clear c0 c1 c2 c3 c4
      obtain ⟨kk, HKK, kk0, kk1⟩ := name_mod ki 8 (by omega)
      go_wp2_with fail
      obtain ⟨W5, hW5⟩ : ∃ W, ((wo.alloc (.cells #[.int .i64 0, .int .i64 0, .int .i64 0, .int .i64 0, .int .i64 0, .int .i64 0] 26)).alloc (.cells #[.int .i64 0, .int .i64 0, .int .i64 0, .int .i64 0, .int .i64 0, .int .i64 0] 26)) = W := ⟨_, rfl⟩
      rw [hW5]
      have hC5 : BW W5 wo.heap.size zero := hW5 ▸ (BW.new wo zero 26).alloc _
      have hD5 : BW W5 (wo.heap.size + 1) zero := hW5 ▸ BW.new1 wo _ zero 26
      have hb5 : Below wo.heap.size wo W5 := hW5 ▸ (by go_grown)
      have hl5 : wo.heap.size + 1 < W5.heap.size := hD5.lt
      clear hW5
      have HLOW : ∀ W, Below wo.heap.size wo W → (W.cell? ⟨g5, 0, none⟩ = some (.int .i64 x.d) ∧ W.cell? ⟨g5, 1, none⟩ = some (.int .i64 x.m) ∧ W.cell? ⟨g5, 2, none⟩ = some (.int .i64 x.c) ∧ W.cell? ⟨g5, 3, none⟩ = some (.int .i64 x.t) ∧ W.cell? ⟨g5, 4, none⟩ = some (.int .i64 x.s) ∧ W.cell? ⟨g5, 5, none⟩ = some (.int .i64 x.g)) ∧ (W.cell? ⟨g7, 0, none⟩ = some (.int .i64 x.d) ∧ W.cell? ⟨g7, 1, none⟩ = some (.int .i64 x.m) ∧ W.cell? ⟨g7, 2, none⟩ = some (.int .i64 x.c) ∧ W.cell? ⟨g7, 3, none⟩ = some (.int .i64 x.t) ∧ W.cell? ⟨g7, 4, none⟩ = some (.int .i64 x.s) ∧ W.cell? ⟨g7, 5, none⟩ = some (.int .i64 x.g)) ∧ (W.cell? ⟨b, off + k * 5, none⟩ = some (.int .i64 ki) ∧ W.cell? ⟨b, off + k * 5 + 1, none⟩ = some (.int .i64 ti) ∧ W.cell? ⟨b, off + k * 5 + 2, none⟩ = some (.int .i64 no) ∧ W.cell? ⟨b, off + k * 5 + 3, none⟩ = some (.int .i64 si) ∧ W.cell? ⟨b, off + k * 5 + 4, none⟩ = some (.bool fu)) := fun W hb => by
        obtain ⟨_, u0, u1, u2, u3, u4, u5, _⟩ := hX.kept hb
        obtain ⟨_, v0, v1, v2, v3, v4, v5, _⟩ := hY.kept hb
        exact ⟨⟨u0, u1, u2, u3, u4, u5⟩, ⟨v0, v1, v2, v3, v4, v5⟩, oldcell D0.out hb hbl, oldcell D1.out hb hbl, oldcell D2.out hb hbl, oldcell D3.out hb hbl, oldcell D4.out hb hbl⟩
      have HL := Lib.hid HLOW
      clear HLOW
      go_cut [14] from 43 to 152 (fun s14 wx => ∃ gp, s14 = .pointer (some ⟨gp, 0, none⟩) ∧ wo.heap.size + 1 < gp ∧ Pk wx gp ti si ∧ BW wx wo.heap.size zero ∧ BW wx (wo.heap.size + 1) zero ∧ Below wo.heap.size wo wx)
      case first =>
        have HS : ∀ w', Below W5.heap.size W5 w' → (w'.cell? ⟨b, off + k * 5, none⟩ = some (.int .i64 ki) ∧ w'.cell? ⟨b, off + k * 5 + 1, none⟩ = some (.int .i64 ti) ∧ w'.cell? ⟨b, off + k * 5 + 2, none⟩ = some (.int .i64 no) ∧ w'.cell? ⟨b, off + k * 5 + 3, none⟩ = some (.int .i64 si) ∧ w'.cell? ⟨b, off + k * 5 + 4, none⟩ = some (.bool fu)) ∧ Below W5.heap.size W5 w' := fun w' hb => ⟨(HL.out w' (below_to hb5 hb)).2.2, hb⟩
        have hbR := Below.refl W5.heap.size W5
        go_region_held3 (fun w' => (w'.cell? ⟨b, off + k * 5, none⟩ = some (.int .i64 ki) ∧ w'.cell? ⟨b, off + k * 5 + 1, none⟩ = some (.int .i64 ti) ∧ w'.cell? ⟨b, off + k * 5 + 2, none⟩ = some (.int .i64 no) ∧ w'.cell? ⟨b, off + k * 5 + 3, none⟩ = some (.int .i64 si) ∧ w'.cell? ⟨b, off + k * 5 + 4, none⟩ = some (.bool fu)) ∧ Below W5.heap.size W5 w')
          ((refine HS _ ?_; (first | (with_reducible assumption) | (with_reducible exact Below.drew (by assumption)) | (with_reducible exact bAlloc (by assumption) _) | (with_reducible exact Below.drew (bAlloc (by assumption) _)))))
          (fail)
        all_goals
          go_wp2_with fail
          go_meet
          rename_i hH
          refine ⟨_, rfl, hl5, ?_, hC5.kept hH.2, hD5.kept hH.2, below_to hb5 hH.2⟩
          first
            | with_reducible exact Pk.new _ _ _
            | with_reducible exact Pk.drew (Pk.new _ _ _)
      case rest =>
        obtain ⟨gp, rfl, hgp, hP, hC, hDz, hb6⟩ := hcut
        obtain ⟨w6, rfl⟩ : ∃ w6 : World, w6 = wc := ⟨_, rfl⟩
        clear hC5 hD5 hb5 hl5
        have dd := (HL.out w6 hb6).2.2
        obtain ⟨d0, d1, d2, d3, d4⟩ := dd
        by_cases q7 : kk = 7
        · subst q7
          obtain ⟨r3, HR3⟩ : ∃ r, Hid (chW x (collapse x) true = r) := ⟨_, rfl⟩
          obtain ⟨e3, HE3⟩ : ∃ e, Hid (chE x true = e) := ⟨_, rfl⟩
          have xx := HL.out w6 hb6
          obtain ⟨⟨u0, u1, u2, u3, u4, u5⟩, ⟨v0, v1, v2, v3, v4, v5⟩, _⟩ := xx
          go_wp2_with fail
          refine (bring_is _ _ 7 _ HKK (by omega) (by omega)).mono ?_
          rintro e w' ⟨rfl, rfl⟩
          obtain ⟨lc, z0, z1', z2', z3', z4', z5, zf⟩ := id hC
          go_wp2_with fail
          refine (wcollapse_any x r3 e3 _ HR3 HE3).mono ?_
          rintro e w8 ⟨rfl, hb8⟩
          clear lc z0 z1' z2' z3' z4' z5 zf u0 u1 u2 u3 u4 u5 v0 v1 v2 v3 v4 v5 d0 d1 d2 d3 d4
          have hC8 := hC.kept hb8
          have hD8 := hDz.kept hb8
          have hb80 := below_to hb6 hb8
          clear hb8 hC hDz
          obtain ⟨lc, z0, z1', z2', z3', z4', z5, zf⟩ := id hC8
          go_upto_region 20 with (fail)
          clear lc z0 z1' z2' z3' z4' z5 zf
          obtain ⟨w9, hW9⟩ : ∃ W, ((((((w8.setCell ⟨wo.heap.size, 0, none⟩ (.int .i64 r3.d)).setCell ⟨wo.heap.size, 1, none⟩ (.int .i64 r3.m)).setCell ⟨wo.heap.size, 2, none⟩ (.int .i64 r3.c)).setCell ⟨wo.heap.size, 3, none⟩ (.int .i64 r3.t)).setCell ⟨wo.heap.size, 4, none⟩ (.int .i64 r3.s)).setCell ⟨wo.heap.size, 5, none⟩ (.int .i64 r3.g)) = W := ⟨_, rfl⟩
          rw [hW9]
          have hC9 : BW w9 wo.heap.size r3 := hW9 ▸ BW.set6 hC8 r3
          have hD9 : BW w9 (wo.heap.size + 1) zero := hW9 ▸ BW.far6 hD8 _ (by omega) _ _ _ _ _ _
          have hb9 : Below wo.heap.size wo w9 := hW9 ▸ bset hb80 _ (Nat.le_refl _) _ _ _ _ _ _
          clear hW9 hC8 hD8 hb80
          obtain ⟨⟨u0, u1, u2, u3, u4, u5⟩, ⟨v0, v1, v2, v3, v4, v5⟩, _⟩ := HL.out w9 hb9
          go_wp2_with fail
          refine (rcollapse_any x r3 e3 _ HR3 HE3).mono ?_
          rintro e w10 ⟨rfl, hb10⟩
          clear u0 u1 u2 u3 u4 u5 v0 v1 v2 v3 v4 v5
          have hC := hC9.kept hb10
          have hD10 := hD9.kept hb10
          have hb100 := below_to hb9 hb10
          clear hb10 hC9 hD9
          obtain ⟨lc, z0, z1', z2', z3', z4', z5, zf⟩ := id hD10
          go_upto_region 21 with (fail)
          clear lc z0 z1' z2' z3' z4' z5 zf
          obtain ⟨w11, hW11⟩ : ∃ W, ((((((w10.setCell ⟨wo.heap.size + 1, 0, none⟩ (.int .i64 r3.d)).setCell ⟨wo.heap.size + 1, 1, none⟩ (.int .i64 r3.m)).setCell ⟨wo.heap.size + 1, 2, none⟩ (.int .i64 r3.c)).setCell ⟨wo.heap.size + 1, 3, none⟩ (.int .i64 r3.t)).setCell ⟨wo.heap.size + 1, 4, none⟩ (.int .i64 r3.s)).setCell ⟨wo.heap.size + 1, 5, none⟩ (.int .i64 r3.g)) = W := ⟨_, rfl⟩
          rw [hW11]
          have hDz : BW w11 (wo.heap.size + 1) r3 := hW11 ▸ BW.set6 hD10 r3
          have hC : BW w11 wo.heap.size r3 := hW11 ▸ BW.far6 hC _ (by omega) _ _ _ _ _ _
          have hbz : Below wo.heap.size wo w11 := hW11 ▸ bset hb100 _ (Nat.le_succ _) _ _ _ _ _ _
          clear hW11 hD10 hb100
          -- both results lie in their boxes (hC, hDz), in world w11 (hbz)
          have hXz := hX.kept hbz
          have hYz := hY.kept hbz
          have hBz := hB.trans (hbz.mono z)
          have q5 := hXz.lt
          have q5' := hX.lt
          have q7' := hY.lt
          by_cases he : e3 = 0
          · have f2 : (e3 == 0) = true := by rw [beq_iff_eq]; exact he
            clear he
            obtain ⟨lx, a0, a1, a2, a3, a4, a5, af⟩ := id hXz
            obtain ⟨ly, b0, b1, b2, b3, b4, b5, bf⟩ := id hYz
            obtain ⟨lc, e0, e1', e2', e3', e4', e5', ef⟩ := id hC
            obtain ⟨ld, g0, g1, g2, g3, g4, g5', gf⟩ := id hDz
            go_wp2_with fail
            clear lc e0 e1' e2' e3' e4' e5' ef ld g0 g1 g2 g3 g4 g5' gf
            have HS : ∀ w', BW w' wo.heap.size r3 → BW w' (wo.heap.size + 1) r3 → Below w.heap.size w w' → (w'.cell? ⟨wo.heap.size, 0, none⟩ = some (.int .i64 r3.d) ∧ w'.cell? ⟨wo.heap.size, 1, none⟩ = some (.int .i64 r3.m) ∧ w'.cell? ⟨wo.heap.size, 2, none⟩ = some (.int .i64 r3.c) ∧ w'.cell? ⟨wo.heap.size, 3, none⟩ = some (.int .i64 r3.t) ∧ w'.cell? ⟨wo.heap.size, 4, none⟩ = some (.int .i64 r3.s) ∧ w'.cell? ⟨wo.heap.size, 5, none⟩ = some (.int .i64 r3.g)) ∧ (w'.cell? ⟨(wo.heap.size + 1), 0, none⟩ = some (.int .i64 r3.d) ∧ w'.cell? ⟨(wo.heap.size + 1), 1, none⟩ = some (.int .i64 r3.m) ∧ w'.cell? ⟨(wo.heap.size + 1), 2, none⟩ = some (.int .i64 r3.c) ∧ w'.cell? ⟨(wo.heap.size + 1), 3, none⟩ = some (.int .i64 r3.t) ∧ w'.cell? ⟨(wo.heap.size + 1), 4, none⟩ = some (.int .i64 r3.s) ∧ w'.cell? ⟨(wo.heap.size + 1), 5, none⟩ = some (.int .i64 r3.g)) ∧ BW w' wo.heap.size r3 ∧ BW w' (wo.heap.size + 1) r3 ∧ Below w.heap.size w w' := fun w' h1 h2 h3 => ⟨⟨h1.c0, h1.c1, h1.c2, h1.c3, h1.c4, h1.c5⟩, ⟨h2.c0, h2.c1, h2.c2, h2.c3, h2.c4, h2.c5⟩, h1, h2, h3⟩
            go_region_held3 (fun w' => (w'.cell? ⟨wo.heap.size, 0, none⟩ = some (.int .i64 r3.d) ∧ w'.cell? ⟨wo.heap.size, 1, none⟩ = some (.int .i64 r3.m) ∧ w'.cell? ⟨wo.heap.size, 2, none⟩ = some (.int .i64 r3.c) ∧ w'.cell? ⟨wo.heap.size, 3, none⟩ = some (.int .i64 r3.t) ∧ w'.cell? ⟨wo.heap.size, 4, none⟩ = some (.int .i64 r3.s) ∧ w'.cell? ⟨wo.heap.size, 5, none⟩ = some (.int .i64 r3.g)) ∧ (w'.cell? ⟨(wo.heap.size + 1), 0, none⟩ = some (.int .i64 r3.d) ∧ w'.cell? ⟨(wo.heap.size + 1), 1, none⟩ = some (.int .i64 r3.m) ∧ w'.cell? ⟨(wo.heap.size + 1), 2, none⟩ = some (.int .i64 r3.c) ∧ w'.cell? ⟨(wo.heap.size + 1), 3, none⟩ = some (.int .i64 r3.t) ∧ w'.cell? ⟨(wo.heap.size + 1), 4, none⟩ = some (.int .i64 r3.s) ∧ w'.cell? ⟨(wo.heap.size + 1), 5, none⟩ = some (.int .i64 r3.g)) ∧ BW w' wo.heap.size r3 ∧ BW w' (wo.heap.size + 1) r3 ∧ Below w.heap.size w w')
              ((refine HS _ ?_ ?_ ?_ <;> (repeat (first | (with_reducible assumption) | (with_reducible refine BW.drew ?_) | (with_reducible refine Below.drew ?_) | (with_reducible refine BW.far6 ?_ _ (by omega) _ _ _ _ _ _) | (with_reducible refine bset ?_ _ (by omega) _ _ _ _ _ _)))))
              (fail)
            all_goals
              go_wp2_with fail
              rename_i hH
              first
                | exact ⟨⟨k + 1, r3, by omega, by omega, by go_num, BW.drew (stores57 hXz hYz (by omega) r3).1, BW.drew (stores57 hXz hYz (by omega) r3).2, hH.2.2.2.2⟩, by simp [intOf]; omega⟩
                | exact ⟨⟨k + 1, r3, by omega, by omega, by go_num, BW.drew (stores75 hXz hYz (by omega) r3).1, BW.drew (stores75 hXz hYz (by omega) r3).2, hH.2.2.2.2⟩, by simp [intOf]; omega⟩
          · have f2 : (e3 == 0) = false := beq_eq_false_iff_ne.2 he
            clear he
            obtain ⟨lc, e0, e1', e2', e3', e4', e5', ef⟩ := id hC
            obtain ⟨ld, g0, g1, g2, g3, g4, g5', gf⟩ := id hDz
            go_wp2_with fail
            exact ⟨⟨k + 1, x, by omega, by omega, by go_num, hXz, hYz, hBz⟩, by simp [intOf]; omega⟩
        · by_cases q5 : kk = 5
          · subst q5
            obtain ⟨r2, HR2⟩ : ∃ r, Hid (chW x (bad x ti no) (timeB ti && timeB no) = r) := ⟨_, rfl⟩
            obtain ⟨e2, HE2⟩ : ∃ e, Hid (chE x (timeB ti && timeB no) = e) := ⟨_, rfl⟩
            go_wp2_with fail
            refine (bring_is _ _ 5 _ HKK (by omega) (by omega)).mono ?_
            rintro e w' ⟨rfl, rfl⟩
            clear d0 d1 d2 d3 d4
            go_wp2_with fail
            go_cut [12] from 43 to 152 (fun sx wx => sx = .int .i64 e2 ∧ BW wx wo.heap.size r2 ∧ BW wx (wo.heap.size + 1) zero ∧ Pk wx gp ti si ∧ Below wo.heap.size wo wx)
            case first =>
              have HS : ∀ w', Below wo.heap.size wo w' → (w'.cell? ⟨g5, 0, none⟩ = some (.int .i64 x.d) ∧ w'.cell? ⟨g5, 1, none⟩ = some (.int .i64 x.m) ∧ w'.cell? ⟨g5, 2, none⟩ = some (.int .i64 x.c) ∧ w'.cell? ⟨g5, 3, none⟩ = some (.int .i64 x.t) ∧ w'.cell? ⟨g5, 4, none⟩ = some (.int .i64 x.s) ∧ w'.cell? ⟨g5, 5, none⟩ = some (.int .i64 x.g)) ∧ (w'.cell? ⟨b, off + k * 5, none⟩ = some (.int .i64 ki) ∧ w'.cell? ⟨b, off + k * 5 + 1, none⟩ = some (.int .i64 ti) ∧ w'.cell? ⟨b, off + k * 5 + 2, none⟩ = some (.int .i64 no) ∧ w'.cell? ⟨b, off + k * 5 + 3, none⟩ = some (.int .i64 si) ∧ w'.cell? ⟨b, off + k * 5 + 4, none⟩ = some (.bool fu)) ∧ Below wo.heap.size wo w' := fun w' hb => ⟨(HL.out w' hb).1, (HL.out w' hb).2.2, hb⟩
              go_region_held3 (fun w' => (w'.cell? ⟨g5, 0, none⟩ = some (.int .i64 x.d) ∧ w'.cell? ⟨g5, 1, none⟩ = some (.int .i64 x.m) ∧ w'.cell? ⟨g5, 2, none⟩ = some (.int .i64 x.c) ∧ w'.cell? ⟨g5, 3, none⟩ = some (.int .i64 x.t) ∧ w'.cell? ⟨g5, 4, none⟩ = some (.int .i64 x.s) ∧ w'.cell? ⟨g5, 5, none⟩ = some (.int .i64 x.g)) ∧ (w'.cell? ⟨b, off + k * 5, none⟩ = some (.int .i64 ki) ∧ w'.cell? ⟨b, off + k * 5 + 1, none⟩ = some (.int .i64 ti) ∧ w'.cell? ⟨b, off + k * 5 + 2, none⟩ = some (.int .i64 no) ∧ w'.cell? ⟨b, off + k * 5 + 3, none⟩ = some (.int .i64 si) ∧ w'.cell? ⟨b, off + k * 5 + 4, none⟩ = some (.bool fu)) ∧ Below wo.heap.size wo w')
                ((refine HS _ ?_; (repeat (first | (with_reducible assumption) | (with_reducible refine Below.drew ?_) | (with_reducible refine bset ?_ _ (by omega) _ _ _ _ _ _)))))
                ((go_at_call 17; refine (wbad_any x ti no r2 e2 _ HR2 HE2).mono ?_; rintro e w7 ⟨rfl, hbb7⟩; have hb7 : Below wo.heap.size wo w7 := below_to (by (first | (with_reducible assumption) | (with_reducible exact Below.drew (by assumption)))) hbb7; have HQ := Lib.hid hbb7; obtain ⟨zl, z0, z1', z2', z3', z4', z5, zf⟩ := BW.kept (BW.drew hC) hbb7; clear hbb7))
              all_goals
                go_wp2_with fail
                go_meet
                rename_i hH
                exact ⟨rfl, BW.set6 (BW.kept (BW.drew hC) HQ.out) r2, BW.far6 (BW.kept (BW.drew hDz) HQ.out) _ (by omega) _ _ _ _ _ _, Pk.far6 (Pk.kept (Pk.drew hP) HQ.out) _ (by omega) _ _ _ _ _ _, hH.2.2⟩
            case rest =>
              obtain ⟨rfl, hC', hD', hP', hbq⟩ := hcut
              obtain ⟨wa, rfl⟩ : ∃ w6 : World, w6 = wc := ⟨_, rfl⟩
              have hC := hC'
              have hDz := hD'
              have hP := hP'
              clear hC' hD' hP'
              go_wp2_with fail
              have HS : ∀ w', Below wo.heap.size wo w' → (w'.cell? ⟨g7, 0, none⟩ = some (.int .i64 x.d) ∧ w'.cell? ⟨g7, 1, none⟩ = some (.int .i64 x.m) ∧ w'.cell? ⟨g7, 2, none⟩ = some (.int .i64 x.c) ∧ w'.cell? ⟨g7, 3, none⟩ = some (.int .i64 x.t) ∧ w'.cell? ⟨g7, 4, none⟩ = some (.int .i64 x.s) ∧ w'.cell? ⟨g7, 5, none⟩ = some (.int .i64 x.g)) ∧ (w'.cell? ⟨b, off + k * 5, none⟩ = some (.int .i64 ki) ∧ w'.cell? ⟨b, off + k * 5 + 1, none⟩ = some (.int .i64 ti) ∧ w'.cell? ⟨b, off + k * 5 + 2, none⟩ = some (.int .i64 no) ∧ w'.cell? ⟨b, off + k * 5 + 3, none⟩ = some (.int .i64 si) ∧ w'.cell? ⟨b, off + k * 5 + 4, none⟩ = some (.bool fu)) ∧ Below wo.heap.size wo w' := fun w' hb => ⟨(HL.out w' hb).2.1, (HL.out w' hb).2.2, hb⟩
              have hbE : Below wo.heap.size wo wa := hbq
              go_region_held3 (fun w' => (w'.cell? ⟨g7, 0, none⟩ = some (.int .i64 x.d) ∧ w'.cell? ⟨g7, 1, none⟩ = some (.int .i64 x.m) ∧ w'.cell? ⟨g7, 2, none⟩ = some (.int .i64 x.c) ∧ w'.cell? ⟨g7, 3, none⟩ = some (.int .i64 x.t) ∧ w'.cell? ⟨g7, 4, none⟩ = some (.int .i64 x.s) ∧ w'.cell? ⟨g7, 5, none⟩ = some (.int .i64 x.g)) ∧ (w'.cell? ⟨b, off + k * 5, none⟩ = some (.int .i64 ki) ∧ w'.cell? ⟨b, off + k * 5 + 1, none⟩ = some (.int .i64 ti) ∧ w'.cell? ⟨b, off + k * 5 + 2, none⟩ = some (.int .i64 no) ∧ w'.cell? ⟨b, off + k * 5 + 3, none⟩ = some (.int .i64 si) ∧ w'.cell? ⟨b, off + k * 5 + 4, none⟩ = some (.bool fu)) ∧ Below wo.heap.size wo w')
                ((refine HS _ ?_; (repeat (first | (with_reducible assumption) | (with_reducible refine Below.drew ?_) | (with_reducible refine bset ?_ _ (by omega) _ _ _ _ _ _)))))
                ((go_at_call 18; refine (rbad_any x ti no r2 e2 _ HR2 HE2).mono ?_; rintro e w7 ⟨rfl, hbb7⟩; have hb7 : Below wo.heap.size wo w7 := below_to (by (first | (with_reducible assumption) | (with_reducible exact Below.drew (by assumption)))) hbb7; have HQ := Lib.hid hbb7; obtain ⟨zl, z0, z1', z2', z3', z4', z5, zf⟩ := BW.kept (BW.drew hDz) hbb7; clear hbb7))
              all_goals
                go_upto_region 21 with (fail)
                clear zl z0 z1' z2' z3' z4' z5 zf
                obtain ⟨wb, hWb⟩ : ∃ W, ((((((w7.setCell ⟨wo.heap.size + 1, 0, none⟩ (.int .i64 r2.d)).setCell ⟨wo.heap.size + 1, 1, none⟩ (.int .i64 r2.m)).setCell ⟨wo.heap.size + 1, 2, none⟩ (.int .i64 r2.c)).setCell ⟨wo.heap.size + 1, 3, none⟩ (.int .i64 r2.t)).setCell ⟨wo.heap.size + 1, 4, none⟩ (.int .i64 r2.s)).setCell ⟨wo.heap.size + 1, 5, none⟩ (.int .i64 r2.g)) = W := ⟨_, rfl⟩
                rw [hWb]
                have hbz : Below wo.heap.size wo wb := hWb ▸ bset hb7 _ (Nat.le_succ _) _ _ _ _ _ _
                have hC2 : BW wb wo.heap.size r2 := hWb ▸ BW.far6 (BW.kept (BW.drew hC) HQ.out) _ (by omega) _ _ _ _ _ _
                have hD2 : BW wb (wo.heap.size + 1) r2 := hWb ▸ BW.set6 (BW.kept (BW.drew hDz) HQ.out) r2
                clear hWb hC hDz hP hb7 HQ hbq hbE
                have hC := hC2
                have hDz := hD2
                clear hC2 hD2

                -- both results lie in their boxes (hC, hDz), in world wb (hbz)
                have hXz := hX.kept hbz
                have hYz := hY.kept hbz
                have hBz := hB.trans (hbz.mono z)
                have q5 := hXz.lt
                have q5' := hX.lt
                have q7' := hY.lt
                by_cases he : e2 = 0
                · have f2 : (e2 == 0) = true := by rw [beq_iff_eq]; exact he
                  clear he
                  obtain ⟨lx, a0, a1, a2, a3, a4, a5, af⟩ := id hXz
                  obtain ⟨ly, b0, b1, b2, b3, b4, b5, bf⟩ := id hYz
                  obtain ⟨lc, e0, e1', e2', e3', e4', e5', ef⟩ := id hC
                  obtain ⟨ld, g0, g1, g2, g3, g4, g5', gf⟩ := id hDz
                  go_wp2_with fail
                  clear lc e0 e1' e2' e3' e4' e5' ef ld g0 g1 g2 g3 g4 g5' gf
                  have HS : ∀ w', BW w' wo.heap.size r2 → BW w' (wo.heap.size + 1) r2 → Below w.heap.size w w' → (w'.cell? ⟨wo.heap.size, 0, none⟩ = some (.int .i64 r2.d) ∧ w'.cell? ⟨wo.heap.size, 1, none⟩ = some (.int .i64 r2.m) ∧ w'.cell? ⟨wo.heap.size, 2, none⟩ = some (.int .i64 r2.c) ∧ w'.cell? ⟨wo.heap.size, 3, none⟩ = some (.int .i64 r2.t) ∧ w'.cell? ⟨wo.heap.size, 4, none⟩ = some (.int .i64 r2.s) ∧ w'.cell? ⟨wo.heap.size, 5, none⟩ = some (.int .i64 r2.g)) ∧ (w'.cell? ⟨(wo.heap.size + 1), 0, none⟩ = some (.int .i64 r2.d) ∧ w'.cell? ⟨(wo.heap.size + 1), 1, none⟩ = some (.int .i64 r2.m) ∧ w'.cell? ⟨(wo.heap.size + 1), 2, none⟩ = some (.int .i64 r2.c) ∧ w'.cell? ⟨(wo.heap.size + 1), 3, none⟩ = some (.int .i64 r2.t) ∧ w'.cell? ⟨(wo.heap.size + 1), 4, none⟩ = some (.int .i64 r2.s) ∧ w'.cell? ⟨(wo.heap.size + 1), 5, none⟩ = some (.int .i64 r2.g)) ∧ BW w' wo.heap.size r2 ∧ BW w' (wo.heap.size + 1) r2 ∧ Below w.heap.size w w' := fun w' h1 h2 h3 => ⟨⟨h1.c0, h1.c1, h1.c2, h1.c3, h1.c4, h1.c5⟩, ⟨h2.c0, h2.c1, h2.c2, h2.c3, h2.c4, h2.c5⟩, h1, h2, h3⟩
                  go_region_held3 (fun w' => (w'.cell? ⟨wo.heap.size, 0, none⟩ = some (.int .i64 r2.d) ∧ w'.cell? ⟨wo.heap.size, 1, none⟩ = some (.int .i64 r2.m) ∧ w'.cell? ⟨wo.heap.size, 2, none⟩ = some (.int .i64 r2.c) ∧ w'.cell? ⟨wo.heap.size, 3, none⟩ = some (.int .i64 r2.t) ∧ w'.cell? ⟨wo.heap.size, 4, none⟩ = some (.int .i64 r2.s) ∧ w'.cell? ⟨wo.heap.size, 5, none⟩ = some (.int .i64 r2.g)) ∧ (w'.cell? ⟨(wo.heap.size + 1), 0, none⟩ = some (.int .i64 r2.d) ∧ w'.cell? ⟨(wo.heap.size + 1), 1, none⟩ = some (.int .i64 r2.m) ∧ w'.cell? ⟨(wo.heap.size + 1), 2, none⟩ = some (.int .i64 r2.c) ∧ w'.cell? ⟨(wo.heap.size + 1), 3, none⟩ = some (.int .i64 r2.t) ∧ w'.cell? ⟨(wo.heap.size + 1), 4, none⟩ = some (.int .i64 r2.s) ∧ w'.cell? ⟨(wo.heap.size + 1), 5, none⟩ = some (.int .i64 r2.g)) ∧ BW w' wo.heap.size r2 ∧ BW w' (wo.heap.size + 1) r2 ∧ Below w.heap.size w w')
                    ((refine HS _ ?_ ?_ ?_ <;> (repeat (first | (with_reducible assumption) | (with_reducible refine BW.drew ?_) | (with_reducible refine Below.drew ?_) | (with_reducible refine BW.far6 ?_ _ (by omega) _ _ _ _ _ _) | (with_reducible refine bset ?_ _ (by omega) _ _ _ _ _ _)))))
                    (fail)
                  all_goals
                    go_wp2_with fail
                    rename_i hH
                    first
                      | exact ⟨⟨k + 1, r2, by omega, by omega, by go_num, BW.drew (stores57 hXz hYz (by omega) r2).1, BW.drew (stores57 hXz hYz (by omega) r2).2, hH.2.2.2.2⟩, by simp [intOf]; omega⟩
                      | exact ⟨⟨k + 1, r2, by omega, by omega, by go_num, BW.drew (stores75 hXz hYz (by omega) r2).1, BW.drew (stores75 hXz hYz (by omega) r2).2, hH.2.2.2.2⟩, by simp [intOf]; omega⟩
                · have f2 : (e2 == 0) = false := beq_eq_false_iff_ne.2 he
                  clear he
                  obtain ⟨lc, e0, e1', e2', e3', e4', e5', ef⟩ := id hC
                  obtain ⟨ld, g0, g1, g2, g3, g4, g5', gf⟩ := id hDz
                  go_wp2_with fail
                  exact ⟨⟨k + 1, x, by omega, by omega, by go_num, hXz, hYz, hBz⟩, by simp [intOf]; omega⟩
          · by_cases q6 : kk = 6
            · subst q6
              obtain ⟨r2, HR2⟩ : ∃ r, Hid (chW x (bad x ti no) (timeB ti && timeB no) = r) := ⟨_, rfl⟩
              obtain ⟨e2, HE2⟩ : ∃ e, Hid (chE x (timeB ti && timeB no) = e) := ⟨_, rfl⟩
              go_wp2_with fail
              refine (bring_is _ _ 6 _ HKK (by omega) (by omega)).mono ?_
              rintro e w' ⟨rfl, rfl⟩
              clear d0 d1 d2 d3 d4
              go_wp2_with fail
              go_cut [12] from 43 to 152 (fun sx wx => sx = .int .i64 e2 ∧ BW wx wo.heap.size r2 ∧ BW wx (wo.heap.size + 1) zero ∧ Pk wx gp ti si ∧ Below wo.heap.size wo wx)
              case first =>
                have HS : ∀ w', Below wo.heap.size wo w' → (w'.cell? ⟨g5, 0, none⟩ = some (.int .i64 x.d) ∧ w'.cell? ⟨g5, 1, none⟩ = some (.int .i64 x.m) ∧ w'.cell? ⟨g5, 2, none⟩ = some (.int .i64 x.c) ∧ w'.cell? ⟨g5, 3, none⟩ = some (.int .i64 x.t) ∧ w'.cell? ⟨g5, 4, none⟩ = some (.int .i64 x.s) ∧ w'.cell? ⟨g5, 5, none⟩ = some (.int .i64 x.g)) ∧ (w'.cell? ⟨b, off + k * 5, none⟩ = some (.int .i64 ki) ∧ w'.cell? ⟨b, off + k * 5 + 1, none⟩ = some (.int .i64 ti) ∧ w'.cell? ⟨b, off + k * 5 + 2, none⟩ = some (.int .i64 no) ∧ w'.cell? ⟨b, off + k * 5 + 3, none⟩ = some (.int .i64 si) ∧ w'.cell? ⟨b, off + k * 5 + 4, none⟩ = some (.bool fu)) ∧ Below wo.heap.size wo w' := fun w' hb => ⟨(HL.out w' hb).1, (HL.out w' hb).2.2, hb⟩
                go_region_held3 (fun w' => (w'.cell? ⟨g5, 0, none⟩ = some (.int .i64 x.d) ∧ w'.cell? ⟨g5, 1, none⟩ = some (.int .i64 x.m) ∧ w'.cell? ⟨g5, 2, none⟩ = some (.int .i64 x.c) ∧ w'.cell? ⟨g5, 3, none⟩ = some (.int .i64 x.t) ∧ w'.cell? ⟨g5, 4, none⟩ = some (.int .i64 x.s) ∧ w'.cell? ⟨g5, 5, none⟩ = some (.int .i64 x.g)) ∧ (w'.cell? ⟨b, off + k * 5, none⟩ = some (.int .i64 ki) ∧ w'.cell? ⟨b, off + k * 5 + 1, none⟩ = some (.int .i64 ti) ∧ w'.cell? ⟨b, off + k * 5 + 2, none⟩ = some (.int .i64 no) ∧ w'.cell? ⟨b, off + k * 5 + 3, none⟩ = some (.int .i64 si) ∧ w'.cell? ⟨b, off + k * 5 + 4, none⟩ = some (.bool fu)) ∧ Below wo.heap.size wo w')
                  ((refine HS _ ?_; (repeat (first | (with_reducible assumption) | (with_reducible refine Below.drew ?_) | (with_reducible refine bset ?_ _ (by omega) _ _ _ _ _ _)))))
                  ((go_at_call 17; refine (wbad_any x ti no r2 e2 _ HR2 HE2).mono ?_; rintro e w7 ⟨rfl, hbb7⟩; have hb7 : Below wo.heap.size wo w7 := below_to (by (first | (with_reducible assumption) | (with_reducible exact Below.drew (by assumption)))) hbb7; have HQ := Lib.hid hbb7; obtain ⟨zl, z0, z1', z2', z3', z4', z5, zf⟩ := BW.kept (BW.drew hC) hbb7; clear hbb7))
                all_goals
                  go_wp2_with fail
                  go_meet
                  rename_i hH
                  exact ⟨rfl, BW.set6 (BW.kept (BW.drew hC) HQ.out) r2, BW.far6 (BW.kept (BW.drew hDz) HQ.out) _ (by omega) _ _ _ _ _ _, Pk.far6 (Pk.kept (Pk.drew hP) HQ.out) _ (by omega) _ _ _ _ _ _, hH.2.2⟩
              case rest =>
                obtain ⟨rfl, hC', hD', hP', hbq⟩ := hcut
                obtain ⟨wa, rfl⟩ : ∃ w6 : World, w6 = wc := ⟨_, rfl⟩
                have hC := hC'
                have hDz := hD'
                have hP := hP'
                clear hC' hD' hP'
                go_wp2_with fail
                have HS : ∀ w', Below wo.heap.size wo w' → (w'.cell? ⟨g7, 0, none⟩ = some (.int .i64 x.d) ∧ w'.cell? ⟨g7, 1, none⟩ = some (.int .i64 x.m) ∧ w'.cell? ⟨g7, 2, none⟩ = some (.int .i64 x.c) ∧ w'.cell? ⟨g7, 3, none⟩ = some (.int .i64 x.t) ∧ w'.cell? ⟨g7, 4, none⟩ = some (.int .i64 x.s) ∧ w'.cell? ⟨g7, 5, none⟩ = some (.int .i64 x.g)) ∧ (w'.cell? ⟨b, off + k * 5, none⟩ = some (.int .i64 ki) ∧ w'.cell? ⟨b, off + k * 5 + 1, none⟩ = some (.int .i64 ti) ∧ w'.cell? ⟨b, off + k * 5 + 2, none⟩ = some (.int .i64 no) ∧ w'.cell? ⟨b, off + k * 5 + 3, none⟩ = some (.int .i64 si) ∧ w'.cell? ⟨b, off + k * 5 + 4, none⟩ = some (.bool fu)) ∧ Below wo.heap.size wo w' := fun w' hb => ⟨(HL.out w' hb).2.1, (HL.out w' hb).2.2, hb⟩
                have hbE : Below wo.heap.size wo wa := hbq
                go_region_held3 (fun w' => (w'.cell? ⟨g7, 0, none⟩ = some (.int .i64 x.d) ∧ w'.cell? ⟨g7, 1, none⟩ = some (.int .i64 x.m) ∧ w'.cell? ⟨g7, 2, none⟩ = some (.int .i64 x.c) ∧ w'.cell? ⟨g7, 3, none⟩ = some (.int .i64 x.t) ∧ w'.cell? ⟨g7, 4, none⟩ = some (.int .i64 x.s) ∧ w'.cell? ⟨g7, 5, none⟩ = some (.int .i64 x.g)) ∧ (w'.cell? ⟨b, off + k * 5, none⟩ = some (.int .i64 ki) ∧ w'.cell? ⟨b, off + k * 5 + 1, none⟩ = some (.int .i64 ti) ∧ w'.cell? ⟨b, off + k * 5 + 2, none⟩ = some (.int .i64 no) ∧ w'.cell? ⟨b, off + k * 5 + 3, none⟩ = some (.int .i64 si) ∧ w'.cell? ⟨b, off + k * 5 + 4, none⟩ = some (.bool fu)) ∧ Below wo.heap.size wo w')
                  ((refine HS _ ?_; (repeat (first | (with_reducible assumption) | (with_reducible refine Below.drew ?_) | (with_reducible refine bset ?_ _ (by omega) _ _ _ _ _ _)))))
                  ((go_at_call 18; refine (rbad_any x ti no r2 e2 _ HR2 HE2).mono ?_; rintro e w7 ⟨rfl, hbb7⟩; have hb7 : Below wo.heap.size wo w7 := below_to (by (first | (with_reducible assumption) | (with_reducible exact Below.drew (by assumption)))) hbb7; have HQ := Lib.hid hbb7; obtain ⟨zl, z0, z1', z2', z3', z4', z5, zf⟩ := BW.kept (BW.drew hDz) hbb7; clear hbb7))
                all_goals
                  go_upto_region 21 with (fail)
                  clear zl z0 z1' z2' z3' z4' z5 zf
                  obtain ⟨wb, hWb⟩ : ∃ W, ((((((w7.setCell ⟨wo.heap.size + 1, 0, none⟩ (.int .i64 r2.d)).setCell ⟨wo.heap.size + 1, 1, none⟩ (.int .i64 r2.m)).setCell ⟨wo.heap.size + 1, 2, none⟩ (.int .i64 r2.c)).setCell ⟨wo.heap.size + 1, 3, none⟩ (.int .i64 r2.t)).setCell ⟨wo.heap.size + 1, 4, none⟩ (.int .i64 r2.s)).setCell ⟨wo.heap.size + 1, 5, none⟩ (.int .i64 r2.g)) = W := ⟨_, rfl⟩
                  rw [hWb]
                  have hbz : Below wo.heap.size wo wb := hWb ▸ bset hb7 _ (Nat.le_succ _) _ _ _ _ _ _
                  have hC2 : BW wb wo.heap.size r2 := hWb ▸ BW.far6 (BW.kept (BW.drew hC) HQ.out) _ (by omega) _ _ _ _ _ _
                  have hD2 : BW wb (wo.heap.size + 1) r2 := hWb ▸ BW.set6 (BW.kept (BW.drew hDz) HQ.out) r2
                  clear hWb hC hDz hP hb7 HQ hbq hbE
                  have hC := hC2
                  have hDz := hD2
                  clear hC2 hD2

                  -- both results lie in their boxes (hC, hDz), in world wb (hbz)
                  have hXz := hX.kept hbz
                  have hYz := hY.kept hbz
                  have hBz := hB.trans (hbz.mono z)
                  have q5 := hXz.lt
                  have q5' := hX.lt
                  have q7' := hY.lt
                  by_cases he : e2 = 0
                  · have f2 : (e2 == 0) = true := by rw [beq_iff_eq]; exact he
                    clear he
                    obtain ⟨lx, a0, a1, a2, a3, a4, a5, af⟩ := id hXz
                    obtain ⟨ly, b0, b1, b2, b3, b4, b5, bf⟩ := id hYz
                    obtain ⟨lc, e0, e1', e2', e3', e4', e5', ef⟩ := id hC
                    obtain ⟨ld, g0, g1, g2, g3, g4, g5', gf⟩ := id hDz
                    go_wp2_with fail
                    clear lc e0 e1' e2' e3' e4' e5' ef ld g0 g1 g2 g3 g4 g5' gf
                    have HS : ∀ w', BW w' wo.heap.size r2 → BW w' (wo.heap.size + 1) r2 → Below w.heap.size w w' → (w'.cell? ⟨wo.heap.size, 0, none⟩ = some (.int .i64 r2.d) ∧ w'.cell? ⟨wo.heap.size, 1, none⟩ = some (.int .i64 r2.m) ∧ w'.cell? ⟨wo.heap.size, 2, none⟩ = some (.int .i64 r2.c) ∧ w'.cell? ⟨wo.heap.size, 3, none⟩ = some (.int .i64 r2.t) ∧ w'.cell? ⟨wo.heap.size, 4, none⟩ = some (.int .i64 r2.s) ∧ w'.cell? ⟨wo.heap.size, 5, none⟩ = some (.int .i64 r2.g)) ∧ (w'.cell? ⟨(wo.heap.size + 1), 0, none⟩ = some (.int .i64 r2.d) ∧ w'.cell? ⟨(wo.heap.size + 1), 1, none⟩ = some (.int .i64 r2.m) ∧ w'.cell? ⟨(wo.heap.size + 1), 2, none⟩ = some (.int .i64 r2.c) ∧ w'.cell? ⟨(wo.heap.size + 1), 3, none⟩ = some (.int .i64 r2.t) ∧ w'.cell? ⟨(wo.heap.size + 1), 4, none⟩ = some (.int .i64 r2.s) ∧ w'.cell? ⟨(wo.heap.size + 1), 5, none⟩ = some (.int .i64 r2.g)) ∧ BW w' wo.heap.size r2 ∧ BW w' (wo.heap.size + 1) r2 ∧ Below w.heap.size w w' := fun w' h1 h2 h3 => ⟨⟨h1.c0, h1.c1, h1.c2, h1.c3, h1.c4, h1.c5⟩, ⟨h2.c0, h2.c1, h2.c2, h2.c3, h2.c4, h2.c5⟩, h1, h2, h3⟩
                    go_region_held3 (fun w' => (w'.cell? ⟨wo.heap.size, 0, none⟩ = some (.int .i64 r2.d) ∧ w'.cell? ⟨wo.heap.size, 1, none⟩ = some (.int .i64 r2.m) ∧ w'.cell? ⟨wo.heap.size, 2, none⟩ = some (.int .i64 r2.c) ∧ w'.cell? ⟨wo.heap.size, 3, none⟩ = some (.int .i64 r2.t) ∧ w'.cell? ⟨wo.heap.size, 4, none⟩ = some (.int .i64 r2.s) ∧ w'.cell? ⟨wo.heap.size, 5, none⟩ = some (.int .i64 r2.g)) ∧ (w'.cell? ⟨(wo.heap.size + 1), 0, none⟩ = some (.int .i64 r2.d) ∧ w'.cell? ⟨(wo.heap.size + 1), 1, none⟩ = some (.int .i64 r2.m) ∧ w'.cell? ⟨(wo.heap.size + 1), 2, none⟩ = some (.int .i64 r2.c) ∧ w'.cell? ⟨(wo.heap.size + 1), 3, none⟩ = some (.int .i64 r2.t) ∧ w'.cell? ⟨(wo.heap.size + 1), 4, none⟩ = some (.int .i64 r2.s) ∧ w'.cell? ⟨(wo.heap.size + 1), 5, none⟩ = some (.int .i64 r2.g)) ∧ BW w' wo.heap.size r2 ∧ BW w' (wo.heap.size + 1) r2 ∧ Below w.heap.size w w')
                      ((refine HS _ ?_ ?_ ?_ <;> (repeat (first | (with_reducible assumption) | (with_reducible refine BW.drew ?_) | (with_reducible refine Below.drew ?_) | (with_reducible refine BW.far6 ?_ _ (by omega) _ _ _ _ _ _) | (with_reducible refine bset ?_ _ (by omega) _ _ _ _ _ _)))))
                      (fail)
                    all_goals
                      go_wp2_with fail
                      rename_i hH
                      first
                        | exact ⟨⟨k + 1, r2, by omega, by omega, by go_num, BW.drew (stores57 hXz hYz (by omega) r2).1, BW.drew (stores57 hXz hYz (by omega) r2).2, hH.2.2.2.2⟩, by simp [intOf]; omega⟩
                        | exact ⟨⟨k + 1, r2, by omega, by omega, by go_num, BW.drew (stores75 hXz hYz (by omega) r2).1, BW.drew (stores75 hXz hYz (by omega) r2).2, hH.2.2.2.2⟩, by simp [intOf]; omega⟩
                  · have f2 : (e2 == 0) = false := beq_eq_false_iff_ne.2 he
                    clear he
                    obtain ⟨lc, e0, e1', e2', e3', e4', e5', ef⟩ := id hC
                    obtain ⟨ld, g0, g1, g2, g3, g4, g5', gf⟩ := id hDz
                    go_wp2_with fail
                    exact ⟨⟨k + 1, x, by omega, by omega, by go_num, hXz, hYz, hBz⟩, by simp [intOf]; omega⟩
            · have p5 : (kk == 5) = false := beq_eq_false_iff_ne.2 q5
              have p6 : (kk == 6) = false := beq_eq_false_iff_ne.2 q6
              have p7 : (kk == 7) = false := beq_eq_false_iff_ne.2 q7
              obtain ⟨r1, HR1⟩ : ∃ r, Hid (chW x (acked x ti si fu) (rightP ti si) = r) := ⟨_, rfl⟩
              obtain ⟨e1, HE1⟩ : ∃ e, Hid (chE x (rightP ti si) = e) := ⟨_, rfl⟩
              go_wp2_with fail
              refine (bring_is _ _ kk _ HKK (by omega) (by omega)).mono ?_
              rintro e w' ⟨rfl, rfl⟩
              clear d0 d1 d2 d3 d4
              go_wp2_with fail
              go_cut [12] from 43 to 152 (fun sx wx => sx = .int .i64 e1 ∧ BW wx wo.heap.size r1 ∧ BW wx (wo.heap.size + 1) zero ∧ Pk wx gp ti si ∧ Below wo.heap.size wo wx)
              case first =>
                have HS : ∀ w', Pk w' gp ti si → Below wo.heap.size wo w' → (w'.cell? ⟨g5, 0, none⟩ = some (.int .i64 x.d) ∧ w'.cell? ⟨g5, 1, none⟩ = some (.int .i64 x.m) ∧ w'.cell? ⟨g5, 2, none⟩ = some (.int .i64 x.c) ∧ w'.cell? ⟨g5, 3, none⟩ = some (.int .i64 x.t) ∧ w'.cell? ⟨g5, 4, none⟩ = some (.int .i64 x.s) ∧ w'.cell? ⟨g5, 5, none⟩ = some (.int .i64 x.g)) ∧ (w'.cell? ⟨b, off + k * 5, none⟩ = some (.int .i64 ki) ∧ w'.cell? ⟨b, off + k * 5 + 1, none⟩ = some (.int .i64 ti) ∧ w'.cell? ⟨b, off + k * 5 + 2, none⟩ = some (.int .i64 no) ∧ w'.cell? ⟨b, off + k * 5 + 3, none⟩ = some (.int .i64 si) ∧ w'.cell? ⟨b, off + k * 5 + 4, none⟩ = some (.bool fu)) ∧ (w'.cell? ⟨gp, 0, none⟩ = some (.int .i64 0) ∧ w'.cell? ⟨gp, 1, none⟩ = some (.int .i64 ti) ∧ w'.cell? ⟨gp, 2, none⟩ = some (.int .i64 si) ∧ w'.cell? ⟨gp, 3, none⟩ = some (.bool false) ∧ w'.cell? ⟨gp, 4, none⟩ = some (.bool false) ∧ w'.cell? ⟨gp, 5, none⟩ = some (.bool false)) ∧ Pk w' gp ti si ∧ Below wo.heap.size wo w' := fun w' hp hb => ⟨(HL.out w' hb).1, (HL.out w' hb).2.2, ⟨hp.c0, hp.c1, hp.c2, hp.c3, hp.c4, hp.c5⟩, hp, hb⟩
                go_region_held3 (fun w' => (w'.cell? ⟨g5, 0, none⟩ = some (.int .i64 x.d) ∧ w'.cell? ⟨g5, 1, none⟩ = some (.int .i64 x.m) ∧ w'.cell? ⟨g5, 2, none⟩ = some (.int .i64 x.c) ∧ w'.cell? ⟨g5, 3, none⟩ = some (.int .i64 x.t) ∧ w'.cell? ⟨g5, 4, none⟩ = some (.int .i64 x.s) ∧ w'.cell? ⟨g5, 5, none⟩ = some (.int .i64 x.g)) ∧ (w'.cell? ⟨b, off + k * 5, none⟩ = some (.int .i64 ki) ∧ w'.cell? ⟨b, off + k * 5 + 1, none⟩ = some (.int .i64 ti) ∧ w'.cell? ⟨b, off + k * 5 + 2, none⟩ = some (.int .i64 no) ∧ w'.cell? ⟨b, off + k * 5 + 3, none⟩ = some (.int .i64 si) ∧ w'.cell? ⟨b, off + k * 5 + 4, none⟩ = some (.bool fu)) ∧ (w'.cell? ⟨gp, 0, none⟩ = some (.int .i64 0) ∧ w'.cell? ⟨gp, 1, none⟩ = some (.int .i64 ti) ∧ w'.cell? ⟨gp, 2, none⟩ = some (.int .i64 si) ∧ w'.cell? ⟨gp, 3, none⟩ = some (.bool false) ∧ w'.cell? ⟨gp, 4, none⟩ = some (.bool false) ∧ w'.cell? ⟨gp, 5, none⟩ = some (.bool false)) ∧ Pk w' gp ti si ∧ Below wo.heap.size wo w')
                  ((refine HS _ ?_ ?_ <;> (repeat (first | (with_reducible assumption) | (with_reducible exact Pk.kept (Pk.drew hP) HQ.out) | (with_reducible refine Pk.drew ?_) | (with_reducible refine Below.drew ?_) | (with_reducible refine Pk.far6 ?_ _ (by omega) _ _ _ _ _ _) | (with_reducible refine bset ?_ _ (by omega) _ _ _ _ _ _)))))
                  ((go_at_call 14; refine (wacked_any x 0 ti si false false false fu r1 e1 _ HR1 HE1).mono ?_; rintro e w7 ⟨rfl, hbb7⟩; have hb7 : Below wo.heap.size wo w7 := below_to (by (first | (with_reducible assumption) | (with_reducible exact Below.drew (by assumption)))) hbb7; have HQ := Lib.hid hbb7; obtain ⟨zl, z0, z1', z2', z3', z4', z5, zf⟩ := BW.kept (BW.drew hC) hbb7; clear hbb7))
                all_goals
                  go_wp2_with fail
                  go_meet
                  rename_i hH
                  exact ⟨rfl, BW.set6 (BW.kept (BW.drew hC) HQ.out) r1, BW.far6 (BW.kept (BW.drew hDz) HQ.out) _ (by omega) _ _ _ _ _ _, Pk.far6 (Pk.kept (Pk.drew hP) HQ.out) _ (by omega) _ _ _ _ _ _, hH.2.2.2.2⟩
              case rest =>
                obtain ⟨rfl, hC', hD', hP', hbq⟩ := hcut
                obtain ⟨wa, rfl⟩ : ∃ w6 : World, w6 = wc := ⟨_, rfl⟩
                have hC := hC'
                have hDz := hD'
                have hP := hP'
                clear hC' hD' hP'
                go_wp2_with fail
                have HS : ∀ w', Pk w' gp ti si → Below wo.heap.size wo w' → (w'.cell? ⟨g7, 0, none⟩ = some (.int .i64 x.d) ∧ w'.cell? ⟨g7, 1, none⟩ = some (.int .i64 x.m) ∧ w'.cell? ⟨g7, 2, none⟩ = some (.int .i64 x.c) ∧ w'.cell? ⟨g7, 3, none⟩ = some (.int .i64 x.t) ∧ w'.cell? ⟨g7, 4, none⟩ = some (.int .i64 x.s) ∧ w'.cell? ⟨g7, 5, none⟩ = some (.int .i64 x.g)) ∧ (w'.cell? ⟨b, off + k * 5, none⟩ = some (.int .i64 ki) ∧ w'.cell? ⟨b, off + k * 5 + 1, none⟩ = some (.int .i64 ti) ∧ w'.cell? ⟨b, off + k * 5 + 2, none⟩ = some (.int .i64 no) ∧ w'.cell? ⟨b, off + k * 5 + 3, none⟩ = some (.int .i64 si) ∧ w'.cell? ⟨b, off + k * 5 + 4, none⟩ = some (.bool fu)) ∧ (w'.cell? ⟨gp, 0, none⟩ = some (.int .i64 0) ∧ w'.cell? ⟨gp, 1, none⟩ = some (.int .i64 ti) ∧ w'.cell? ⟨gp, 2, none⟩ = some (.int .i64 si) ∧ w'.cell? ⟨gp, 3, none⟩ = some (.bool false) ∧ w'.cell? ⟨gp, 4, none⟩ = some (.bool false) ∧ w'.cell? ⟨gp, 5, none⟩ = some (.bool false)) ∧ Pk w' gp ti si ∧ Below wo.heap.size wo w' := fun w' hp hb => ⟨(HL.out w' hb).2.1, (HL.out w' hb).2.2, ⟨hp.c0, hp.c1, hp.c2, hp.c3, hp.c4, hp.c5⟩, hp, hb⟩
                have hbE : Below wo.heap.size wo wa := hbq
                go_region_held3 (fun w' => (w'.cell? ⟨g7, 0, none⟩ = some (.int .i64 x.d) ∧ w'.cell? ⟨g7, 1, none⟩ = some (.int .i64 x.m) ∧ w'.cell? ⟨g7, 2, none⟩ = some (.int .i64 x.c) ∧ w'.cell? ⟨g7, 3, none⟩ = some (.int .i64 x.t) ∧ w'.cell? ⟨g7, 4, none⟩ = some (.int .i64 x.s) ∧ w'.cell? ⟨g7, 5, none⟩ = some (.int .i64 x.g)) ∧ (w'.cell? ⟨b, off + k * 5, none⟩ = some (.int .i64 ki) ∧ w'.cell? ⟨b, off + k * 5 + 1, none⟩ = some (.int .i64 ti) ∧ w'.cell? ⟨b, off + k * 5 + 2, none⟩ = some (.int .i64 no) ∧ w'.cell? ⟨b, off + k * 5 + 3, none⟩ = some (.int .i64 si) ∧ w'.cell? ⟨b, off + k * 5 + 4, none⟩ = some (.bool fu)) ∧ (w'.cell? ⟨gp, 0, none⟩ = some (.int .i64 0) ∧ w'.cell? ⟨gp, 1, none⟩ = some (.int .i64 ti) ∧ w'.cell? ⟨gp, 2, none⟩ = some (.int .i64 si) ∧ w'.cell? ⟨gp, 3, none⟩ = some (.bool false) ∧ w'.cell? ⟨gp, 4, none⟩ = some (.bool false) ∧ w'.cell? ⟨gp, 5, none⟩ = some (.bool false)) ∧ Pk w' gp ti si ∧ Below wo.heap.size wo w')
                  ((refine HS _ ?_ ?_ <;> (repeat (first | (with_reducible assumption) | (with_reducible exact Pk.kept (Pk.drew hP) HQ.out) | (with_reducible refine Pk.drew ?_) | (with_reducible refine Below.drew ?_) | (with_reducible refine Pk.far6 ?_ _ (by omega) _ _ _ _ _ _) | (with_reducible refine bset ?_ _ (by omega) _ _ _ _ _ _)))))
                  ((go_at_call 16; refine (racked_any x 0 ti si false false false fu r1 e1 _ HR1 HE1).mono ?_; rintro e w7 ⟨rfl, hbb7⟩; have hb7 : Below wo.heap.size wo w7 := below_to (by (first | (with_reducible assumption) | (with_reducible exact Below.drew (by assumption)))) hbb7; have HQ := Lib.hid hbb7; obtain ⟨zl, z0, z1', z2', z3', z4', z5, zf⟩ := BW.kept (BW.drew hDz) hbb7; clear hbb7))
                all_goals
                  go_upto_region 21 with (fail)
                  clear zl z0 z1' z2' z3' z4' z5 zf
                  obtain ⟨wb, hWb⟩ : ∃ W, ((((((w7.setCell ⟨wo.heap.size + 1, 0, none⟩ (.int .i64 r1.d)).setCell ⟨wo.heap.size + 1, 1, none⟩ (.int .i64 r1.m)).setCell ⟨wo.heap.size + 1, 2, none⟩ (.int .i64 r1.c)).setCell ⟨wo.heap.size + 1, 3, none⟩ (.int .i64 r1.t)).setCell ⟨wo.heap.size + 1, 4, none⟩ (.int .i64 r1.s)).setCell ⟨wo.heap.size + 1, 5, none⟩ (.int .i64 r1.g)) = W := ⟨_, rfl⟩
                  rw [hWb]
                  have hbz : Below wo.heap.size wo wb := hWb ▸ bset hb7 _ (Nat.le_succ _) _ _ _ _ _ _
                  have hC2 : BW wb wo.heap.size r1 := hWb ▸ BW.far6 (BW.kept (BW.drew hC) HQ.out) _ (by omega) _ _ _ _ _ _
                  have hD2 : BW wb (wo.heap.size + 1) r1 := hWb ▸ BW.set6 (BW.kept (BW.drew hDz) HQ.out) r1
                  clear hWb hC hDz hP hb7 HQ hbq hbE
                  have hC := hC2
                  have hDz := hD2
                  clear hC2 hD2

                  -- both results lie in their boxes (hC, hDz), in world wb (hbz)
                  have hXz := hX.kept hbz
                  have hYz := hY.kept hbz
                  have hBz := hB.trans (hbz.mono z)
                  have q5 := hXz.lt
                  have q5' := hX.lt
                  have q7' := hY.lt
                  by_cases he : e1 = 0
                  · have f2 : (e1 == 0) = true := by rw [beq_iff_eq]; exact he
                    clear he
                    obtain ⟨lx, a0, a1, a2, a3, a4, a5, af⟩ := id hXz
                    obtain ⟨ly, b0, b1, b2, b3, b4, b5, bf⟩ := id hYz
                    obtain ⟨lc, e0, e1', e2', e3', e4', e5', ef⟩ := id hC
                    obtain ⟨ld, g0, g1, g2, g3, g4, g5', gf⟩ := id hDz
                    go_wp2_with fail
                    clear lc e0 e1' e2' e3' e4' e5' ef ld g0 g1 g2 g3 g4 g5' gf
                    have HS : ∀ w', BW w' wo.heap.size r1 → BW w' (wo.heap.size + 1) r1 → Below w.heap.size w w' → (w'.cell? ⟨wo.heap.size, 0, none⟩ = some (.int .i64 r1.d) ∧ w'.cell? ⟨wo.heap.size, 1, none⟩ = some (.int .i64 r1.m) ∧ w'.cell? ⟨wo.heap.size, 2, none⟩ = some (.int .i64 r1.c) ∧ w'.cell? ⟨wo.heap.size, 3, none⟩ = some (.int .i64 r1.t) ∧ w'.cell? ⟨wo.heap.size, 4, none⟩ = some (.int .i64 r1.s) ∧ w'.cell? ⟨wo.heap.size, 5, none⟩ = some (.int .i64 r1.g)) ∧ (w'.cell? ⟨(wo.heap.size + 1), 0, none⟩ = some (.int .i64 r1.d) ∧ w'.cell? ⟨(wo.heap.size + 1), 1, none⟩ = some (.int .i64 r1.m) ∧ w'.cell? ⟨(wo.heap.size + 1), 2, none⟩ = some (.int .i64 r1.c) ∧ w'.cell? ⟨(wo.heap.size + 1), 3, none⟩ = some (.int .i64 r1.t) ∧ w'.cell? ⟨(wo.heap.size + 1), 4, none⟩ = some (.int .i64 r1.s) ∧ w'.cell? ⟨(wo.heap.size + 1), 5, none⟩ = some (.int .i64 r1.g)) ∧ BW w' wo.heap.size r1 ∧ BW w' (wo.heap.size + 1) r1 ∧ Below w.heap.size w w' := fun w' h1 h2 h3 => ⟨⟨h1.c0, h1.c1, h1.c2, h1.c3, h1.c4, h1.c5⟩, ⟨h2.c0, h2.c1, h2.c2, h2.c3, h2.c4, h2.c5⟩, h1, h2, h3⟩
                    go_region_held3 (fun w' => (w'.cell? ⟨wo.heap.size, 0, none⟩ = some (.int .i64 r1.d) ∧ w'.cell? ⟨wo.heap.size, 1, none⟩ = some (.int .i64 r1.m) ∧ w'.cell? ⟨wo.heap.size, 2, none⟩ = some (.int .i64 r1.c) ∧ w'.cell? ⟨wo.heap.size, 3, none⟩ = some (.int .i64 r1.t) ∧ w'.cell? ⟨wo.heap.size, 4, none⟩ = some (.int .i64 r1.s) ∧ w'.cell? ⟨wo.heap.size, 5, none⟩ = some (.int .i64 r1.g)) ∧ (w'.cell? ⟨(wo.heap.size + 1), 0, none⟩ = some (.int .i64 r1.d) ∧ w'.cell? ⟨(wo.heap.size + 1), 1, none⟩ = some (.int .i64 r1.m) ∧ w'.cell? ⟨(wo.heap.size + 1), 2, none⟩ = some (.int .i64 r1.c) ∧ w'.cell? ⟨(wo.heap.size + 1), 3, none⟩ = some (.int .i64 r1.t) ∧ w'.cell? ⟨(wo.heap.size + 1), 4, none⟩ = some (.int .i64 r1.s) ∧ w'.cell? ⟨(wo.heap.size + 1), 5, none⟩ = some (.int .i64 r1.g)) ∧ BW w' wo.heap.size r1 ∧ BW w' (wo.heap.size + 1) r1 ∧ Below w.heap.size w w')
                      ((refine HS _ ?_ ?_ ?_ <;> (repeat (first | (with_reducible assumption) | (with_reducible refine BW.drew ?_) | (with_reducible refine Below.drew ?_) | (with_reducible refine BW.far6 ?_ _ (by omega) _ _ _ _ _ _) | (with_reducible refine bset ?_ _ (by omega) _ _ _ _ _ _)))))
                      (fail)
                    all_goals
                      go_wp2_with fail
                      rename_i hH
                      first
                        | exact ⟨⟨k + 1, r1, by omega, by omega, by go_num, BW.drew (stores57 hXz hYz (by omega) r1).1, BW.drew (stores57 hXz hYz (by omega) r1).2, hH.2.2.2.2⟩, by simp [intOf]; omega⟩
                        | exact ⟨⟨k + 1, r1, by omega, by omega, by go_num, BW.drew (stores75 hXz hYz (by omega) r1).1, BW.drew (stores75 hXz hYz (by omega) r1).2, hH.2.2.2.2⟩, by simp [intOf]; omega⟩
                  · have f2 : (e1 == 0) = false := beq_eq_false_iff_ne.2 he
                    clear he
                    obtain ⟨lc, e0, e1', e2', e3', e4', e5', ef⟩ := id hC
                    obtain ⟨ld, g0, g1, g2, g3, g4, g5', gf⟩ := id hDz
                    go_wp2_with fail
                    exact ⟨⟨k + 1, x, by omega, by omega, by go_num, hXz, hYz, hBz⟩, by simp [intOf]; omega⟩
    · have hc : ¬ (k < len) ∨ (k < len ∧ k = 100) ∨ (k < len ∧ k < 100 ∧ e4 ≠ 0) := by omega
      clear hlt HDD
      rcases hc with hc | ⟨hc, h100⟩ | ⟨hc, h100, h4⟩
      · have d1 : decide (k < len) = false := decide_eq_false hc
        clear hc
        go_wp2_with fail
        refine (works_ok _).mono ?_
        rintro e w10 ⟨rfl, hb10⟩
        go_wp2_with fail
        go_ret
        exact ⟨rfl, hB.trans (hb10.mono z)⟩
      · have d1 : decide (k < len) = true := decide_eq_true hc
        have d2 : (k : Int) < (len : Int) := by omega
        subst h100
        go_wp2_with fail
        refine (works_ok _).mono ?_
        rintro e w10 ⟨rfl, hb10⟩
        go_wp2_with fail
        go_ret
        exact ⟨rfl, hB.trans (hb10.mono z)⟩
      · have f1 : (e4 == 0) = false := beq_eq_false_iff_ne.2 h4
        go_wp2_with fail
        refine (works_ok _).mono ?_
        rintro e w10 ⟨rfl, hb10⟩
        go_wp2_with fail
        go_ret
        exact ⟨rfl, hB.trans (hb10.mono z)⟩
end Go.Proofs.Ytcjhankepchioaa
