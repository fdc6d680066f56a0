/-
  The walk of WindowBounds.
-/
import Derived.Test.YtcjhankepchioaaR
namespace Go.Proofs.Ytcjhankepchioaa
open Go.RowKit (wrap32 wrap64)
open Go.RowKit
set_option linter.unusedVariables false
set_option linter.unusedSimpArgs false

set_option maxRecDepth 100000 in
set_option maxHeartbeats 40000000 in
theorem bounds_any (x0 x1 x2 : Int) (A : Option Addr) (len cap : Nat) (w : World) (hD : Dos w A len) (hl0 : len ≤ 9223372036854775807) :
    Calls Try.prog 7 #[.agg #[.int .i64 x0, .int .i64 x1, .int .i64 x2], .slice A len cap] w fun e w' => e = .returned (.bool true) ∧ Below w.heap.size w w' := by
  obtain ⟨da, fi, mo, hm, hda, hmade⟩ := made_any x0 x1 x2
  obtain ⟨a, HA, a0, a1⟩ := name_mod x0 64328 (by omega)
  have HDA : Hid (da = 1200 + a) := by have := HA.out; show da = 1200 + a; omega
  clear hda
  have HO : Hid (Ok (first da fi mo)) := first_ok da fi mo (by omega) (by omega) (by omega) (by omega) (by omega)
  have HD := Lib.hid hD
  clear hD
  go_enter Try.func7, Try.ntmps7
  go_wp2_with fail
  refine (works_ok _).mono ?_
  rintro e w1 ⟨rfl, hb1⟩
  have HM := Lib.hid hmade
  clear hmade
  have hB1 : Below w.heap.size w w1 := ((Below.refl _ w).alloc (Nat.le_refl _) _).trans (hb1.mono (by simp <;> omega))
  have hT1 : w1.cell? ⟨w.heap.size, 0, none⟩ = some (.int .i64 x0) ∧ w1.cell? ⟨w.heap.size, 1, none⟩ = some (.int .i64 x1) ∧ w1.cell? ⟨w.heap.size, 2, none⟩ = some (.int .i64 x2) := ⟨oldcell (by simp) hb1 (by simp), oldcell (by simp) hb1 (by simp), oldcell (by simp) hb1 (by simp)⟩
  have hsz1 : w.heap.size < w1.heap.size := by have := hb1.size; simp at this; omega
  obtain ⟨hT1, hT1', hT1''⟩ := hT1
  clear hb1
  go_wp2_with fail
  refine (HM.out _).mono ?_
  rintro e w2 ⟨rfl, hb2⟩
  have HT2 := Lib.hid (oldcell hT1 hb2 hsz1)
  have hB2 := hB1.trans (hb2.mono hB1.size)
  have hD2 := Lib.hid (HD.out.kept hB2)
  have z2 := hB2.size
  have hsz2 : w.heap.size < w2.heap.size := Nat.lt_of_lt_of_le hsz1 hb2.size
  clear hT1 hT1' hT1'' hb2 hB1 hsz1
  go_upto_region 4 with (fail)
  obtain ⟨g5, hg5⟩ : ∃ g, w2.heap.size = g := ⟨_, rfl⟩
  obtain ⟨W2, hW2⟩ : ∃ W, w2.alloc (.cells #[.int .i64 da, .int .i64 mo, .int .i64 fi, .int .i64 (-1), .int .i64 (-1), .int .i64 0] 26) = W := ⟨_, rfl⟩
  rw [hW2, hg5]
  have hX2 : BW W2 g5 (first da fi mo) := hg5 ▸ hW2 ▸ BW.new w2 (first da fi mo) 26
  have HT3 : Hid (W2.cell? ⟨w.heap.size, 0, none⟩ = some (.int .i64 x0)) := Lib.hid (hW2 ▸ cell_old HT2.out hsz2)
  have HB2 : Hid (Below w.heap.size w W2) := Lib.hid (hW2 ▸ hB2.alloc z2 _)
  have hg : w.heap.size < g5 := hg5 ▸ hsz2
  clear hW2 HT2 hB2 hg5 hD2 z2 hsz2
  go_wp2_with fail
  go_loopw [6] (fun i wr => ∃ (k : Nat) (x : Win), k ≤ 101 ∧ k ≤ len + 1 ∧ i = .int .i64 k ∧ Ok x ∧ x.d = da ∧ BW wr g5 x ∧ wr.cell? ⟨w.heap.size, 0, none⟩ = some (.int .i64 x0) ∧ Below w.heap.size w wr) (fun i _ => 102 - (intOf i).toNat)
  case atStart => exact ⟨0, first da fi mo, by omega, by omega, rfl, HO.out, rfl, hX2, HT3.out, HB2.out⟩
  case round =>
    obtain ⟨k, x, hk, hkl, rfl, hox, hxd, hX, hT, hB⟩ := hrel
    obtain ⟨wo, rfl⟩ : ∃ wo : World, wo = wr := ⟨_, rfl⟩
    have z := hB.size
    have HOX := Lib.hid hox
    have HXD := Lib.hid hxd
    have HT := Lib.hid hT
    have HDD : Hid (Dos wo A len) := HD.out.kept hB
    have hsz : w.heap.size < wo.heap.size := Nat.lt_trans hg hX.lt
    clear hX2 HT3 HB2 HO hox hxd hT
    by_cases hlt : k ≤ len ∧ k ≤ 100
    · obtain ⟨hlt, h100⟩ := hlt
      have HCK : Hid ((if Ok x then (0 : Int) else 2) = 0) := if_pos HOX.out
      have f1 : decide (x.c < 2 * x.d) = false := by have := HOX.out.c0; rw [decide_eq_false_iff_not]; omega
      have f2 : decide (x.m < x.c) = false := by have := HOX.out.c1; rw [decide_eq_false_iff_not]; omega
      have f3 : decide (x.g < 0) = false := by have := HOX.out.g0; rw [decide_eq_false_iff_not]; omega
      have f4 : decide (x.c ≤ x.g) = false := by have := HOX.out.g1; rw [decide_eq_false_iff_not]; omega
      have f5 : (x.d != 1200 + a) = false := by have h1 := HXD.out; have h2 := HDA.out; rw [bne_eq_false_iff_eq]; omega
      have f6 : IntKind.i64.wrap (2 * x.d) = 2 * x.d := IntWalk.i64_in _ (by have := HOX.out.d0; have := HOX.out.d1; omega)
      have f7 : IntKind.i64.wrap (1200 + a) = 1200 + a := IntWalk.i64_in _ (by omega)
      have d1 : decide (k ≤ len) = true := decide_eq_true hlt
      go_wp2_with fail
      go_cut [61] from 13 to 77 (fun s61 wx => s61 = .bool false ∧ Below wo.heap.size wo wx)
      case first =>
        have HS : ∀ w', Below wo.heap.size wo w' → (w'.cell? ⟨g5, 0, none⟩ = some (.int .i64 x.d) ∧ w'.cell? ⟨g5, 1, none⟩ = some (.int .i64 x.m) ∧ w'.cell? ⟨g5, 2, none⟩ = some (.int .i64 x.c) ∧ w'.cell? ⟨g5, 3, none⟩ = some (.int .i64 x.t) ∧ w'.cell? ⟨g5, 4, none⟩ = some (.int .i64 x.s) ∧ w'.cell? ⟨g5, 5, none⟩ = some (.int .i64 x.g)) ∧ (w'.cell? ⟨w.heap.size, 0, none⟩ = some (.int .i64 x0)) ∧ Below wo.heap.size wo w' := fun w' hb => by
          obtain ⟨_, k0, k1, k2, k3, k4, k5, kf⟩ := hX.kept hb
          exact ⟨⟨k0, k1, k2, k3, k4, k5⟩, oldcell HT.out hb hsz, hb⟩
        have hbR := Below.refl wo.heap.size wo
        go_region_held3 (fun w' => (w'.cell? ⟨g5, 0, none⟩ = some (.int .i64 x.d) ∧ w'.cell? ⟨g5, 1, none⟩ = some (.int .i64 x.m) ∧ w'.cell? ⟨g5, 2, none⟩ = some (.int .i64 x.c) ∧ w'.cell? ⟨g5, 3, none⟩ = some (.int .i64 x.t) ∧ w'.cell? ⟨g5, 4, none⟩ = some (.int .i64 x.s) ∧ w'.cell? ⟨g5, 5, none⟩ = some (.int .i64 x.g)) ∧ (w'.cell? ⟨w.heap.size, 0, none⟩ = some (.int .i64 x0)) ∧ Below wo.heap.size wo w')
          ((refine HS _ ?_; (first | (with_reducible assumption) | (with_reducible exact Below.drew (by assumption)))))
          (first | (go_at_call 23; refine (check_B x 0 _ HCK).mono ?_; rintro e w7 ⟨rfl, hbb7⟩; have hb7 : Below wo.heap.size wo w7 := Below.trans (b := _) (by (first | (with_reducible assumption) | (with_reducible exact Below.drew (by assumption)) | (with_reducible exact bAlloc (by assumption) _) | (with_reducible exact Below.drew (bAlloc (by assumption) _)))) (hbb7.mono (by first | exact Nat.le_refl _ | simp | (simp; omega))); clear hbb7) | (go_at_call 13; refine (bring_is _ _ a _ HA (by omega) (by omega)).mono ?_; rintro e w' ⟨rfl, rfl⟩))
        all_goals
          go_wp2_with fail
          go_meet
          rename_i hH
          exact ⟨rfl, hH.2.2⟩
      case rest =>
        obtain ⟨rfl, hcut⟩ := hcut
        obtain ⟨wp, rfl⟩ : ∃ wp : World, wp = wc := ⟨_, rfl⟩
        have hXp := hX.kept hcut
        have hBp := hB.trans (hcut.mono z)
        have HTp := Lib.hid (oldcell HT.out hcut hsz)
        have HDp : Hid (Dos wp A len) := HD.out.kept hBp
        have zp := hBp.size
        have hszp : w.heap.size < wp.heap.size := Nat.lt_trans hg hXp.lt
        clear hX hB HT HDD f1 f2 f3 f4 f5 f6 f7 hcut z hsz HCK d1
        by_cases hl2 : k < len
        · obtain ⟨b, off, ki, ti, no, si, fu, rfl, hbl, c0, c1, c2, c3, c4⟩ := HDp.out k hl2
          have D0 := Lib.hid c0
          have D1 := Lib.hid c1
          have D2 := Lib.hid c2
          have D3 := Lib.hid c3
          have D4 := Lib.hid c4
          clear c0 c1 c2 c3 c4
          have i0 : (0 : Int) ≤ (k : Int) := by omega
          have i1 : (k : Int) < (len : Int) := by omega
          obtain ⟨y, hoy, hyd, hym, hstep⟩ := step_any x HOX.out ki ti no si fu
          have HOY := Lib.hid hoy
          have HYD : Hid (y.d = da) := hyd.trans HXD.out
          clear hoy hyd hym
          go_wp2_with fail
          go_cut [7, 8] from 13 to 77 (fun sv so wx => ∃ gv, sv = .pointer (some ⟨gv, 0, none⟩) ∧ so = .bool true ∧ BW wx gv y ∧ Below wp.heap.size wp wx)
          case first =>
            have HS : ∀ w', Below wp.heap.size wp w' → (w'.cell? ⟨g5, 0, none⟩ = some (.int .i64 x.d) ∧ w'.cell? ⟨g5, 1, none⟩ = some (.int .i64 x.m) ∧ w'.cell? ⟨g5, 2, none⟩ = some (.int .i64 x.c) ∧ w'.cell? ⟨g5, 3, none⟩ = some (.int .i64 x.t) ∧ w'.cell? ⟨g5, 4, none⟩ = some (.int .i64 x.s) ∧ w'.cell? ⟨g5, 5, none⟩ = some (.int .i64 x.g)) ∧ (w'.cell? ⟨b, off + k * 5, none⟩ = some (.int .i64 ki) ∧ w'.cell? ⟨b, off + k * 5 + 1, none⟩ = some (.int .i64 ti) ∧ w'.cell? ⟨b, off + k * 5 + 2, none⟩ = some (.int .i64 no) ∧ w'.cell? ⟨b, off + k * 5 + 3, none⟩ = some (.int .i64 si) ∧ w'.cell? ⟨b, off + k * 5 + 4, none⟩ = some (.bool fu)) ∧ Below wp.heap.size wp w' := fun w' hb => by
              obtain ⟨_, k0, k1, k2, k3, k4, k5, kf⟩ := hXp.kept hb
              exact ⟨⟨k0, k1, k2, k3, k4, k5⟩, ⟨oldcell D0.out hb hbl, oldcell D1.out hb hbl, oldcell D2.out hb hbl, oldcell D3.out hb hbl, oldcell D4.out hb hbl⟩, hb⟩
            have hbR := Below.refl wp.heap.size wp
            go_region_held3 (fun w' => (w'.cell? ⟨g5, 0, none⟩ = some (.int .i64 x.d) ∧ w'.cell? ⟨g5, 1, none⟩ = some (.int .i64 x.m) ∧ w'.cell? ⟨g5, 2, none⟩ = some (.int .i64 x.c) ∧ w'.cell? ⟨g5, 3, none⟩ = some (.int .i64 x.t) ∧ w'.cell? ⟨g5, 4, none⟩ = some (.int .i64 x.s) ∧ w'.cell? ⟨g5, 5, none⟩ = some (.int .i64 x.g)) ∧ (w'.cell? ⟨b, off + k * 5, none⟩ = some (.int .i64 ki) ∧ w'.cell? ⟨b, off + k * 5 + 1, none⟩ = some (.int .i64 ti) ∧ w'.cell? ⟨b, off + k * 5 + 2, none⟩ = some (.int .i64 no) ∧ w'.cell? ⟨b, off + k * 5 + 3, none⟩ = some (.int .i64 si) ∧ w'.cell? ⟨b, off + k * 5 + 4, none⟩ = some (.bool fu)) ∧ Below wp.heap.size wp w')
              ((refine HS _ ?_; (first | (with_reducible assumption) | (with_reducible exact Below.drew (by assumption)) | (with_reducible exact bAlloc (by assumption) _) | (with_reducible exact Below.drew (bAlloc (by assumption) _)) | (with_reducible exact bset (by assumption) _ (by first | simp | (simp; omega) | omega) _ _ _ _ _ _))))
              ((go_at_call 12; refine (hstep _).mono ?_; rintro e w7 ⟨rfl, hbb7⟩; have hb7 : Below wp.heap.size wp w7 := Below.trans (b := _) (by (first | (with_reducible assumption) | (with_reducible exact Below.drew (by assumption)) | (with_reducible exact bAlloc (by assumption) _) | (with_reducible exact Below.drew (bAlloc (by assumption) _)))) (hbb7.mono (by first | simp | (simp; omega))); have HB7 := Lib.hid hbb7; (first | (have hZ7 := ((BW.new wp zero 26).drew).kept hbb7; obtain ⟨zl, z0, z1, z2, z3, z4, z5, zf⟩ := hZ7) | skip); clear hbb7))
            all_goals
              go_wp2_with fail
              go_meet
              rename_i hH
              refine ⟨_, rfl, rfl, ?_, hH.2.2⟩
              first
                | with_reducible exact BW.new _ _ _
                | ((with_reducible refine BW.set6 (x := zero) ?_ _); exact BW.kept (BW.drew (BW.new wp zero 26)) HB7.out)
          case rest =>
            obtain ⟨gv, rfl, rfl, hV, hb⟩ := hcut
            obtain ⟨w5, rfl⟩ : ∃ w5 : World, w5 = wc := ⟨_, rfl⟩
            have hX5 := hXp.kept hb
            obtain ⟨lv, v0, v1, v2, v3, v4, v5, vf⟩ := id hV
            obtain ⟨lx, a0', a1', a2', a3', a4', a5', af⟩ := id hX5
            clear hstep D0 D1 D2 D3 D4
            go_upto_region 6 with (fail)
            clear lv v0 v1 v2 v3 v4 v5 vf lx a0' a1' a2' a3' a4' a5' af
            obtain ⟨w8, hW8⟩ : ∃ W, ((((((w5.setCell ⟨g5, 0, none⟩ (.int .i64 y.d)).setCell ⟨g5, 1, none⟩ (.int .i64 y.m)).setCell ⟨g5, 2, none⟩ (.int .i64 y.c)).setCell ⟨g5, 3, none⟩ (.int .i64 y.t)).setCell ⟨g5, 4, none⟩ (.int .i64 y.s)).setCell ⟨g5, 5, none⟩ (.int .i64 y.g)) = W := ⟨_, rfl⟩
            rw [hW8]
            have hX8 : BW w8 g5 y := hW8 ▸ BW.set6 hX5 y
            have hb8 : Below g5 wp w8 := hW8 ▸ bset (hb.mono (Nat.le_of_lt hXp.lt)) _ (Nat.le_refl _) _ _ _ _ _ _
            have HT8 := Lib.hid (oldcellB HTp.out hb8 hg)
            have hB8 : Below w.heap.size w w8 := hBp.trans (hb8.mono (Nat.le_of_lt hg))
            clear hW8 hb8 hX5 hV hb
            go_wp2_with fail
            exact ⟨⟨k + 1, y, by omega, by omega, by go_num, HOY.out, HYD.out, hX8, HT8.out, hB8⟩, by simp [intOf]; omega⟩
        · have d2 : decide (k < len) = false := decide_eq_false hl2
          go_wp2_with fail
          exact ⟨⟨k + 1, x, by omega, by omega, by go_num, HOX.out, HXD.out, hXp, HTp.out, hBp⟩, by simp [intOf]; omega⟩
    · have hc : ¬ (k ≤ len) ∨ (k ≤ len ∧ k = 101) := by omega
      clear hlt
      rcases hc with hc | ⟨hc, h101⟩
      · have d1 : decide (k ≤ len) = false := decide_eq_false hc
        clear hc
        go_wp2_with fail
        go_ret
        exact ⟨rfl, hB⟩
      · have d1 : decide (k ≤ len) = true := decide_eq_true hc
        subst h101
        go_wp2_with fail
        go_ret
        exact ⟨rfl, hB⟩
end Go.Proofs.Ytcjhankepchioaa
