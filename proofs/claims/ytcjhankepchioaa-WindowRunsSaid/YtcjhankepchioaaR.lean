/-
  The walk of WindowIdle.
-/
import Derived.Test.YtcjhankepchioaaQ
namespace Go.Proofs.Ytcjhankepchioaa
open Go.RowKit (wrap32 wrap64)
open Go.RowKit
set_option linter.unusedVariables false
set_option linter.unusedSimpArgs false

theorem BW.drew {W : World} {p : Nat} {x : Win} (h : BW W p x) : BW W.drew p x := Bx.drew h
theorem Dos.kept {W w' : World} {A : Option Addr} {n : Nat} (h : Dos W A n) (hb : Below W.heap.size W w') : Dos w' A n := fun i hi => by
  obtain ⟨b, off, ki, ti, no, si, fu, hA, hl, c0, c1, c2, c3, c4⟩ := h i hi
  exact ⟨b, off, ki, ti, no, si, fu, hA, Nat.lt_of_lt_of_le hl hb.size, oldcell c0 hb hl, oldcell c1 hb hl, oldcell c2 hb hl, oldcell c3 hb hl, oldcell c4 hb hl⟩
/-- The packet of Idle. -/
structure Two (W : World) (g : Nat) (p q : Int) : Prop where
  lt : g < W.heap.size
  c0 : W.cell? ⟨g, 0, none⟩ = some (.int .i64 p)
  c1 : W.cell? ⟨g, 1, none⟩ = some (.int .i64 q)
theorem Two.kept {W w' : World} {g : Nat} {p q : Int} (h : Two W g p q) (hb : Below W.heap.size W w') : Two w' g p q := ⟨Nat.lt_of_lt_of_le h.lt hb.size, oldcell h.c0 hb h.lt, oldcell h.c1 hb h.lt⟩
theorem Two.keptB {W w' : World} {g n : Nat} {p q : Int} (h : Two W g p q) (hb : Below n W w') (hg : g < n) : Two w' g p q := ⟨Nat.lt_of_lt_of_le h.lt hb.size, oldcellB h.c0 hb hg, oldcellB h.c1 hb hg⟩

/-- A packet in its box. -/
structure Pk (W : World) (g : Nat) (t s : Int) : Prop where
  lt : g < W.heap.size
  c0 : W.cell? ⟨g, 0, none⟩ = some (.int .i64 0)
  c1 : W.cell? ⟨g, 1, none⟩ = some (.int .i64 t)
  c2 : W.cell? ⟨g, 2, none⟩ = some (.int .i64 s)
  c3 : W.cell? ⟨g, 3, none⟩ = some (.bool false)
  c4 : W.cell? ⟨g, 4, none⟩ = some (.bool false)
  c5 : W.cell? ⟨g, 5, none⟩ = some (.bool false)
theorem Pk.kept {W w' : World} {g : Nat} {p q : Int} (h : Pk W g p q) (hb : Below W.heap.size W w') : Pk w' g p q := ⟨Nat.lt_of_lt_of_le h.lt hb.size, oldcell h.c0 hb h.lt, oldcell h.c1 hb h.lt, oldcell h.c2 hb h.lt, oldcell h.c3 hb h.lt, oldcell h.c4 hb h.lt, oldcell h.c5 hb h.lt⟩
theorem Pk.drew {W : World} {g : Nat} {p q : Int} (h : Pk W g p q) : Pk W.drew g p q := ⟨h.lt, h.c0, h.c1, h.c2, h.c3, h.c4, h.c5⟩
theorem Pk.new (W : World) (t s : Int) : Pk (W.alloc (.cells #[.int .i64 0, .int .i64 t, .int .i64 s, .bool false, .bool false, .bool false] 34)) W.heap.size t s := ⟨by simp, by simp, by simp, by simp, by simp, by simp, by simp⟩

set_option maxRecDepth 100000 in
set_option maxHeartbeats 40000000 in
theorem idle_any (x0 x1 x2 p q : Int) (A : Option Addr) (len cap : Nat) (w : World) (hD : Dos w A len) (hl0 : len ≤ 9223372036854775807) :
    Calls Try.prog 3 #[.agg #[.int .i64 x0, .int .i64 x1, .int .i64 x2], .slice A len cap, .agg #[.int .i64 p, .int .i64 q]] w fun e w' => e = .returned (.bool true) ∧ Below w.heap.size w w' := by
  obtain ⟨da, fi, mo, hm, hda, hmade⟩ := made_any x0 x1 x2
  clear hda
  obtain ⟨t, HT, t0, t1⟩ := name_mod p 9007199254740992 (by omega)
  obtain ⟨s, HSS, s0, s1⟩ := name_mod q 65535 (by omega)
  have HO : Hid (Ok (first da fi mo)) := first_ok da fi mo (by omega) (by omega) (by omega) (by omega) (by omega)
  have qe : ∀ (d m c t s g : Int) (w : World), (binOp .eql 26 (.agg #[.int .i64 d, .int .i64 m, .int .i64 c, .int .i64 t, .int .i64 s, .int .i64 g]) (.agg #[.int .i64 d, .int .i64 m, .int .i64 c, .int .i64 t, .int .i64 s, .int .i64 g])).run Try.prog w = .ok (.bool true) w := fun d m c t s g w => eql_26 d m c t s g w
  have HD := Lib.hid hD
  clear hD
  go_enter Try.func3, Try.ntmps3
  go_wp2_with fail
  refine (hmade _).mono ?_
  rintro e w1 ⟨rfl, hb1⟩
  have HM := Lib.hid hmade
  clear hmade
  have hP1 : Two w1 (w.heap.size + 1) p q := Two.kept ⟨by simp, by simp, by simp⟩ hb1
  have hB1 : Below w.heap.size w w1 := (((Below.refl _ w).alloc (Nat.le_refl _) _).alloc (by simp) _).trans (hb1.mono (by simp <;> omega))
  have hD1 : Dos w1 A len := HD.out.kept hB1
  have z1 := hB1.size
  clear hb1
  go_upto_region 2 with (fail)
  obtain ⟨W2, hW2⟩ : ∃ W, w1.alloc (.cells #[.int .i64 da, .int .i64 mo, .int .i64 fi, .int .i64 (-1), .int .i64 (-1), .int .i64 0] 26) = W := ⟨_, rfl⟩
  rw [hW2]
  have hX2 : BW W2 w1.heap.size (first da fi mo) := hW2 ▸ BW.new w1 (first da fi mo) 26
  have hP2 : Two W2 (w.heap.size + 1) p q := hW2 ▸ hP1.kept ((Below.refl _ _).alloc (Nat.le_refl _) _)
  have hD2 : Dos W2 A len := hW2 ▸ hD1.kept ((Below.refl _ _).alloc (Nat.le_refl _) _)
  have hB2 : Below w.heap.size w W2 := hW2 ▸ hB1.alloc z1 _
  have hpl : w.heap.size + 1 < w1.heap.size := hP1.lt
  clear hW2 hP1 hD1 hB1
  go_wp2_with fail
  go_loopw [8] (fun i wr => ∃ (k : Nat) (x : Win), k ≤ 60 ∧ k ≤ len ∧ i = .int .i64 k ∧ Ok x ∧ BW wr w1.heap.size x ∧ Two wr (w.heap.size + 1) p q ∧ Dos wr A len ∧ Below w.heap.size w wr) (fun i _ => 61 - (intOf i).toNat)
  case atStart => exact ⟨0, first da fi mo, by omega, by omega, rfl, HO.out, hX2, hP2, hD2, hB2⟩
  case round =>
    obtain ⟨k, x, hk, hkl, rfl, hox, hX, hP, hDD, hB⟩ := hrel
    obtain ⟨wo, rfl⟩ : ∃ wo : World, wo = wr := ⟨_, rfl⟩
    have z := hB.size
    have HOX := Lib.hid hox
    have HDD := Lib.hid hDD
    clear hX2 hP2 hD2 hB2 HO hox hDD
    by_cases hlt : k < len ∧ k < 60
    · obtain ⟨hlt, h60⟩ := hlt
      obtain ⟨b, off, ki, ti, no, si, fu, rfl, hbl, c0, c1, c2, c3, c4⟩ := HDD.out k hlt
      have D0 := Lib.hid c0
      have D1 := Lib.hid c1
      have D2 := Lib.hid c2
      have D3 := Lib.hid c3
      have D4 := Lib.hid c4
      clear c0 c1 c2 c3 c4
      have i0 : (0 : Int) ≤ (k : Int) := by omega
      have i1 : (k : Int) < (len : Int) := by omega
      obtain ⟨y, hoy, hyd, hym, hstep⟩ := step_any x HOX.out ki ti no si fu
      have HOY := Lib.hid hoy
      clear hyd hym
      clear hoy
      go_wp2_with fail
      go_cut [9, 10] from 18 to 39 (fun sv so wx => ∃ gv, sv = .pointer (some ⟨gv, 0, none⟩) ∧ so = .bool true ∧ BW wx gv y ∧ Below wo.heap.size wo wx)
      case first =>
        have HS : ∀ w', Below wo.heap.size wo w' → (w'.cell? ⟨w1.heap.size, 0, none⟩ = some (.int .i64 x.d) ∧ w'.cell? ⟨w1.heap.size, 1, none⟩ = some (.int .i64 x.m) ∧ w'.cell? ⟨w1.heap.size, 2, none⟩ = some (.int .i64 x.c) ∧ w'.cell? ⟨w1.heap.size, 3, none⟩ = some (.int .i64 x.t) ∧ w'.cell? ⟨w1.heap.size, 4, none⟩ = some (.int .i64 x.s) ∧ w'.cell? ⟨w1.heap.size, 5, none⟩ = some (.int .i64 x.g)) ∧ (w'.cell? ⟨b, off + k * 5, none⟩ = some (.int .i64 ki) ∧ w'.cell? ⟨b, off + k * 5 + 1, none⟩ = some (.int .i64 ti) ∧ w'.cell? ⟨b, off + k * 5 + 2, none⟩ = some (.int .i64 no) ∧ w'.cell? ⟨b, off + k * 5 + 3, none⟩ = some (.int .i64 si) ∧ w'.cell? ⟨b, off + k * 5 + 4, none⟩ = some (.bool fu)) ∧ Below wo.heap.size wo w' := fun w' hb => by
          obtain ⟨_, k0, k1, k2, k3, k4, k5, kf⟩ := hX.kept hb
          exact ⟨⟨k0, k1, k2, k3, k4, k5⟩, ⟨oldcell D0.out hb hbl, oldcell D1.out hb hbl, oldcell D2.out hb hbl, oldcell D3.out hb hbl, oldcell D4.out hb hbl⟩, hb⟩
        have hbR := Below.refl wo.heap.size wo
        go_region_held3 (fun w' => (w'.cell? ⟨w1.heap.size, 0, none⟩ = some (.int .i64 x.d) ∧ w'.cell? ⟨w1.heap.size, 1, none⟩ = some (.int .i64 x.m) ∧ w'.cell? ⟨w1.heap.size, 2, none⟩ = some (.int .i64 x.c) ∧ w'.cell? ⟨w1.heap.size, 3, none⟩ = some (.int .i64 x.t) ∧ w'.cell? ⟨w1.heap.size, 4, none⟩ = some (.int .i64 x.s) ∧ w'.cell? ⟨w1.heap.size, 5, none⟩ = some (.int .i64 x.g)) ∧ (w'.cell? ⟨b, off + k * 5, none⟩ = some (.int .i64 ki) ∧ w'.cell? ⟨b, off + k * 5 + 1, none⟩ = some (.int .i64 ti) ∧ w'.cell? ⟨b, off + k * 5 + 2, none⟩ = some (.int .i64 no) ∧ w'.cell? ⟨b, off + k * 5 + 3, none⟩ = some (.int .i64 si) ∧ w'.cell? ⟨b, off + k * 5 + 4, none⟩ = some (.bool fu)) ∧ Below wo.heap.size wo w')
          ((refine HS _ ?_; (first | (with_reducible assumption) | (with_reducible exact Below.drew (by assumption)) | (with_reducible exact bAlloc (by assumption) _) | (with_reducible exact Below.drew (bAlloc (by assumption) _)) | (with_reducible exact bset (by assumption) _ (by first | simp | (simp; omega) | omega) _ _ _ _ _ _))))
          ((go_at_call 12; refine (hstep _).mono ?_; rintro e w7 ⟨rfl, hbb7⟩; have hb7 : Below wo.heap.size wo w7 := Below.trans (b := _) (by (first | (with_reducible assumption) | (with_reducible exact Below.drew (by assumption)) | (with_reducible exact bAlloc (by assumption) _) | (with_reducible exact Below.drew (bAlloc (by assumption) _)))) (hbb7.mono (by first | simp | (simp; omega))); have HB7 := Lib.hid hbb7; (first | (have hZ7 := ((BW.new wo zero 26).drew).kept hbb7; obtain ⟨zl, z0, z1, z2, z3, z4, z5, zf⟩ := hZ7) | skip); clear hbb7))
        all_goals
          go_wp2_with fail
          go_meet
          rename_i hH
          refine ⟨_, rfl, rfl, ?_, hH.2.2⟩
          first
            | with_reducible exact BW.new _ _ _
            | ((with_reducible refine BW.set6 (x := zero) ?_ _); exact BW.kept (BW.drew (BW.new wo zero 26)) HB7.out)
      case rest =>
        obtain ⟨gv, rfl, rfl, hV, hb⟩ := hcut
        obtain ⟨w5, rfl⟩ : ∃ w5 : World, w5 = wc := ⟨_, rfl⟩
        have hX5 := hX.kept hb
        obtain ⟨lv, v0, v1, v2, v3, v4, v5, vf⟩ := id hV
        obtain ⟨lx, a0, a1, a2, a3, a4, a5, af⟩ := id hX5
        clear hstep D0 D1 D2 D3 D4
        go_upto_region 4 with (fail)
        clear lv v0 v1 v2 v3 v4 v5 vf lx a0 a1 a2 a3 a4 a5 af
        obtain ⟨w8, hW8⟩ : ∃ W, ((((((w5.setCell ⟨w1.heap.size, 0, none⟩ (.int .i64 y.d)).setCell ⟨w1.heap.size, 1, none⟩ (.int .i64 y.m)).setCell ⟨w1.heap.size, 2, none⟩ (.int .i64 y.c)).setCell ⟨w1.heap.size, 3, none⟩ (.int .i64 y.t)).setCell ⟨w1.heap.size, 4, none⟩ (.int .i64 y.s)).setCell ⟨w1.heap.size, 5, none⟩ (.int .i64 y.g)) = W := ⟨_, rfl⟩
        rw [hW8]
        have hX8 : BW w8 w1.heap.size y := hW8 ▸ BW.set6 hX5 y
        have hb8 : Below w1.heap.size wo w8 := hW8 ▸ bset (hb.mono (Nat.le_of_lt hX.lt)) _ (Nat.le_refl _) _ _ _ _ _ _
        have hP8 : Two w8 (w.heap.size + 1) p q := hP.keptB hb8 hpl
        have hB8 : Below w.heap.size w w8 := hB.trans (hb8.mono z1)
        have hD8 : Dos w8 (some ⟨b, off, none⟩) len := HD.out.kept hB8
        clear hW8 hb8 hX5 hV hb
        have HD8 := Lib.hid hD8
        clear hD8
        go_wp2_with fail
        exact ⟨⟨k + 1, y, by omega, by omega, by go_num, HOY.out, hX8, hP8, HD8.out, hB8⟩, by simp [intOf]; omega⟩
    · have hc : ¬ (k < len) ∨ (k < len ∧ k = 60) := by omega
      have hgr := acked_grows HOX.out t (1 + s) true (by omega)
      have had := acked_d x t (1 + s) true
      have R1 : Hid (acked x t (1 + s) false = x) := acked_idle x t (1 + s)
      obtain ⟨r, HR⟩ : ∃ r, Hid (acked x t (1 + s) true = r) := ⟨_, rfl⟩
      rw [HR.out] at hgr had
      obtain ⟨had3, had4, had1, had2⟩ := had
      clear had3 had4
      have HD9 := Lib.hid had1
      have HE9 := Lib.hid had2
      have HG9 := Lib.hid hgr
      clear had1 had2 hgr hlt
      have e1 : IntKind.i64.wrap (1 + s) = 1 + s := IntWalk.i64_in _ (by omega)
      obtain ⟨lp, p0, p1⟩ := id hP
      rcases hc with hc | ⟨hc, h60⟩
      · have d1 : decide (k < len) = false := decide_eq_false hc
        clear hc
        go_wp2_with fail
        go_cut [11] from 40 to 47 (fun s11 wx => ∃ gp, s11 = .pointer (some ⟨gp, 0, none⟩) ∧ Pk wx gp t (1 + s) ∧ Below wo.heap.size wo wx)
        case first =>
          have HS : ∀ w', Below wo.heap.size wo w' → (w'.cell? ⟨w.heap.size + 1, 0, none⟩ = some (.int .i64 p) ∧ w'.cell? ⟨w.heap.size + 1, 1, none⟩ = some (.int .i64 q)) ∧ Below wo.heap.size wo w' := fun w' hb => by
            obtain ⟨_, k0, k1⟩ := hP.kept hb
            exact ⟨⟨k0, k1⟩, hb⟩
          have hbR := Below.refl wo.heap.size wo
          go_region_held3 (fun w' => (w'.cell? ⟨w.heap.size + 1, 0, none⟩ = some (.int .i64 p) ∧ w'.cell? ⟨w.heap.size + 1, 1, none⟩ = some (.int .i64 q)) ∧ Below wo.heap.size wo w')
            ((refine HS _ ?_; (first | (with_reducible assumption) | (with_reducible exact Below.drew (by assumption)) | (with_reducible exact bAlloc (by assumption) _) | (with_reducible exact Below.drew (bAlloc (by assumption) _)) | (with_reducible exact bset (by assumption) _ (by first | simp | (simp; omega) | omega) _ _ _ _ _ _))))
            ((go_at_call 13; refine (bring_any _ _ _ (by omega) (by omega)).mono ?_; rintro e w' ⟨rfl, rfl⟩; (first | rw [HT.out] | rw [HSS.out])))
          all_goals
            go_wp2_with fail
            go_meet
            rename_i hH
            refine ⟨_, rfl, ?_, hH.2⟩
            first
              | with_reducible exact Pk.new _ _ _
              | with_reducible exact Pk.drew (Pk.new _ _ _)
              | with_reducible exact Pk.drew (Pk.drew (Pk.new _ _ _))
        case rest =>
          obtain ⟨gp, rfl, hK, hb⟩ := hcut
          obtain ⟨w5, rfl⟩ : ∃ w5 : World, w5 = wc := ⟨_, rfl⟩
          have hX5 := hX.kept hb
          have hB5 := hB.trans (hb.mono z)
          have z5 := hB5.size
          clear hb lp p0 p1 hP hX hB d1 e1
          obtain ⟨lx, a0, a1, a2, a3, a4, a5, af⟩ := id hX5
          obtain ⟨lk, c0, c1, c2, c3, c4, c5⟩ := id hK
          go_wp2_with fail
          refine (wacked_ok x HOX.out 0 t (1 + s) false false false false x _ (by omega) (by omega) (by omega) R1).mono ?_
          rintro e w6 ⟨rfl, hb6⟩
          clear lx a0 a1 a2 a3 a4 a5 af lk c0 c1 c2 c3 c4 c5
          have hX6 := hX5.kept hb6
          have hK6 := hK.kept hb6
          have hB6 := hB5.trans (hb6.mono z5)
          have z6 := hB6.size
          clear hX5 hK hB5 hb6
          go_upto_region 11 with (fail)
          obtain ⟨w7, hW7⟩ : ∃ W, w6.alloc (.cells #[.int .i64 x.d, .int .i64 x.m, .int .i64 x.c, .int .i64 x.t, .int .i64 x.s, .int .i64 x.g] 26) = W := ⟨_, rfl⟩
          rw [hW7]
          have hX7 : BW w7 w1.heap.size x := hW7 ▸ hX6.alloc _
          have hK7 : Pk w7 gp t (1 + s) := hW7 ▸ hK6.kept ((Below.refl _ _).alloc (Nat.le_refl _) _)
          have hA7 : BW w7 w6.heap.size x := hW7 ▸ BW.new w6 x 26
          have hB7 : Below w.heap.size w w7 := hW7 ▸ hB6.alloc z6 _
          have z7 := hB7.size
          clear hX6 hK6 hB6 hW7
          obtain ⟨lx, a0, a1, a2, a3, a4, a5, af⟩ := id hX7
          obtain ⟨lk, c0, c1, c2, c3, c4, c5⟩ := id hK7
          go_wp2_with fail
          refine (wacked_ok x HOX.out 0 t (1 + s) false false false true r _ (by omega) (by omega) (by omega) HR).mono ?_
          rintro e w8 ⟨rfl, hb8⟩
          clear lx a0 a1 a2 a3 a4 a5 af lk c0 c1 c2 c3 c4 c5
          have hX8 := hX7.kept hb8
          have hA8 := hA7.kept hb8
          have hB8 := hB7.trans (hb8.mono z7)
          have z8 := hB8.size
          clear hX7 hA7 hK7 hB7 hb8
          go_upto_region 12 with (fail)
          obtain ⟨w9, hW9⟩ : ∃ W, w8.alloc (.cells #[.int .i64 r.d, .int .i64 r.m, .int .i64 r.c, .int .i64 r.t, .int .i64 r.s, .int .i64 r.g] 26) = W := ⟨_, rfl⟩
          rw [hW9]
          have hX9 : BW w9 w1.heap.size x := hW9 ▸ hX8.alloc _
          have hA9 : BW w9 w6.heap.size x := hW9 ▸ hA8.alloc _
          have hR9 : BW w9 w8.heap.size r := hW9 ▸ BW.new w8 r 26
          have hB9 : Below w.heap.size w w9 := hW9 ▸ hB8.alloc z8 _
          have z9 := hB9.size
          clear hX8 hA8 hB8 hW9
          obtain ⟨lx, a0, a1, a2, a3, a4, a5, af⟩ := id hX9
          obtain ⟨la, b0, b1, b2, b3, b4, b5, bf⟩ := id hA9
          obtain ⟨lr, r0, r1, r2, r3, r4, r5, rf⟩ := id hR9
          have g1 := HD9.out
          have g2 := HE9.out
          have g3 := HG9.out
          go_wp2_with fail
          refine (works_ok _).mono ?_
          rintro e w10 ⟨rfl, hb10⟩
          clear g1 g2 g3
          go_wp2_with fail
          go_ret
          exact ⟨rfl, hB9.trans (hb10.mono z9)⟩
      · have d1 : decide (k < len) = true := decide_eq_true hc
        subst h60
        go_wp2_with fail
        go_cut [11] from 40 to 47 (fun s11 wx => ∃ gp, s11 = .pointer (some ⟨gp, 0, none⟩) ∧ Pk wx gp t (1 + s) ∧ Below wo.heap.size wo wx)
        case first =>
          have HS : ∀ w', Below wo.heap.size wo w' → (w'.cell? ⟨w.heap.size + 1, 0, none⟩ = some (.int .i64 p) ∧ w'.cell? ⟨w.heap.size + 1, 1, none⟩ = some (.int .i64 q)) ∧ Below wo.heap.size wo w' := fun w' hb => by
            obtain ⟨_, k0, k1⟩ := hP.kept hb
            exact ⟨⟨k0, k1⟩, hb⟩
          have hbR := Below.refl wo.heap.size wo
          go_region_held3 (fun w' => (w'.cell? ⟨w.heap.size + 1, 0, none⟩ = some (.int .i64 p) ∧ w'.cell? ⟨w.heap.size + 1, 1, none⟩ = some (.int .i64 q)) ∧ Below wo.heap.size wo w')
            ((refine HS _ ?_; (first | (with_reducible assumption) | (with_reducible exact Below.drew (by assumption)) | (with_reducible exact bAlloc (by assumption) _) | (with_reducible exact Below.drew (bAlloc (by assumption) _)) | (with_reducible exact bset (by assumption) _ (by first | simp | (simp; omega) | omega) _ _ _ _ _ _))))
            ((go_at_call 13; refine (bring_any _ _ _ (by omega) (by omega)).mono ?_; rintro e w' ⟨rfl, rfl⟩; (first | rw [HT.out] | rw [HSS.out])))
          all_goals
            go_wp2_with fail
            go_meet
            rename_i hH
            refine ⟨_, rfl, ?_, hH.2⟩
            first
              | with_reducible exact Pk.new _ _ _
              | with_reducible exact Pk.drew (Pk.new _ _ _)
              | with_reducible exact Pk.drew (Pk.drew (Pk.new _ _ _))
        case rest =>
          obtain ⟨gp, rfl, hK, hb⟩ := hcut
          obtain ⟨w5, rfl⟩ : ∃ w5 : World, w5 = wc := ⟨_, rfl⟩
          have hX5 := hX.kept hb
          have hB5 := hB.trans (hb.mono z)
          have z5 := hB5.size
          clear hb lp p0 p1 hP hX hB d1 e1
          obtain ⟨lx, a0, a1, a2, a3, a4, a5, af⟩ := id hX5
          obtain ⟨lk, c0, c1, c2, c3, c4, c5⟩ := id hK
          go_wp2_with fail
          refine (wacked_ok x HOX.out 0 t (1 + s) false false false false x _ (by omega) (by omega) (by omega) R1).mono ?_
          rintro e w6 ⟨rfl, hb6⟩
          clear lx a0 a1 a2 a3 a4 a5 af lk c0 c1 c2 c3 c4 c5
          have hX6 := hX5.kept hb6
          have hK6 := hK.kept hb6
          have hB6 := hB5.trans (hb6.mono z5)
          have z6 := hB6.size
          clear hX5 hK hB5 hb6
          go_upto_region 11 with (fail)
          obtain ⟨w7, hW7⟩ : ∃ W, w6.alloc (.cells #[.int .i64 x.d, .int .i64 x.m, .int .i64 x.c, .int .i64 x.t, .int .i64 x.s, .int .i64 x.g] 26) = W := ⟨_, rfl⟩
          rw [hW7]
          have hX7 : BW w7 w1.heap.size x := hW7 ▸ hX6.alloc _
          have hK7 : Pk w7 gp t (1 + s) := hW7 ▸ hK6.kept ((Below.refl _ _).alloc (Nat.le_refl _) _)
          have hA7 : BW w7 w6.heap.size x := hW7 ▸ BW.new w6 x 26
          have hB7 : Below w.heap.size w w7 := hW7 ▸ hB6.alloc z6 _
          have z7 := hB7.size
          clear hX6 hK6 hB6 hW7
          obtain ⟨lx, a0, a1, a2, a3, a4, a5, af⟩ := id hX7
          obtain ⟨lk, c0, c1, c2, c3, c4, c5⟩ := id hK7
          go_wp2_with fail
          refine (wacked_ok x HOX.out 0 t (1 + s) false false false true r _ (by omega) (by omega) (by omega) HR).mono ?_
          rintro e w8 ⟨rfl, hb8⟩
          clear lx a0 a1 a2 a3 a4 a5 af lk c0 c1 c2 c3 c4 c5
          have hX8 := hX7.kept hb8
          have hA8 := hA7.kept hb8
          have hB8 := hB7.trans (hb8.mono z7)
          have z8 := hB8.size
          clear hX7 hA7 hK7 hB7 hb8
          go_upto_region 12 with (fail)
          obtain ⟨w9, hW9⟩ : ∃ W, w8.alloc (.cells #[.int .i64 r.d, .int .i64 r.m, .int .i64 r.c, .int .i64 r.t, .int .i64 r.s, .int .i64 r.g] 26) = W := ⟨_, rfl⟩
          rw [hW9]
          have hX9 : BW w9 w1.heap.size x := hW9 ▸ hX8.alloc _
          have hA9 : BW w9 w6.heap.size x := hW9 ▸ hA8.alloc _
          have hR9 : BW w9 w8.heap.size r := hW9 ▸ BW.new w8 r 26
          have hB9 : Below w.heap.size w w9 := hW9 ▸ hB8.alloc z8 _
          have z9 := hB9.size
          clear hX8 hA8 hB8 hW9
          obtain ⟨lx, a0, a1, a2, a3, a4, a5, af⟩ := id hX9
          obtain ⟨la, b0, b1, b2, b3, b4, b5, bf⟩ := id hA9
          obtain ⟨lr, r0, r1, r2, r3, r4, r5, rf⟩ := id hR9
          have g1 := HD9.out
          have g2 := HE9.out
          have g3 := HG9.out
          go_wp2_with fail
          refine (works_ok _).mono ?_
          rintro e w10 ⟨rfl, hb10⟩
          clear g1 g2 g3
          go_wp2_with fail
          go_ret
          exact ⟨rfl, hB9.trans (hb10.mono z9)⟩
end Go.Proofs.Ytcjhankepchioaa
