/-
  The walk of WindowOnce.
-/
import Derived.Test.YtcjhankepchioaaR
namespace Go.Proofs.Ytcjhankepchioaa
open Go.RowKit (wrap32 wrap64)
open Go.RowKit
set_option linter.unusedVariables false
set_option linter.unusedSimpArgs false

/-- A row of pairs that came in. -/
def Pairs (w : World) (A : Option Addr) (n : Nat) : Prop := ∀ i, i < n → ∃ (b off : Nat) (p q : Int), A = some ⟨b, off, none⟩ ∧ b < w.heap.size ∧
  w.cell? ⟨b, off + i * 2, none⟩ = some (.int .i64 p) ∧ w.cell? ⟨b, off + i * 2 + 1, none⟩ = some (.int .i64 q)
theorem Pairs.kept {W w' : World} {A : Option Addr} {n m : Nat} (h : Pairs W A n) (hb : Below m W w') (hm : W.heap.size ≤ m := by exact Nat.le_refl _) : Pairs w' A n := fun i hi => by
  obtain ⟨b, off, p, q, hA, hl, c0, c1⟩ := h i hi
  exact ⟨b, off, p, q, hA, Nat.lt_of_lt_of_le hl hb.size, oldcellB c0 hb (by omega), oldcellB c1 hb (by omega)⟩

set_option maxRecDepth 100000 in
set_option maxHeartbeats 40000000 in
theorem once_any (x0 x1 x2 : Int) (A : Option Addr) (len cap : Nat) (A2 : Option Addr) (len2 cap2 : Nat) (w : World) (hD : Dos w A len) (hl0 : len ≤ 9223372036854775807) (hP : Pairs w A2 len2) (hl2 : len2 ≤ 9223372036854775807) :
    Calls Try.prog 8 #[.agg #[.int .i64 x0, .int .i64 x1, .int .i64 x2], .slice A len cap, .slice A2 len2 cap2] w fun e w' => e = .returned (.bool true) ∧ Below w.heap.size w w' := by
  obtain ⟨da, fi, mo, hm, hda, hmade⟩ := made_any x0 x1 x2
  clear hda
  have HO : Hid (Ok (first da fi mo)) := first_ok da fi mo (by omega) (by omega) (by omega) (by omega) (by omega)
  have qe : ∀ (d m c t s g : Int) (w : World), (binOp .eql 26 (.agg #[.int .i64 d, .int .i64 m, .int .i64 c, .int .i64 t, .int .i64 s, .int .i64 g]) (.agg #[.int .i64 d, .int .i64 m, .int .i64 c, .int .i64 t, .int .i64 s, .int .i64 g])).run Try.prog w = .ok (.bool true) w := fun d m c t s g w => eql_26 d m c t s g w
  have qn : ∀ (d m c t s g : Int) (w : World), (binOp .neq 26 (.agg #[.int .i64 d, .int .i64 m, .int .i64 c, .int .i64 t, .int .i64 s, .int .i64 g]) (.agg #[.int .i64 d, .int .i64 m, .int .i64 c, .int .i64 t, .int .i64 s, .int .i64 g])).run Try.prog w = .ok (.bool false) w := fun d m c t s g w => neq_26 d m c t s g w
  have HD := Lib.hid hD
  have HP := Lib.hid hP
  clear hD hP
  go_enter Try.func8, Try.ntmps8
  go_wp2_with fail
  refine (hmade _).mono ?_
  rintro e w1 ⟨rfl, hb1⟩
  clear hmade
  have hB1 : Below w.heap.size w w1 := ((Below.refl _ w).alloc (Nat.le_refl _) _).trans (hb1.mono (by simp <;> omega))
  have z1 := hB1.size
  clear hb1
  go_upto_region 2 with (fail)
  obtain ⟨W2, hW2⟩ : ∃ W, w1.alloc (.cells #[.int .i64 da, .int .i64 mo, .int .i64 fi, .int .i64 (-1), .int .i64 (-1), .int .i64 0] 26) = W := ⟨_, rfl⟩
  rw [hW2]
  have hX2 : BW W2 w1.heap.size (first da fi mo) := hW2 ▸ BW.new w1 (first da fi mo) 26
  have hB2 : Below w.heap.size w W2 := hW2 ▸ hB1.alloc z1 _
  clear hW2 hB1
  go_wp2_with fail
  go_loopw [8] (fun i wr => ∃ (k : Nat) (x : Win), k ≤ 60 ∧ k ≤ len ∧ i = .int .i64 k ∧ Ok x ∧ BW wr w1.heap.size x ∧ Below w.heap.size w wr) (fun i _ => 61 - (intOf i).toNat)
  case atStart => exact ⟨0, first da fi mo, by omega, by omega, rfl, HO.out, hX2, hB2⟩
  case round =>
    obtain ⟨k, x, hk, hkl, rfl, hox, hX, hB⟩ := hrel
    obtain ⟨wo, rfl⟩ : ∃ wo : World, wo = wr := ⟨_, rfl⟩
    have z := hB.size
    have HOX := Lib.hid hox
    have HDD : Hid (Dos wo A len) := HD.out.kept hB
    clear hX2 hB2 HO hox
    by_cases hlt : k < len ∧ k < 60
    · obtain ⟨hlt, h60⟩ := hlt
      obtain ⟨b, off, ki, ti, no, si, fu, rfl, hbl, c0, c1, c2, c3, c4⟩ := HDD.out k hlt
      have D0 := Lib.hid c0
      have D1 := Lib.hid c1
      have D2 := Lib.hid c2
      have D3 := Lib.hid c3
      have D4 := Lib.hid c4
      clear c0 c1 c2 c3 c4
      have i0 : (0 : Int) ≤ (k : Int) := by omega
      have i1 : (k : Int) < (len : Int) := by omega
      obtain ⟨y, hoy, hyd, hym, hstep⟩ := step_any x HOX.out ki ti no si fu
      have HOY := Lib.hid hoy
      clear hyd hym
      clear hoy
      go_wp2_with fail
      go_cut [9, 10] from 17 to 38 (fun sv so wx => ∃ gv, sv = .pointer (some ⟨gv, 0, none⟩) ∧ so = .bool true ∧ BW wx gv y ∧ Below wo.heap.size wo wx)
      case first =>
        have HS : ∀ w', Below wo.heap.size wo w' → (w'.cell? ⟨w1.heap.size, 0, none⟩ = some (.int .i64 x.d) ∧ w'.cell? ⟨w1.heap.size, 1, none⟩ = some (.int .i64 x.m) ∧ w'.cell? ⟨w1.heap.size, 2, none⟩ = some (.int .i64 x.c) ∧ w'.cell? ⟨w1.heap.size, 3, none⟩ = some (.int .i64 x.t) ∧ w'.cell? ⟨w1.heap.size, 4, none⟩ = some (.int .i64 x.s) ∧ w'.cell? ⟨w1.heap.size, 5, none⟩ = some (.int .i64 x.g)) ∧ (w'.cell? ⟨b, off + k * 5, none⟩ = some (.int .i64 ki) ∧ w'.cell? ⟨b, off + k * 5 + 1, none⟩ = some (.int .i64 ti) ∧ w'.cell? ⟨b, off + k * 5 + 2, none⟩ = some (.int .i64 no) ∧ w'.cell? ⟨b, off + k * 5 + 3, none⟩ = some (.int .i64 si) ∧ w'.cell? ⟨b, off + k * 5 + 4, none⟩ = some (.bool fu)) ∧ Below wo.heap.size wo w' := fun w' hb => by
          obtain ⟨_, k0, k1, k2, k3, k4, k5, kf⟩ := hX.kept hb
          exact ⟨⟨k0, k1, k2, k3, k4, k5⟩, ⟨oldcell D0.out hb hbl, oldcell D1.out hb hbl, oldcell D2.out hb hbl, oldcell D3.out hb hbl, oldcell D4.out hb hbl⟩, hb⟩
        have hbR := Below.refl wo.heap.size wo
        go_region_held3 (fun w' => (w'.cell? ⟨w1.heap.size, 0, none⟩ = some (.int .i64 x.d) ∧ w'.cell? ⟨w1.heap.size, 1, none⟩ = some (.int .i64 x.m) ∧ w'.cell? ⟨w1.heap.size, 2, none⟩ = some (.int .i64 x.c) ∧ w'.cell? ⟨w1.heap.size, 3, none⟩ = some (.int .i64 x.t) ∧ w'.cell? ⟨w1.heap.size, 4, none⟩ = some (.int .i64 x.s) ∧ w'.cell? ⟨w1.heap.size, 5, none⟩ = some (.int .i64 x.g)) ∧ (w'.cell? ⟨b, off + k * 5, none⟩ = some (.int .i64 ki) ∧ w'.cell? ⟨b, off + k * 5 + 1, none⟩ = some (.int .i64 ti) ∧ w'.cell? ⟨b, off + k * 5 + 2, none⟩ = some (.int .i64 no) ∧ w'.cell? ⟨b, off + k * 5 + 3, none⟩ = some (.int .i64 si) ∧ w'.cell? ⟨b, off + k * 5 + 4, none⟩ = some (.bool fu)) ∧ Below wo.heap.size wo w')
          ((refine HS _ ?_; (first | (with_reducible assumption) | (with_reducible exact Below.drew (by assumption)) | (with_reducible exact bAlloc (by assumption) _) | (with_reducible exact Below.drew (bAlloc (by assumption) _)) | (with_reducible exact bset (by assumption) _ (by first | simp | (simp; omega) | omega) _ _ _ _ _ _))))
          ((go_at_call 12; refine (hstep _).mono ?_; rintro e w7 ⟨rfl, hbb7⟩; have hb7 : Below wo.heap.size wo w7 := Below.trans (b := _) (by (first | (with_reducible assumption) | (with_reducible exact Below.drew (by assumption)) | (with_reducible exact bAlloc (by assumption) _) | (with_reducible exact Below.drew (bAlloc (by assumption) _)))) (hbb7.mono (by first | simp | (simp; omega))); have HB7 := Lib.hid hbb7; (first | (have hZ7 := ((BW.new wo zero 26).drew).kept hbb7; obtain ⟨zl, z0, z1, z2, z3, z4, z5, zf⟩ := hZ7) | skip); clear hbb7))
        all_goals
          go_wp2_with fail
          go_meet
          rename_i hH
          refine ⟨_, rfl, rfl, ?_, hH.2.2⟩
          first
            | with_reducible exact BW.new _ _ _
            | ((with_reducible refine BW.set6 (x := zero) ?_ _); exact BW.kept (BW.drew (BW.new wo zero 26)) HB7.out)
      case rest =>
        obtain ⟨gv, rfl, rfl, hV, hb⟩ := hcut
        obtain ⟨w5, rfl⟩ : ∃ w5 : World, w5 = wc := ⟨_, rfl⟩
        have hX5 := hX.kept hb
        obtain ⟨lv, v0, v1, v2, v3, v4, v5, vf⟩ := id hV
        obtain ⟨lx, a0, a1, a2, a3, a4, a5, af⟩ := id hX5
        clear hstep D0 D1 D2 D3 D4
        go_upto_region 4 with (fail)
        clear lv v0 v1 v2 v3 v4 v5 vf lx a0 a1 a2 a3 a4 a5 af
        obtain ⟨w8, hW8⟩ : ∃ W, ((((((w5.setCell ⟨w1.heap.size, 0, none⟩ (.int .i64 y.d)).setCell ⟨w1.heap.size, 1, none⟩ (.int .i64 y.m)).setCell ⟨w1.heap.size, 2, none⟩ (.int .i64 y.c)).setCell ⟨w1.heap.size, 3, none⟩ (.int .i64 y.t)).setCell ⟨w1.heap.size, 4, none⟩ (.int .i64 y.s)).setCell ⟨w1.heap.size, 5, none⟩ (.int .i64 y.g)) = W := ⟨_, rfl⟩
        rw [hW8]
        have hX8 : BW w8 w1.heap.size y := hW8 ▸ BW.set6 hX5 y
        have hb8 : Below w1.heap.size wo w8 := hW8 ▸ bset (hb.mono (Nat.le_of_lt hX.lt)) _ (Nat.le_refl _) _ _ _ _ _ _
        have hB8 : Below w.heap.size w w8 := hB.trans (hb8.mono z1)
        clear hW8 hb8 hX5 hV hb
        go_wp2_with fail
        exact ⟨⟨k + 1, y, by omega, by omega, by go_num, HOY.out, hX8, hB8⟩, by simp [intOf]; omega⟩
    · have hc : ¬ (k < len) ∨ (k < len ∧ k = 60) := by omega
      clear hlt HDD
      have d1 : Hid (decide (k < len) = true ∧ k = 60 ∨ decide (k < len) = false) := by
        rcases hc with h | ⟨h, h'⟩
        · exact Or.inr (decide_eq_false h)
        · exact Or.inl ⟨decide_eq_true h, h'⟩
      clear hc
      by_cases hl2' : 0 < len2
      · obtain ⟨b, off, p, q, rfl, hbl, c0, c1⟩ := (HP.out.kept hB) 0 hl2'
        obtain ⟨nw, HNW, nw0, nw1⟩ := name_mod p 9007199254740992 (by omega)
        obtain ⟨y, HY⟩ : ∃ y, Hid (bad x 9007199254740991 nw = y) := ⟨_, rfl⟩
        obtain ⟨lx, a0, a1, a2, a3, a4, a5, af⟩ := id hX
        simp only [Nat.zero_mul, Nat.add_zero] at c0
        have l0 : (0 : Int) < (len2 : Int) := by omega
        rcases d1.out with ⟨d2, h60⟩ | d2
        · subst h60
          have d3 : (60 : Int) < (len : Int) := by have := of_decide_eq_true d2; omega
          clear d1
          go_wp2_with fail
          refine (bring_is _ _ nw _ HNW (by omega) (by omega)).mono ?_
          rintro e w' ⟨rfl, rfl⟩
          clear c0 c1
          go_wp2_with fail
          -- now has been read: slot 11 holds nw
          refine (fbad_ok x HOX.out 9007199254740991 nw y (Lib.hid ⟨by omega, by omega⟩) (Lib.hid ⟨nw0, by omega⟩) _ HY).mono ?_
          rintro e w4 ⟨rfl, hb4⟩
          clear lx a0 a1 a2 a3 a4 a5 af
          have hX4 := hX.kept hb4
          have hB4 := hB.trans (hb4.mono z)
          have z4 := hB4.size
          clear hX hB hb4
          go_upto_region 13 with (fail)
          obtain ⟨g12, hg12⟩ : ∃ g, w4.heap.size = g := ⟨_, rfl⟩
          obtain ⟨w5, hW5⟩ : ∃ W, w4.alloc (.cells #[.int .i64 y.d, .int .i64 y.m, .int .i64 y.c, .int .i64 y.t, .int .i64 y.s, .int .i64 y.g] 26) = W := ⟨_, rfl⟩
          rw [hW5, hg12]
          have hX : BW w5 w1.heap.size x := hW5 ▸ hX4.alloc _
          have hY : BW w5 g12 y := hg12 ▸ hW5 ▸ BW.new w4 y 26
          have hB : Below w.heap.size w w5 := hW5 ▸ hB4.alloc z4 _
          have z5 := hB.size
          clear hX4 hB4 hW5 hg12
          obtain ⟨lx, a0, a1, a2, a3, a4, a5, af⟩ := id hX
          obtain ⟨ly, b0, b1, b2, b3, b4, b5, bf⟩ := id hY
          by_cases hs : x.s < 9007199254740991
          · have hbh : Behind x 9007199254740991 := Or.inr hs
            have hye : y = { x with s := nw, t := x.c / 2, c := mx (x.c / 2) (2 * x.d), g := 0 } := by rw [← HY.out]; unfold bad; rw [if_pos hbh]
            have hoy : Hid (Ok y) := by have := bad_ok HOX.out 9007199254740991 nw ⟨nw0, by omega⟩; rw [HY.out] at this; exact this
            have HOY := hoy
            have HYS : Hid (y.s = nw) := by rw [hye]; rfl
            have f1 : (y.s != nw) = false := by rw [bne_eq_false_iff_eq]; exact HYS.out
            have f2 : (y.t != x.c / 2) = false := by rw [bne_eq_false_iff_eq, hye]
            have f6 : IntKind.i64.wrap (2 * x.d) = 2 * x.d := IntWalk.i64_in _ (by have := HOX.out.d0; have := HOX.out.d1; omega)
            have f7 : (x.s == 9007199254740991) = false := by rw [beq_eq_false_iff_ne]; omega
            have f8 : 0 ≤ x.c := by have := HOX.out.c0; have := HOX.out.d0; omega
            have f9 : x.c ≤ 1099511627776 := by have := HOX.out.c1; have := HOX.out.m1; omega
            by_cases hmx : x.c / 2 < 2 * x.d
            · have f3 : (y.c != 2 * x.d) = false := by rw [bne_eq_false_iff_eq, hye]; show mx _ _ = _; unfold mx; split <;> omega
              clear hye hbh
              go_wp2_with fail
              clear lx a0 a1 a2 a3 a4 a5 af ly b0 b1 b2 b3 b4 b5 bf f1 f2 f3 f6 f7 f8 f9
              go_loopw [13] (fun s wr => ∃ i : Nat, i ≤ 20 ∧ i ≤ len2 ∧ s = .int .i64 i ∧ BW wr g12 y ∧ Below w.heap.size w wr) (fun s _ => 21 - (intOf s).toNat)
              case atStart => exact ⟨0, by omega, by omega, rfl, hY, hB⟩
              case round =>
                obtain ⟨i, hi, hil, rfl, hY', hB'⟩ := hrel
                obtain ⟨wo, rfl⟩ : ∃ wo : World, wo = wr := ⟨_, rfl⟩
                have z := hB'.size
                clear hY hB
                by_cases hlt : i < len2 ∧ i < 20
                · obtain ⟨hlt, h20⟩ := hlt
                  obtain ⟨b, off, p, q, hA2, hbl, c0, c1⟩ := (HP.out.kept hB') i hlt
                  (first | subst hA2 | (simp only [Option.some.injEq, Addr.mk.injEq, and_true] at hA2; obtain ⟨rfl, rfl⟩ := hA2))
                  obtain ⟨se, HSE, se0, se1⟩ := name_mod p (nw + 1) (by omega)
                  obtain ⟨u, HU, u0, u1⟩ := name_mod q 9007199254740992 (by omega)
                  obtain ⟨v, HV, v0, v1⟩ := name_mod q 65535 (by omega)
                  have hnb : ¬ Behind y se := by unfold Behind; have := HYS.out; omega
                  have R1 : Hid (bad y se u = y) := bad_past y se u hnb
                  have R2 : Hid (acked y se (1 + v) true = y) := acked_past y se (1 + v) true hnb
                  have H1 : Hid (0 ≤ se ∧ se ≤ 9007199254740991) := Lib.hid ⟨se0, by omega⟩
                  have H2 : Hid (0 ≤ u ∧ u ≤ 9007199254740991) := Lib.hid ⟨u0, by omega⟩
                  have H3 : Hid (1 ≤ 1 + v ∧ 1 + v ≤ 65535) := Lib.hid ⟨by omega, by omega⟩
                  have C1 := Lib.hid c1
                  have i0 : (0 : Int) ≤ (i : Int) := by omega
                  have i1 : (i : Int) < (len2 : Int) := by omega
                  clear hnb
                  go_wp2_with fail
                  refine (bring_is _ _ se _ HSE (by omega) (by omega)).mono ?_
                  rintro e w' ⟨rfl, rfl⟩
                  clear c0 c1
                  go_wp2_with fail
                  go_cut [130] from 88 to 130 (fun s wx => s = .bool false ∧ Below wo.heap.size wo wx)
                  case first =>
                    have HS : ∀ w', Below wo.heap.size wo w' → (w'.cell? ⟨g12, 0, none⟩ = some (.int .i64 y.d) ∧ w'.cell? ⟨g12, 1, none⟩ = some (.int .i64 y.m) ∧ w'.cell? ⟨g12, 2, none⟩ = some (.int .i64 y.c) ∧ w'.cell? ⟨g12, 3, none⟩ = some (.int .i64 y.t) ∧ w'.cell? ⟨g12, 4, none⟩ = some (.int .i64 y.s) ∧ w'.cell? ⟨g12, 5, none⟩ = some (.int .i64 y.g)) ∧ (w'.cell? ⟨b, off + i * 2 + 1, none⟩ = some (.int .i64 q)) ∧ Below wo.heap.size wo w' := fun w' hb => by
                      obtain ⟨_, k0, k1, k2, k3, k4, k5, kf⟩ := hY'.kept hb
                      exact ⟨⟨k0, k1, k2, k3, k4, k5⟩, oldcell C1.out hb hbl, hb⟩
                    have hbR := Below.refl wo.heap.size wo
                    have e1 : IntKind.i64.wrap (1 + v) = 1 + v := IntWalk.i64_in _ (by omega)
                    have hne : ((9007199254740992 : Int) == 65535) = false := by decide
                    go_region_held3 (fun w' => (w'.cell? ⟨g12, 0, none⟩ = some (.int .i64 y.d) ∧ w'.cell? ⟨g12, 1, none⟩ = some (.int .i64 y.m) ∧ w'.cell? ⟨g12, 2, none⟩ = some (.int .i64 y.c) ∧ w'.cell? ⟨g12, 3, none⟩ = some (.int .i64 y.t) ∧ w'.cell? ⟨g12, 4, none⟩ = some (.int .i64 y.s) ∧ w'.cell? ⟨g12, 5, none⟩ = some (.int .i64 y.g)) ∧ (w'.cell? ⟨b, off + i * 2 + 1, none⟩ = some (.int .i64 q)) ∧ Below wo.heap.size wo w')
                      ((refine HS _ ?_; (first | (with_reducible assumption) | (with_reducible exact Below.drew (by assumption)))))
                      (first | (go_at_call 13; refine (bring_any _ _ _ (by omega) (by omega)).mono ?_; rintro e w' ⟨rfl, rfl⟩; (first | rw [HU.out] | rw [HV.out])) | (go_at_call 27; refine (fbad_ok y HOY.out se u y H1 H2 _ R1).mono ?_; rintro e w7 ⟨rfl, hbb7⟩; have hb7 : Below wo.heap.size wo w7 := Below.trans (b := _) (by (first | (with_reducible assumption) | (with_reducible exact Below.drew (by assumption)) | (with_reducible exact bAlloc (by assumption) _) | (with_reducible exact Below.drew (bAlloc (by assumption) _)))) (hbb7.mono (by first | exact Nat.le_refl _ | (have hzz := Below.size (by assumption : Below wo.heap.size wo _); exact hzz))); clear hbb7) | (go_at_call 28; refine (facked_ok y HOY.out se (1 + v) y H1 H3 _ R2).mono ?_; rintro e w7 ⟨rfl, hbb7⟩; have hb7 : Below wo.heap.size wo w7 := Below.trans (b := _) (by (first | (with_reducible assumption) | (with_reducible exact Below.drew (by assumption)) | (with_reducible exact bAlloc (by assumption) _) | (with_reducible exact Below.drew (bAlloc (by assumption) _)))) (hbb7.mono (by first | exact Nat.le_refl _ | (have hzz := Below.size (by assumption : Below wo.heap.size wo _); exact hzz))); clear hbb7))
                    all_goals
                      go_wp2_with fail
                      go_meet
                      rename_i hH
                      exact ⟨rfl, hH.2.2⟩
                  case rest =>
                    obtain ⟨rfl, hb⟩ := hcut
                    go_wp2_with fail
                    exact ⟨⟨i + 1, by omega, by omega, by go_num, hY'.kept hb, hB'.trans (hb.mono z)⟩, by simp [intOf]; omega⟩
                · have hc : ¬ (i < len2) ∨ (i < len2 ∧ i = 20) := by omega
                  clear hlt
                  rcases hc with hc | ⟨hc, h20⟩
                  · have d1 : decide (i < len2) = false := decide_eq_false hc
                    clear hc
                    go_wp2_with fail
                    refine (works_ok _).mono ?_
                    rintro e w10 ⟨rfl, hb10⟩
                    go_wp2_with fail
                    go_ret
                    exact ⟨rfl, hB'.trans (hb10.mono z)⟩
                  · have d1 : decide (i < len2) = true := decide_eq_true hc
                    subst h20
                    go_wp2_with fail
                    refine (works_ok _).mono ?_
                    rintro e w10 ⟨rfl, hb10⟩
                    go_wp2_with fail
                    go_ret
                    exact ⟨rfl, hB'.trans (hb10.mono z)⟩
            · have f3 : (y.c != x.c / 2) = false := by rw [bne_eq_false_iff_eq, hye]; show mx _ _ = _; unfold mx; split <;> omega
              clear hye hbh
              go_wp2_with fail
              clear lx a0 a1 a2 a3 a4 a5 af ly b0 b1 b2 b3 b4 b5 bf f1 f2 f3 f6 f7 f8 f9
              go_loopw [13] (fun s wr => ∃ i : Nat, i ≤ 20 ∧ i ≤ len2 ∧ s = .int .i64 i ∧ BW wr g12 y ∧ Below w.heap.size w wr) (fun s _ => 21 - (intOf s).toNat)
              case atStart => exact ⟨0, by omega, by omega, rfl, hY, hB⟩
              case round =>
                obtain ⟨i, hi, hil, rfl, hY', hB'⟩ := hrel
                obtain ⟨wo, rfl⟩ : ∃ wo : World, wo = wr := ⟨_, rfl⟩
                have z := hB'.size
                clear hY hB
                by_cases hlt : i < len2 ∧ i < 20
                · obtain ⟨hlt, h20⟩ := hlt
                  obtain ⟨b, off, p, q, hA2, hbl, c0, c1⟩ := (HP.out.kept hB') i hlt
                  (first | subst hA2 | (simp only [Option.some.injEq, Addr.mk.injEq, and_true] at hA2; obtain ⟨rfl, rfl⟩ := hA2))
                  obtain ⟨se, HSE, se0, se1⟩ := name_mod p (nw + 1) (by omega)
                  obtain ⟨u, HU, u0, u1⟩ := name_mod q 9007199254740992 (by omega)
                  obtain ⟨v, HV, v0, v1⟩ := name_mod q 65535 (by omega)
                  have hnb : ¬ Behind y se := by unfold Behind; have := HYS.out; omega
                  have R1 : Hid (bad y se u = y) := bad_past y se u hnb
                  have R2 : Hid (acked y se (1 + v) true = y) := acked_past y se (1 + v) true hnb
                  have H1 : Hid (0 ≤ se ∧ se ≤ 9007199254740991) := Lib.hid ⟨se0, by omega⟩
                  have H2 : Hid (0 ≤ u ∧ u ≤ 9007199254740991) := Lib.hid ⟨u0, by omega⟩
                  have H3 : Hid (1 ≤ 1 + v ∧ 1 + v ≤ 65535) := Lib.hid ⟨by omega, by omega⟩
                  have C1 := Lib.hid c1
                  have i0 : (0 : Int) ≤ (i : Int) := by omega
                  have i1 : (i : Int) < (len2 : Int) := by omega
                  clear hnb
                  go_wp2_with fail
                  refine (bring_is _ _ se _ HSE (by omega) (by omega)).mono ?_
                  rintro e w' ⟨rfl, rfl⟩
                  clear c0 c1
                  go_wp2_with fail
                  go_cut [130] from 88 to 130 (fun s wx => s = .bool false ∧ Below wo.heap.size wo wx)
                  case first =>
                    have HS : ∀ w', Below wo.heap.size wo w' → (w'.cell? ⟨g12, 0, none⟩ = some (.int .i64 y.d) ∧ w'.cell? ⟨g12, 1, none⟩ = some (.int .i64 y.m) ∧ w'.cell? ⟨g12, 2, none⟩ = some (.int .i64 y.c) ∧ w'.cell? ⟨g12, 3, none⟩ = some (.int .i64 y.t) ∧ w'.cell? ⟨g12, 4, none⟩ = some (.int .i64 y.s) ∧ w'.cell? ⟨g12, 5, none⟩ = some (.int .i64 y.g)) ∧ (w'.cell? ⟨b, off + i * 2 + 1, none⟩ = some (.int .i64 q)) ∧ Below wo.heap.size wo w' := fun w' hb => by
                      obtain ⟨_, k0, k1, k2, k3, k4, k5, kf⟩ := hY'.kept hb
                      exact ⟨⟨k0, k1, k2, k3, k4, k5⟩, oldcell C1.out hb hbl, hb⟩
                    have hbR := Below.refl wo.heap.size wo
                    have e1 : IntKind.i64.wrap (1 + v) = 1 + v := IntWalk.i64_in _ (by omega)
                    have hne : ((9007199254740992 : Int) == 65535) = false := by decide
                    go_region_held3 (fun w' => (w'.cell? ⟨g12, 0, none⟩ = some (.int .i64 y.d) ∧ w'.cell? ⟨g12, 1, none⟩ = some (.int .i64 y.m) ∧ w'.cell? ⟨g12, 2, none⟩ = some (.int .i64 y.c) ∧ w'.cell? ⟨g12, 3, none⟩ = some (.int .i64 y.t) ∧ w'.cell? ⟨g12, 4, none⟩ = some (.int .i64 y.s) ∧ w'.cell? ⟨g12, 5, none⟩ = some (.int .i64 y.g)) ∧ (w'.cell? ⟨b, off + i * 2 + 1, none⟩ = some (.int .i64 q)) ∧ Below wo.heap.size wo w')
                      ((refine HS _ ?_; (first | (with_reducible assumption) | (with_reducible exact Below.drew (by assumption)))))
                      (first | (go_at_call 13; refine (bring_any _ _ _ (by omega) (by omega)).mono ?_; rintro e w' ⟨rfl, rfl⟩; (first | rw [HU.out] | rw [HV.out])) | (go_at_call 27; refine (fbad_ok y HOY.out se u y H1 H2 _ R1).mono ?_; rintro e w7 ⟨rfl, hbb7⟩; have hb7 : Below wo.heap.size wo w7 := Below.trans (b := _) (by (first | (with_reducible assumption) | (with_reducible exact Below.drew (by assumption)) | (with_reducible exact bAlloc (by assumption) _) | (with_reducible exact Below.drew (bAlloc (by assumption) _)))) (hbb7.mono (by first | exact Nat.le_refl _ | (have hzz := Below.size (by assumption : Below wo.heap.size wo _); exact hzz))); clear hbb7) | (go_at_call 28; refine (facked_ok y HOY.out se (1 + v) y H1 H3 _ R2).mono ?_; rintro e w7 ⟨rfl, hbb7⟩; have hb7 : Below wo.heap.size wo w7 := Below.trans (b := _) (by (first | (with_reducible assumption) | (with_reducible exact Below.drew (by assumption)) | (with_reducible exact bAlloc (by assumption) _) | (with_reducible exact Below.drew (bAlloc (by assumption) _)))) (hbb7.mono (by first | exact Nat.le_refl _ | (have hzz := Below.size (by assumption : Below wo.heap.size wo _); exact hzz))); clear hbb7))
                    all_goals
                      go_wp2_with fail
                      go_meet
                      rename_i hH
                      exact ⟨rfl, hH.2.2⟩
                  case rest =>
                    obtain ⟨rfl, hb⟩ := hcut
                    go_wp2_with fail
                    exact ⟨⟨i + 1, by omega, by omega, by go_num, hY'.kept hb, hB'.trans (hb.mono z)⟩, by simp [intOf]; omega⟩
                · have hc : ¬ (i < len2) ∨ (i < len2 ∧ i = 20) := by omega
                  clear hlt
                  rcases hc with hc | ⟨hc, h20⟩
                  · have d1 : decide (i < len2) = false := decide_eq_false hc
                    clear hc
                    go_wp2_with fail
                    refine (works_ok _).mono ?_
                    rintro e w10 ⟨rfl, hb10⟩
                    go_wp2_with fail
                    go_ret
                    exact ⟨rfl, hB'.trans (hb10.mono z)⟩
                  · have d1 : decide (i < len2) = true := decide_eq_true hc
                    subst h20
                    go_wp2_with fail
                    refine (works_ok _).mono ?_
                    rintro e w10 ⟨rfl, hb10⟩
                    go_wp2_with fail
                    go_ret
                    exact ⟨rfl, hB'.trans (hb10.mono z)⟩
          · have hse : x.s = 9007199254740991 := by have := HOX.out.s0; omega
            have hyx : y = x := by rw [← HY.out]; exact bad_past x _ nw (by unfold Behind; omega)
            subst hyx
            have f1 : decide (y.s < 9007199254740991) = false := decide_eq_false hs
            have f2 : (y.s == 9007199254740991) = true := by rw [beq_iff_eq]; exact hse
            clear hs hse
            go_wp2_with fail
            refine (works_ok _).mono ?_
            rintro e w10 ⟨rfl, hb10⟩
            go_wp2_with fail
            go_ret
            exact ⟨rfl, hB.trans (hb10.mono z5)⟩
        · clear d1
          go_wp2_with fail
          refine (bring_is _ _ nw _ HNW (by omega) (by omega)).mono ?_
          rintro e w' ⟨rfl, rfl⟩
          clear c0 c1
          go_wp2_with fail
          -- now has been read: slot 11 holds nw
          refine (fbad_ok x HOX.out 9007199254740991 nw y (Lib.hid ⟨by omega, by omega⟩) (Lib.hid ⟨nw0, by omega⟩) _ HY).mono ?_
          rintro e w4 ⟨rfl, hb4⟩
          clear lx a0 a1 a2 a3 a4 a5 af
          have hX4 := hX.kept hb4
          have hB4 := hB.trans (hb4.mono z)
          have z4 := hB4.size
          clear hX hB hb4
          go_upto_region 13 with (fail)
          obtain ⟨g12, hg12⟩ : ∃ g, w4.heap.size = g := ⟨_, rfl⟩
          obtain ⟨w5, hW5⟩ : ∃ W, w4.alloc (.cells #[.int .i64 y.d, .int .i64 y.m, .int .i64 y.c, .int .i64 y.t, .int .i64 y.s, .int .i64 y.g] 26) = W := ⟨_, rfl⟩
          rw [hW5, hg12]
          have hX : BW w5 w1.heap.size x := hW5 ▸ hX4.alloc _
          have hY : BW w5 g12 y := hg12 ▸ hW5 ▸ BW.new w4 y 26
          have hB : Below w.heap.size w w5 := hW5 ▸ hB4.alloc z4 _
          have z5 := hB.size
          clear hX4 hB4 hW5 hg12
          obtain ⟨lx, a0, a1, a2, a3, a4, a5, af⟩ := id hX
          obtain ⟨ly, b0, b1, b2, b3, b4, b5, bf⟩ := id hY
          by_cases hs : x.s < 9007199254740991
          · have hbh : Behind x 9007199254740991 := Or.inr hs
            have hye : y = { x with s := nw, t := x.c / 2, c := mx (x.c / 2) (2 * x.d), g := 0 } := by rw [← HY.out]; unfold bad; rw [if_pos hbh]
            have hoy : Hid (Ok y) := by have := bad_ok HOX.out 9007199254740991 nw ⟨nw0, by omega⟩; rw [HY.out] at this; exact this
            have HOY := hoy
            have HYS : Hid (y.s = nw) := by rw [hye]; rfl
            have f1 : (y.s != nw) = false := by rw [bne_eq_false_iff_eq]; exact HYS.out
            have f2 : (y.t != x.c / 2) = false := by rw [bne_eq_false_iff_eq, hye]
            have f6 : IntKind.i64.wrap (2 * x.d) = 2 * x.d := IntWalk.i64_in _ (by have := HOX.out.d0; have := HOX.out.d1; omega)
            have f7 : (x.s == 9007199254740991) = false := by rw [beq_eq_false_iff_ne]; omega
            have f8 : 0 ≤ x.c := by have := HOX.out.c0; have := HOX.out.d0; omega
            have f9 : x.c ≤ 1099511627776 := by have := HOX.out.c1; have := HOX.out.m1; omega
            by_cases hmx : x.c / 2 < 2 * x.d
            · have f3 : (y.c != 2 * x.d) = false := by rw [bne_eq_false_iff_eq, hye]; show mx _ _ = _; unfold mx; split <;> omega
              clear hye hbh
              go_wp2_with fail
              clear lx a0 a1 a2 a3 a4 a5 af ly b0 b1 b2 b3 b4 b5 bf f1 f2 f3 f6 f7 f8 f9
              go_loopw [13] (fun s wr => ∃ i : Nat, i ≤ 20 ∧ i ≤ len2 ∧ s = .int .i64 i ∧ BW wr g12 y ∧ Below w.heap.size w wr) (fun s _ => 21 - (intOf s).toNat)
              case atStart => exact ⟨0, by omega, by omega, rfl, hY, hB⟩
              case round =>
                obtain ⟨i, hi, hil, rfl, hY', hB'⟩ := hrel
                obtain ⟨wo, rfl⟩ : ∃ wo : World, wo = wr := ⟨_, rfl⟩
                have z := hB'.size
                clear hY hB
                by_cases hlt : i < len2 ∧ i < 20
                · obtain ⟨hlt, h20⟩ := hlt
                  obtain ⟨b, off, p, q, hA2, hbl, c0, c1⟩ := (HP.out.kept hB') i hlt
                  (first | subst hA2 | (simp only [Option.some.injEq, Addr.mk.injEq, and_true] at hA2; obtain ⟨rfl, rfl⟩ := hA2))
                  obtain ⟨se, HSE, se0, se1⟩ := name_mod p (nw + 1) (by omega)
                  obtain ⟨u, HU, u0, u1⟩ := name_mod q 9007199254740992 (by omega)
                  obtain ⟨v, HV, v0, v1⟩ := name_mod q 65535 (by omega)
                  have hnb : ¬ Behind y se := by unfold Behind; have := HYS.out; omega
                  have R1 : Hid (bad y se u = y) := bad_past y se u hnb
                  have R2 : Hid (acked y se (1 + v) true = y) := acked_past y se (1 + v) true hnb
                  have H1 : Hid (0 ≤ se ∧ se ≤ 9007199254740991) := Lib.hid ⟨se0, by omega⟩
                  have H2 : Hid (0 ≤ u ∧ u ≤ 9007199254740991) := Lib.hid ⟨u0, by omega⟩
                  have H3 : Hid (1 ≤ 1 + v ∧ 1 + v ≤ 65535) := Lib.hid ⟨by omega, by omega⟩
                  have C1 := Lib.hid c1
                  have i0 : (0 : Int) ≤ (i : Int) := by omega
                  have i1 : (i : Int) < (len2 : Int) := by omega
                  clear hnb
                  go_wp2_with fail
                  refine (bring_is _ _ se _ HSE (by omega) (by omega)).mono ?_
                  rintro e w' ⟨rfl, rfl⟩
                  clear c0 c1
                  go_wp2_with fail
                  go_cut [130] from 88 to 130 (fun s wx => s = .bool false ∧ Below wo.heap.size wo wx)
                  case first =>
                    have HS : ∀ w', Below wo.heap.size wo w' → (w'.cell? ⟨g12, 0, none⟩ = some (.int .i64 y.d) ∧ w'.cell? ⟨g12, 1, none⟩ = some (.int .i64 y.m) ∧ w'.cell? ⟨g12, 2, none⟩ = some (.int .i64 y.c) ∧ w'.cell? ⟨g12, 3, none⟩ = some (.int .i64 y.t) ∧ w'.cell? ⟨g12, 4, none⟩ = some (.int .i64 y.s) ∧ w'.cell? ⟨g12, 5, none⟩ = some (.int .i64 y.g)) ∧ (w'.cell? ⟨b, off + i * 2 + 1, none⟩ = some (.int .i64 q)) ∧ Below wo.heap.size wo w' := fun w' hb => by
                      obtain ⟨_, k0, k1, k2, k3, k4, k5, kf⟩ := hY'.kept hb
                      exact ⟨⟨k0, k1, k2, k3, k4, k5⟩, oldcell C1.out hb hbl, hb⟩
                    have hbR := Below.refl wo.heap.size wo
                    have e1 : IntKind.i64.wrap (1 + v) = 1 + v := IntWalk.i64_in _ (by omega)
                    have hne : ((9007199254740992 : Int) == 65535) = false := by decide
                    go_region_held3 (fun w' => (w'.cell? ⟨g12, 0, none⟩ = some (.int .i64 y.d) ∧ w'.cell? ⟨g12, 1, none⟩ = some (.int .i64 y.m) ∧ w'.cell? ⟨g12, 2, none⟩ = some (.int .i64 y.c) ∧ w'.cell? ⟨g12, 3, none⟩ = some (.int .i64 y.t) ∧ w'.cell? ⟨g12, 4, none⟩ = some (.int .i64 y.s) ∧ w'.cell? ⟨g12, 5, none⟩ = some (.int .i64 y.g)) ∧ (w'.cell? ⟨b, off + i * 2 + 1, none⟩ = some (.int .i64 q)) ∧ Below wo.heap.size wo w')
                      ((refine HS _ ?_; (first | (with_reducible assumption) | (with_reducible exact Below.drew (by assumption)))))
                      (first | (go_at_call 13; refine (bring_any _ _ _ (by omega) (by omega)).mono ?_; rintro e w' ⟨rfl, rfl⟩; (first | rw [HU.out] | rw [HV.out])) | (go_at_call 27; refine (fbad_ok y HOY.out se u y H1 H2 _ R1).mono ?_; rintro e w7 ⟨rfl, hbb7⟩; have hb7 : Below wo.heap.size wo w7 := Below.trans (b := _) (by (first | (with_reducible assumption) | (with_reducible exact Below.drew (by assumption)) | (with_reducible exact bAlloc (by assumption) _) | (with_reducible exact Below.drew (bAlloc (by assumption) _)))) (hbb7.mono (by first | exact Nat.le_refl _ | (have hzz := Below.size (by assumption : Below wo.heap.size wo _); exact hzz))); clear hbb7) | (go_at_call 28; refine (facked_ok y HOY.out se (1 + v) y H1 H3 _ R2).mono ?_; rintro e w7 ⟨rfl, hbb7⟩; have hb7 : Below wo.heap.size wo w7 := Below.trans (b := _) (by (first | (with_reducible assumption) | (with_reducible exact Below.drew (by assumption)) | (with_reducible exact bAlloc (by assumption) _) | (with_reducible exact Below.drew (bAlloc (by assumption) _)))) (hbb7.mono (by first | exact Nat.le_refl _ | (have hzz := Below.size (by assumption : Below wo.heap.size wo _); exact hzz))); clear hbb7))
                    all_goals
                      go_wp2_with fail
                      go_meet
                      rename_i hH
                      exact ⟨rfl, hH.2.2⟩
                  case rest =>
                    obtain ⟨rfl, hb⟩ := hcut
                    go_wp2_with fail
                    exact ⟨⟨i + 1, by omega, by omega, by go_num, hY'.kept hb, hB'.trans (hb.mono z)⟩, by simp [intOf]; omega⟩
                · have hc : ¬ (i < len2) ∨ (i < len2 ∧ i = 20) := by omega
                  clear hlt
                  rcases hc with hc | ⟨hc, h20⟩
                  · have d1 : decide (i < len2) = false := decide_eq_false hc
                    clear hc
                    go_wp2_with fail
                    refine (works_ok _).mono ?_
                    rintro e w10 ⟨rfl, hb10⟩
                    go_wp2_with fail
                    go_ret
                    exact ⟨rfl, hB'.trans (hb10.mono z)⟩
                  · have d1 : decide (i < len2) = true := decide_eq_true hc
                    subst h20
                    go_wp2_with fail
                    refine (works_ok _).mono ?_
                    rintro e w10 ⟨rfl, hb10⟩
                    go_wp2_with fail
                    go_ret
                    exact ⟨rfl, hB'.trans (hb10.mono z)⟩
            · have f3 : (y.c != x.c / 2) = false := by rw [bne_eq_false_iff_eq, hye]; show mx _ _ = _; unfold mx; split <;> omega
              clear hye hbh
              go_wp2_with fail
              clear lx a0 a1 a2 a3 a4 a5 af ly b0 b1 b2 b3 b4 b5 bf f1 f2 f3 f6 f7 f8 f9
              go_loopw [13] (fun s wr => ∃ i : Nat, i ≤ 20 ∧ i ≤ len2 ∧ s = .int .i64 i ∧ BW wr g12 y ∧ Below w.heap.size w wr) (fun s _ => 21 - (intOf s).toNat)
              case atStart => exact ⟨0, by omega, by omega, rfl, hY, hB⟩
              case round =>
                obtain ⟨i, hi, hil, rfl, hY', hB'⟩ := hrel
                obtain ⟨wo, rfl⟩ : ∃ wo : World, wo = wr := ⟨_, rfl⟩
                have z := hB'.size
                clear hY hB
                by_cases hlt : i < len2 ∧ i < 20
                · obtain ⟨hlt, h20⟩ := hlt
                  obtain ⟨b, off, p, q, hA2, hbl, c0, c1⟩ := (HP.out.kept hB') i hlt
                  (first | subst hA2 | (simp only [Option.some.injEq, Addr.mk.injEq, and_true] at hA2; obtain ⟨rfl, rfl⟩ := hA2))
                  obtain ⟨se, HSE, se0, se1⟩ := name_mod p (nw + 1) (by omega)
                  obtain ⟨u, HU, u0, u1⟩ := name_mod q 9007199254740992 (by omega)
                  obtain ⟨v, HV, v0, v1⟩ := name_mod q 65535 (by omega)
                  have hnb : ¬ Behind y se := by unfold Behind; have := HYS.out; omega
                  have R1 : Hid (bad y se u = y) := bad_past y se u hnb
                  have R2 : Hid (acked y se (1 + v) true = y) := acked_past y se (1 + v) true hnb
                  have H1 : Hid (0 ≤ se ∧ se ≤ 9007199254740991) := Lib.hid ⟨se0, by omega⟩
                  have H2 : Hid (0 ≤ u ∧ u ≤ 9007199254740991) := Lib.hid ⟨u0, by omega⟩
                  have H3 : Hid (1 ≤ 1 + v ∧ 1 + v ≤ 65535) := Lib.hid ⟨by omega, by omega⟩
                  have C1 := Lib.hid c1
                  have i0 : (0 : Int) ≤ (i : Int) := by omega
                  have i1 : (i : Int) < (len2 : Int) := by omega
                  clear hnb
                  go_wp2_with fail
                  refine (bring_is _ _ se _ HSE (by omega) (by omega)).mono ?_
                  rintro e w' ⟨rfl, rfl⟩
                  clear c0 c1
                  go_wp2_with fail
                  go_cut [130] from 88 to 130 (fun s wx => s = .bool false ∧ Below wo.heap.size wo wx)
                  case first =>
                    have HS : ∀ w', Below wo.heap.size wo w' → (w'.cell? ⟨g12, 0, none⟩ = some (.int .i64 y.d) ∧ w'.cell? ⟨g12, 1, none⟩ = some (.int .i64 y.m) ∧ w'.cell? ⟨g12, 2, none⟩ = some (.int .i64 y.c) ∧ w'.cell? ⟨g12, 3, none⟩ = some (.int .i64 y.t) ∧ w'.cell? ⟨g12, 4, none⟩ = some (.int .i64 y.s) ∧ w'.cell? ⟨g12, 5, none⟩ = some (.int .i64 y.g)) ∧ (w'.cell? ⟨b, off + i * 2 + 1, none⟩ = some (.int .i64 q)) ∧ Below wo.heap.size wo w' := fun w' hb => by
                      obtain ⟨_, k0, k1, k2, k3, k4, k5, kf⟩ := hY'.kept hb
                      exact ⟨⟨k0, k1, k2, k3, k4, k5⟩, oldcell C1.out hb hbl, hb⟩
                    have hbR := Below.refl wo.heap.size wo
                    have e1 : IntKind.i64.wrap (1 + v) = 1 + v := IntWalk.i64_in _ (by omega)
                    have hne : ((9007199254740992 : Int) == 65535) = false := by decide
                    go_region_held3 (fun w' => (w'.cell? ⟨g12, 0, none⟩ = some (.int .i64 y.d) ∧ w'.cell? ⟨g12, 1, none⟩ = some (.int .i64 y.m) ∧ w'.cell? ⟨g12, 2, none⟩ = some (.int .i64 y.c) ∧ w'.cell? ⟨g12, 3, none⟩ = some (.int .i64 y.t) ∧ w'.cell? ⟨g12, 4, none⟩ = some (.int .i64 y.s) ∧ w'.cell? ⟨g12, 5, none⟩ = some (.int .i64 y.g)) ∧ (w'.cell? ⟨b, off + i * 2 + 1, none⟩ = some (.int .i64 q)) ∧ Below wo.heap.size wo w')
                      ((refine HS _ ?_; (first | (with_reducible assumption) | (with_reducible exact Below.drew (by assumption)))))
                      (first | (go_at_call 13; refine (bring_any _ _ _ (by omega) (by omega)).mono ?_; rintro e w' ⟨rfl, rfl⟩; (first | rw [HU.out] | rw [HV.out])) | (go_at_call 27; refine (fbad_ok y HOY.out se u y H1 H2 _ R1).mono ?_; rintro e w7 ⟨rfl, hbb7⟩; have hb7 : Below wo.heap.size wo w7 := Below.trans (b := _) (by (first | (with_reducible assumption) | (with_reducible exact Below.drew (by assumption)) | (with_reducible exact bAlloc (by assumption) _) | (with_reducible exact Below.drew (bAlloc (by assumption) _)))) (hbb7.mono (by first | exact Nat.le_refl _ | (have hzz := Below.size (by assumption : Below wo.heap.size wo _); exact hzz))); clear hbb7) | (go_at_call 28; refine (facked_ok y HOY.out se (1 + v) y H1 H3 _ R2).mono ?_; rintro e w7 ⟨rfl, hbb7⟩; have hb7 : Below wo.heap.size wo w7 := Below.trans (b := _) (by (first | (with_reducible assumption) | (with_reducible exact Below.drew (by assumption)) | (with_reducible exact bAlloc (by assumption) _) | (with_reducible exact Below.drew (bAlloc (by assumption) _)))) (hbb7.mono (by first | exact Nat.le_refl _ | (have hzz := Below.size (by assumption : Below wo.heap.size wo _); exact hzz))); clear hbb7))
                    all_goals
                      go_wp2_with fail
                      go_meet
                      rename_i hH
                      exact ⟨rfl, hH.2.2⟩
                  case rest =>
                    obtain ⟨rfl, hb⟩ := hcut
                    go_wp2_with fail
                    exact ⟨⟨i + 1, by omega, by omega, by go_num, hY'.kept hb, hB'.trans (hb.mono z)⟩, by simp [intOf]; omega⟩
                · have hc : ¬ (i < len2) ∨ (i < len2 ∧ i = 20) := by omega
                  clear hlt
                  rcases hc with hc | ⟨hc, h20⟩
                  · have d1 : decide (i < len2) = false := decide_eq_false hc
                    clear hc
                    go_wp2_with fail
                    refine (works_ok _).mono ?_
                    rintro e w10 ⟨rfl, hb10⟩
                    go_wp2_with fail
                    go_ret
                    exact ⟨rfl, hB'.trans (hb10.mono z)⟩
                  · have d1 : decide (i < len2) = true := decide_eq_true hc
                    subst h20
                    go_wp2_with fail
                    refine (works_ok _).mono ?_
                    rintro e w10 ⟨rfl, hb10⟩
                    go_wp2_with fail
                    go_ret
                    exact ⟨rfl, hB'.trans (hb10.mono z)⟩
          · have hse : x.s = 9007199254740991 := by have := HOX.out.s0; omega
            have hyx : y = x := by rw [← HY.out]; exact bad_past x _ nw (by unfold Behind; omega)
            subst hyx
            have f1 : decide (y.s < 9007199254740991) = false := decide_eq_false hs
            have f2 : (y.s == 9007199254740991) = true := by rw [beq_iff_eq]; exact hse
            clear hs hse
            go_wp2_with fail
            refine (works_ok _).mono ?_
            rintro e w10 ⟨rfl, hb10⟩
            go_wp2_with fail
            go_ret
            exact ⟨rfl, hB.trans (hb10.mono z5)⟩
      · have d5 : decide (0 < len2) = false := decide_eq_false hl2'
        have d6 : decide ((0 : Int) < (len2 : Int)) = false := by rw [decide_eq_false_iff_not]; omega
        obtain ⟨y, HY⟩ : ∃ y, Hid (bad x 9007199254740991 0 = y) := ⟨_, rfl⟩
        obtain ⟨lx, a0, a1, a2, a3, a4, a5, af⟩ := id hX
        rcases d1.out with ⟨d2, h60⟩ | d2
        · subst h60
          have d3 : (60 : Int) < (len : Int) := by have := of_decide_eq_true d2; omega
          clear d1
          go_wp2_with fail
          -- now has been read: slot 11 holds 0
          refine (fbad_ok x HOX.out 9007199254740991 0 y (Lib.hid ⟨by omega, by omega⟩) (Lib.hid ⟨(by omega), by omega⟩) _ HY).mono ?_
          rintro e w4 ⟨rfl, hb4⟩
          clear lx a0 a1 a2 a3 a4 a5 af
          have hX4 := hX.kept hb4
          have hB4 := hB.trans (hb4.mono z)
          have z4 := hB4.size
          clear hX hB hb4
          go_upto_region 13 with (fail)
          obtain ⟨g12, hg12⟩ : ∃ g, w4.heap.size = g := ⟨_, rfl⟩
          obtain ⟨w5, hW5⟩ : ∃ W, w4.alloc (.cells #[.int .i64 y.d, .int .i64 y.m, .int .i64 y.c, .int .i64 y.t, .int .i64 y.s, .int .i64 y.g] 26) = W := ⟨_, rfl⟩
          rw [hW5, hg12]
          have hX : BW w5 w1.heap.size x := hW5 ▸ hX4.alloc _
          have hY : BW w5 g12 y := hg12 ▸ hW5 ▸ BW.new w4 y 26
          have hB : Below w.heap.size w w5 := hW5 ▸ hB4.alloc z4 _
          have z5 := hB.size
          clear hX4 hB4 hW5 hg12
          obtain ⟨lx, a0, a1, a2, a3, a4, a5, af⟩ := id hX
          obtain ⟨ly, b0, b1, b2, b3, b4, b5, bf⟩ := id hY
          by_cases hs : x.s < 9007199254740991
          · have hbh : Behind x 9007199254740991 := Or.inr hs
            have hye : y = { x with s := 0, t := x.c / 2, c := mx (x.c / 2) (2 * x.d), g := 0 } := by rw [← HY.out]; unfold bad; rw [if_pos hbh]
            have hoy : Hid (Ok y) := by have := bad_ok HOX.out 9007199254740991 0 ⟨(by omega), by omega⟩; rw [HY.out] at this; exact this
            have HOY := hoy
            have HYS : Hid (y.s = 0) := by rw [hye]; rfl
            have f1 : (y.s != 0) = false := by rw [bne_eq_false_iff_eq]; exact HYS.out
            have f2 : (y.t != x.c / 2) = false := by rw [bne_eq_false_iff_eq, hye]
            have f6 : IntKind.i64.wrap (2 * x.d) = 2 * x.d := IntWalk.i64_in _ (by have := HOX.out.d0; have := HOX.out.d1; omega)
            have f7 : (x.s == 9007199254740991) = false := by rw [beq_eq_false_iff_ne]; omega
            have f8 : 0 ≤ x.c := by have := HOX.out.c0; have := HOX.out.d0; omega
            have f9 : x.c ≤ 1099511627776 := by have := HOX.out.c1; have := HOX.out.m1; omega
            by_cases hmx : x.c / 2 < 2 * x.d
            · have f3 : (y.c != 2 * x.d) = false := by rw [bne_eq_false_iff_eq, hye]; show mx _ _ = _; unfold mx; split <;> omega
              clear hye hbh
              go_wp2_with fail
              clear lx a0 a1 a2 a3 a4 a5 af ly b0 b1 b2 b3 b4 b5 bf f1 f2 f3 f6 f7 f8 f9
              go_loopw [13] (fun s wr => ∃ i : Nat, i ≤ 20 ∧ i ≤ len2 ∧ s = .int .i64 i ∧ BW wr g12 y ∧ Below w.heap.size w wr) (fun s _ => 21 - (intOf s).toNat)
              case atStart => exact ⟨0, by omega, by omega, rfl, hY, hB⟩
              case round =>
                obtain ⟨i, hi, hil, rfl, hY', hB'⟩ := hrel
                have z := hB'.size
                clear hY hB
                have d1 : decide (i < len2) = false := by rw [decide_eq_false_iff_not]; omega
                clear d5 d6
                go_wp2_with fail
                refine (works_ok _).mono ?_
                rintro e w10 ⟨rfl, hb10⟩
                go_wp2_with fail
                go_ret
                exact ⟨rfl, hB'.trans (hb10.mono z)⟩
            · have f3 : (y.c != x.c / 2) = false := by rw [bne_eq_false_iff_eq, hye]; show mx _ _ = _; unfold mx; split <;> omega
              clear hye hbh
              go_wp2_with fail
              clear lx a0 a1 a2 a3 a4 a5 af ly b0 b1 b2 b3 b4 b5 bf f1 f2 f3 f6 f7 f8 f9
              go_loopw [13] (fun s wr => ∃ i : Nat, i ≤ 20 ∧ i ≤ len2 ∧ s = .int .i64 i ∧ BW wr g12 y ∧ Below w.heap.size w wr) (fun s _ => 21 - (intOf s).toNat)
              case atStart => exact ⟨0, by omega, by omega, rfl, hY, hB⟩
              case round =>
                obtain ⟨i, hi, hil, rfl, hY', hB'⟩ := hrel
                have z := hB'.size
                clear hY hB
                have d1 : decide (i < len2) = false := by rw [decide_eq_false_iff_not]; omega
                clear d5 d6
                go_wp2_with fail
                refine (works_ok _).mono ?_
                rintro e w10 ⟨rfl, hb10⟩
                go_wp2_with fail
                go_ret
                exact ⟨rfl, hB'.trans (hb10.mono z)⟩
          · have hse : x.s = 9007199254740991 := by have := HOX.out.s0; omega
            have hyx : y = x := by rw [← HY.out]; exact bad_past x _ 0 (by unfold Behind; omega)
            subst hyx
            have f1 : decide (y.s < 9007199254740991) = false := decide_eq_false hs
            have f2 : (y.s == 9007199254740991) = true := by rw [beq_iff_eq]; exact hse
            clear hs hse
            go_wp2_with fail
            refine (works_ok _).mono ?_
            rintro e w10 ⟨rfl, hb10⟩
            go_wp2_with fail
            go_ret
            exact ⟨rfl, hB.trans (hb10.mono z5)⟩
        · clear d1
          go_wp2_with fail
          -- now has been read: slot 11 holds 0
          refine (fbad_ok x HOX.out 9007199254740991 0 y (Lib.hid ⟨by omega, by omega⟩) (Lib.hid ⟨(by omega), by omega⟩) _ HY).mono ?_
          rintro e w4 ⟨rfl, hb4⟩
          clear lx a0 a1 a2 a3 a4 a5 af
          have hX4 := hX.kept hb4
          have hB4 := hB.trans (hb4.mono z)
          have z4 := hB4.size
          clear hX hB hb4
          go_upto_region 13 with (fail)
          obtain ⟨g12, hg12⟩ : ∃ g, w4.heap.size = g := ⟨_, rfl⟩
          obtain ⟨w5, hW5⟩ : ∃ W, w4.alloc (.cells #[.int .i64 y.d, .int .i64 y.m, .int .i64 y.c, .int .i64 y.t, .int .i64 y.s, .int .i64 y.g] 26) = W := ⟨_, rfl⟩
          rw [hW5, hg12]
          have hX : BW w5 w1.heap.size x := hW5 ▸ hX4.alloc _
          have hY : BW w5 g12 y := hg12 ▸ hW5 ▸ BW.new w4 y 26
          have hB : Below w.heap.size w w5 := hW5 ▸ hB4.alloc z4 _
          have z5 := hB.size
          clear hX4 hB4 hW5 hg12
          obtain ⟨lx, a0, a1, a2, a3, a4, a5, af⟩ := id hX
          obtain ⟨ly, b0, b1, b2, b3, b4, b5, bf⟩ := id hY
          by_cases hs : x.s < 9007199254740991
          · have hbh : Behind x 9007199254740991 := Or.inr hs
            have hye : y = { x with s := 0, t := x.c / 2, c := mx (x.c / 2) (2 * x.d), g := 0 } := by rw [← HY.out]; unfold bad; rw [if_pos hbh]
            have hoy : Hid (Ok y) := by have := bad_ok HOX.out 9007199254740991 0 ⟨(by omega), by omega⟩; rw [HY.out] at this; exact this
            have HOY := hoy
            have HYS : Hid (y.s = 0) := by rw [hye]; rfl
            have f1 : (y.s != 0) = false := by rw [bne_eq_false_iff_eq]; exact HYS.out
            have f2 : (y.t != x.c / 2) = false := by rw [bne_eq_false_iff_eq, hye]
            have f6 : IntKind.i64.wrap (2 * x.d) = 2 * x.d := IntWalk.i64_in _ (by have := HOX.out.d0; have := HOX.out.d1; omega)
            have f7 : (x.s == 9007199254740991) = false := by rw [beq_eq_false_iff_ne]; omega
            have f8 : 0 ≤ x.c := by have := HOX.out.c0; have := HOX.out.d0; omega
            have f9 : x.c ≤ 1099511627776 := by have := HOX.out.c1; have := HOX.out.m1; omega
            by_cases hmx : x.c / 2 < 2 * x.d
            · have f3 : (y.c != 2 * x.d) = false := by rw [bne_eq_false_iff_eq, hye]; show mx _ _ = _; unfold mx; split <;> omega
              clear hye hbh
              go_wp2_with fail
              clear lx a0 a1 a2 a3 a4 a5 af ly b0 b1 b2 b3 b4 b5 bf f1 f2 f3 f6 f7 f8 f9
              go_loopw [13] (fun s wr => ∃ i : Nat, i ≤ 20 ∧ i ≤ len2 ∧ s = .int .i64 i ∧ BW wr g12 y ∧ Below w.heap.size w wr) (fun s _ => 21 - (intOf s).toNat)
              case atStart => exact ⟨0, by omega, by omega, rfl, hY, hB⟩
              case round =>
                obtain ⟨i, hi, hil, rfl, hY', hB'⟩ := hrel
                have z := hB'.size
                clear hY hB
                have d1 : decide (i < len2) = false := by rw [decide_eq_false_iff_not]; omega
                clear d5 d6
                go_wp2_with fail
                refine (works_ok _).mono ?_
                rintro e w10 ⟨rfl, hb10⟩
                go_wp2_with fail
                go_ret
                exact ⟨rfl, hB'.trans (hb10.mono z)⟩
            · have f3 : (y.c != x.c / 2) = false := by rw [bne_eq_false_iff_eq, hye]; show mx _ _ = _; unfold mx; split <;> omega
              clear hye hbh
              go_wp2_with fail
              clear lx a0 a1 a2 a3 a4 a5 af ly b0 b1 b2 b3 b4 b5 bf f1 f2 f3 f6 f7 f8 f9
              go_loopw [13] (fun s wr => ∃ i : Nat, i ≤ 20 ∧ i ≤ len2 ∧ s = .int .i64 i ∧ BW wr g12 y ∧ Below w.heap.size w wr) (fun s _ => 21 - (intOf s).toNat)
              case atStart => exact ⟨0, by omega, by omega, rfl, hY, hB⟩
              case round =>
                obtain ⟨i, hi, hil, rfl, hY', hB'⟩ := hrel
                have z := hB'.size
                clear hY hB
                have d1 : decide (i < len2) = false := by rw [decide_eq_false_iff_not]; omega
                clear d5 d6
                go_wp2_with fail
                refine (works_ok _).mono ?_
                rintro e w10 ⟨rfl, hb10⟩
                go_wp2_with fail
                go_ret
                exact ⟨rfl, hB'.trans (hb10.mono z)⟩
          · have hse : x.s = 9007199254740991 := by have := HOX.out.s0; omega
            have hyx : y = x := by rw [← HY.out]; exact bad_past x _ 0 (by unfold Behind; omega)
            subst hyx
            have f1 : decide (y.s < 9007199254740991) = false := decide_eq_false hs
            have f2 : (y.s == 9007199254740991) = true := by rw [beq_iff_eq]; exact hse
            clear hs hse
            go_wp2_with fail
            refine (works_ok _).mono ?_
            rintro e w10 ⟨rfl, hb10⟩
            go_wp2_with fail
            go_ret
            exact ⟨rfl, hB.trans (hb10.mono z5)⟩
end Go.Proofs.Ytcjhankepchioaa
