/-
  The walk of WindowKnown.
-/
import Derived.Test.YtcjhankepchioaaSa
import Derived.StillTailTactics
import Derived.Outline
namespace Go.Proofs.Ytcjhankepchioaa
open Go.RowKit (wrap32 wrap64)
open Go.RowKit
set_option linter.unusedVariables false
set_option linter.unusedSimpArgs false

/-- A row of windows in a block. -/
def Ws (W : World) (g n : Nat) : Prop := ∀ i, i < n → ∃ d m c t s r : Int, W.cell? ⟨g, i * 6, none⟩ = some (.int .i64 d) ∧ W.cell? ⟨g, i * 6 + 1, none⟩ = some (.int .i64 m) ∧ W.cell? ⟨g, i * 6 + 2, none⟩ = some (.int .i64 c) ∧ W.cell? ⟨g, i * 6 + 3, none⟩ = some (.int .i64 t) ∧ W.cell? ⟨g, i * 6 + 4, none⟩ = some (.int .i64 s) ∧ W.cell? ⟨g, i * 6 + 5, none⟩ = some (.int .i64 r)
theorem Ws.kept {W w' : World} {g n : Nat} (h : Ws W g n) (hb : Below W.heap.size W w') (hl : g < W.heap.size) : Ws w' g n := fun i hi => by
  obtain ⟨d, m, c, t, s, r, c0, c1, c2, c3, c4, c5⟩ := h i hi
  exact ⟨d, m, c, t, s, r, oldcell c0 hb hl, oldcell c1 hb hl, oldcell c2 hb hl, oldcell c3 hb hl, oldcell c4 hb hl, oldcell c5 hb hl⟩
/-- The ends in the call's first block, three windows in its second; all older is as it was. -/
structure KnW (w W : World) : Prop where
  below : Below w.heap.size w W
  lt : w.heap.size + 1 < W.heap.size
  end_ : ∀ i, i < 19 → ∃ v : Int, W.cell? ⟨w.heap.size, i, none⟩ = some (.int .i64 v)
  good : Ws W (w.heap.size + 1) 3
theorem KnW.kept {w W w' : World} (h : KnW w W) (hb : Below W.heap.size W w') : KnW w w' :=
  ⟨h.below.trans (hb.mono h.below.size), Nat.lt_of_lt_of_le h.lt hb.size, fun i hi => by obtain ⟨v, hv⟩ := h.end_ i hi; exact ⟨v, oldcell hv hb (by have := h.lt; omega)⟩, h.good.kept hb h.lt⟩
/-- A row of numbers in a block. -/
def Nums (W : World) (g n : Nat) : Prop := ∀ j, j < n → ∃ v : Int, W.cell? ⟨g, j, none⟩ = some (.int .i64 v)
theorem Nums.drew {W : World} {g n : Nat} (h : Nums W g n) : Nums W.drew g n := h
theorem Nums.set {W : World} {g n : Nat} (h : Nums W g n) (j : Nat) (x : Int) : Nums (W.setCell ⟨g, j, none⟩ (.int .i64 x)) g n := fun i hi => by
  obtain ⟨v, hv⟩ := h i hi
  by_cases e : i = j
  · subst e; exact ⟨x, by simp [go_sem, hv]⟩
  · exact ⟨v, by have e2 : ¬ j = i := fun h => e h.symm; simp [go_sem, hv, e, e2]⟩
theorem Nums.ws {W : World} {g n : Nat} (h : Nums W g (n * 6)) : Ws W g n := fun i hi => by
  obtain ⟨d, h0⟩ := h (i * 6) (by omega)
  obtain ⟨m, h1⟩ := h (i * 6 + 1) (by omega)
  obtain ⟨c, h2⟩ := h (i * 6 + 2) (by omega)
  obtain ⟨t, h3⟩ := h (i * 6 + 3) (by omega)
  obtain ⟨s, h4⟩ := h (i * 6 + 4) (by omega)
  obtain ⟨r, h5⟩ := h (i * 6 + 5) (by omega)
  exact ⟨d, m, c, t, s, r, h0, h1, h2, h3, h4, h5⟩
theorem Nums.new (W : World) (l : List Int) (ty : Nat) : Nums (W.alloc (.cells (l.map (Value.int .i64)).toArray ty)) W.heap.size l.length := fun j hj => by
  exact ⟨l[j], by simp [hj]⟩
theorem Nums.kept {W w' : World} {g n : Nat} (h : Nums W g n) (hb : Below W.heap.size W w') (hl : g < W.heap.size) : Nums w' g n := fun j hj => by
  obtain ⟨v, hv⟩ := h j hj
  exact ⟨v, oldcell hv hb hl⟩
theorem KnW.start (w : World) (a b : List Int) (ha : a.length = 19) (hb : b.length = 18) (ta tb : Nat) : KnW w ((w.alloc (.cells (a.map (Value.int .i64)).toArray ta)).alloc (.cells (b.map (Value.int .i64)).toArray tb)) := by
  have h1 := Nums.new w a ta
  have h2 := Nums.new (w.alloc (.cells (a.map (Value.int .i64)).toArray ta)) b tb
  have hs : (w.alloc (.cells (a.map (Value.int .i64)).toArray ta)).heap.size = w.heap.size + 1 := by simp
  rw [ha] at h1
  rw [hb, hs] at h2
  have b1 : Below w.heap.size w (w.alloc (.cells (a.map (Value.int .i64)).toArray ta)) := (Below.refl _ _).alloc (Nat.le_refl _) _
  have b2 := (Below.refl (w.alloc (.cells (a.map (Value.int .i64)).toArray ta)).heap.size (w.alloc (.cells (a.map (Value.int .i64)).toArray ta))).alloc (Nat.le_refl _) (.cells (b.map (Value.int .i64)).toArray tb)
  exact ⟨b1.trans (b2.mono b1.size), by simp, h1.kept b2 (by rw [hs]; omega), Nums.ws h2⟩
theorem fz_new (W : World) (l : Array Value) (ty : Nat) (j : Nat) : (W.alloc (.cells l ty)).frozen? ⟨W.heap.size, j, none⟩ = false := by simp

theorem KnW.keptB {w wd W5 W : World} (h : KnW w wd) (hb : Below wd.heap.size wd W5) (hb2 : Below wd.heap.size W5 W) : KnW w W := h.kept (hb.trans hb2)
theorem tells6 (d m c t s g nu ti si : Int) (b1 b2 b3 : Bool) (x0 x1 x2 : Int) (w : World) :
    Calls Try.prog 5 #[.agg #[.int .i64 d, .int .i64 m, .int .i64 c, .int .i64 t, .int .i64 s, .int .i64 g], .agg #[.int .i64 nu, .int .i64 ti, .int .i64 si, .bool b1, .bool b2, .bool b3], .agg #[.int .i64 x0, .int .i64 x1, .int .i64 x2]] w fun e w' => e = .returned (.bool true) ∧ Below w.heap.size w w' :=
  tells_any ⟨d, m, c, t, s, g⟩ nu ti si b1 b2 b3 x0 x1 x2 w
theorem bset1 {B W : World} {n : Nat} (h : Below n B W) (j : Nat) (v : Value) : Below n B (W.setCell ⟨n, j, none⟩ v) := h.setCell (Nat.le_refl _) _

set_option maxRecDepth 100000 in
set_option maxHeartbeats 40000000 in
theorem known_walk (w : World) : Calls Try.prog 4 #[] w fun e w' => e = .returned (.bool true) ∧ Below w.heap.size w w' := by
  go_enter Try.func4, Try.ntmps4
  go_wp2_with fail
  go_loopw [3] (fun s wr => ∃ i : Nat, i ≤ 3 ∧ s = .int .i64 i ∧ KnW w wr) (fun s _ => 4 - (intOf s).toNat)
  case atStart => exact ⟨0, by omega, rfl, KnW.start w [-9223372036854775808, -2, -1, 0, 1, 1199, 1200, 2399, 2400, 65527, 65528, 65535, 65536, 131054, 1099511627776, 1099511627777, 9007199254740991, 9007199254740992, 9223372036854775807] [1200, 2400, 2400, -1, -1, 0, 65527, 1099511627776, 1099511627776, 549755813888, 9007199254740991, 1099511627775, 1200, 131054, 2500, 1200, 5, 2499] rfl rfl 3 26⟩
  case round =>
    obtain ⟨i, hi, rfl, hK⟩ := hrel
    have HK := Lib.hid hK
    clear hK
    by_cases hlt : i < 3
    · have d1 : decide ((i : Int) < 3) = true := by rw [decide_eq_true_eq]; omega
      go_wp2_with fail
      obtain ⟨wo, rfl⟩ : ∃ wo : World, wo = wr := ⟨_, rfl⟩
      go_loopw [4] (fun s wr => ∃ k : Nat, k ≤ 19 ∧ s = .int .i64 k ∧ KnW w wr) (fun s _ => 20 - (intOf s).toNat)
      case atStart => exact ⟨0, by omega, rfl, HK.out⟩
      case round =>
        obtain ⟨k, hk, rfl, hK⟩ := hrel
        have HK := Lib.hid hK
        clear hK
        by_cases hlk : k < 19
        · have d2 : decide ((k : Int) < 19) = true := by rw [decide_eq_true_eq]; omega
          have i0 : (0 : Int) ≤ (i : Int) := by omega
          have i1 : (i : Int) < 3 := by omega
          have k0 : (0 : Int) ≤ (k : Int) := by omega
          have k1 : (k : Int) < 19 := by omega
          obtain ⟨d, m, c, t, s, r, c0, c1, c2, c3, c4, c5⟩ := HK.out.good i hlt
          go_wp2_with fail
          go_still_tail 24, (by kernel_rfl)
          change wpList _ _ _ _ _ wr.drew
          obtain ⟨wd, hwd⟩ : ∃ W, wr.drew = W := ⟨_, rfl⟩
          rw [hwd]
          have HKd : Hid (KnW w wd) := hwd ▸ HK.out.kept ((Below.refl _ _).drew)
          clear hwd c0 c1 c2 c3 c4 c5
          go_upto_region 10 with (fail)
          obtain ⟨W5, hW5⟩ : ∃ W, wd.alloc (.cells #[.int .i64 d, .int .i64 m, .int .i64 c, .int .i64 t, .int .i64 s, .int .i64 r, .int .i64 d, .int .i64 m, .int .i64 c, .int .i64 t, .int .i64 s, .int .i64 r, .int .i64 d, .int .i64 m, .int .i64 c, .int .i64 t, .int .i64 s, .int .i64 r, .int .i64 d, .int .i64 m, .int .i64 c, .int .i64 t, .int .i64 s, .int .i64 r, .int .i64 d, .int .i64 m, .int .i64 c, .int .i64 t, .int .i64 s, .int .i64 r, .int .i64 d, .int .i64 m, .int .i64 c, .int .i64 t, .int .i64 s, .int .i64 r] 26) = W := ⟨_, rfl⟩
          rw [hW5]
          have HK5 : Hid (KnW w W5) := hW5 ▸ HKd.out.kept ((Below.refl _ _).alloc (Nat.le_refl _) _)
          have HL5 : Hid (Below wd.heap.size wd W5) := hW5 ▸ (Below.refl _ _).alloc (Nat.le_refl _) _
          have hl5 : wd.heap.size < W5.heap.size := by rw [← hW5]; simp
          obtain ⟨ve, hve⟩ := HK5.out.end_ k hlk
          have hn5 : Nums W5 wd.heap.size 36 := hW5 ▸ Nums.new wd [d, m, c, t, s, r, d, m, c, t, s, r, d, m, c, t, s, r, d, m, c, t, s, r, d, m, c, t, s, r, d, m, c, t, s, r] 26
          have hfz : ∀ j, W5.frozen? ⟨wd.heap.size, j, none⟩ = false := fun j => by rw [← hW5]; exact fz_new _ _ _ _
          clear hW5
          have HVE := Lib.hid hve
          have hgd : w.heap.size < wd.heap.size := Nat.lt_of_succ_lt HKd.out.lt
          have HS : ∀ w', Nums w' wd.heap.size 36 → Below wd.heap.size W5 w' → w'.cell? ⟨w.heap.size, k, none⟩ = some (.int .i64 ve) ∧ Nums w' wd.heap.size 36 ∧ Below wd.heap.size W5 w' := fun w' hn hb => ⟨oldcellB HVE.out hb hgd, hn, hb⟩
          obtain ⟨y0, hy0⟩ := hn5 0 (by omega)
          obtain ⟨y1, hy1⟩ := hn5 7 (by omega)
          obtain ⟨y2, hy2⟩ := hn5 14 (by omega)
          obtain ⟨y3, hy3⟩ := hn5 21 (by omega)
          obtain ⟨y4, hy4⟩ := hn5 28 (by omega)
          obtain ⟨y5, hy5⟩ := hn5 35 (by omega)
          have hbR := Below.refl wd.heap.size W5
          go_cut [] from 19 to 155 (fun wx => KnW w wx ∧ wd.heap.size < wx.heap.size ∧ Ws wx wd.heap.size 6)
          case first =>
            go_region_held3 (fun w' => w'.cell? ⟨w.heap.size, k, none⟩ = some (.int .i64 ve) ∧ Nums w' wd.heap.size 36 ∧ Below wd.heap.size W5 w')
              ((refine HS _ ?_ ?_ <;> (repeat (first | (with_reducible assumption) | (with_reducible refine Nums.drew ?_) | (with_reducible refine Nums.set ?_ _ _) | (with_reducible refine Below.drew ?_) | (with_reducible refine bset1 ?_ _ _)))))
              (fail)
            all_goals
              go_wp2_with fail
              go_meet
              rename_i hH
              exact ⟨HKd.out.keptB HL5.out hH.2.2, Nat.lt_of_lt_of_le hl5 hH.2.2.size, hH.2.1.ws⟩
          case rest =>
            obtain ⟨hKx, hlx, hWx⟩ := hcut
            clear hy0 hy1 hy2 hy3 hy4 hy5 hbR HS hfz hn5 HK5 hl5
            obtain ⟨g, hg⟩ : ∃ g, wd.heap.size = g := ⟨_, rfl⟩
            have HKX := Lib.hid hKx
            have HWX := Lib.hid hWx
            have HLX := Lib.hid hlx
            clear hKx hWx hlx
            go_upto_region 11 with (fail)
            rw [hg] at HWX HLX ⊢
            clear hg hgd HKd
            clear HL5 HVE hve
            clear W5 wd
            go_wp2_with fail
            obtain ⟨wp, rfl⟩ : ∃ wp : World, wp = wc := ⟨_, rfl⟩
            go_loopw [6] (fun s wr => ∃ n : Nat, n ≤ 6 ∧ s = .int .i64 n ∧ KnW w wr ∧ g < wr.heap.size ∧ Ws wr g 6) (fun s _ => 7 - (intOf s).toNat)
            case atStart => exact ⟨0, by omega, rfl, HKX.out, HLX.out, HWX.out⟩
            case round =>
              obtain ⟨n, hn, rfl, hKa, hla, hWa⟩ := hrel
              have HKA := Lib.hid hKa
              have HLA := Lib.hid hla
              have HWA := Lib.hid hWa
              clear hKa hla hWa
              by_cases hln : n < 6
              · have d3 : decide ((n : Int) < 6) = true := by rw [decide_eq_true_eq]; omega
                go_wp2_with fail
                obtain ⟨wq, rfl⟩ : ∃ wq : World, wq = wr := ⟨_, rfl⟩
                go_loopw [7] (fun s wr => ∃ m : Nat, m ≤ 19 ∧ s = .int .i64 m ∧ KnW w wr ∧ g < wr.heap.size ∧ Ws wr g 6) (fun s _ => 20 - (intOf s).toNat)
                case atStart => exact ⟨0, by omega, rfl, HKA.out, HLA.out, HWA.out⟩
                case round =>
                  obtain ⟨m, hm, rfl, hKb, hlb, hWb⟩ := hrel
                  have HKB := Lib.hid hKb
                  have HLB := Lib.hid hlb
                  have HWB := Lib.hid hWb
                  clear hKb hlb hWb
                  by_cases hlm : m < 19
                  · have d4 : decide ((m : Int) < 19) = true := by rw [decide_eq_true_eq]; omega
                    have n0 : (0 : Int) ≤ (n : Int) := by omega
                    have n1 : (n : Int) < 6 := by omega
                    have m0 : (0 : Int) ≤ (m : Int) := by omega
                    have m1 : (m : Int) < 19 := by omega
                    obtain ⟨vk, hvk⟩ := HKB.out.end_ k hlk
                    obtain ⟨vm, hvm⟩ := HKB.out.end_ m hlm
                    obtain ⟨a0, a1, a2, a3, a4, a5, qa0, qa1, qa2, qa3, qa4, qa5⟩ := HKB.out.good i hlt
                    obtain ⟨b0, b1, b2, b3, b4, b5, qb0, qb1, qb2, qb3, qb4, qb5⟩ := HWB.out n hln
                    go_upto_region 17 with (fail)
                    have HS : ∀ w', Below wr.heap.size wr w' → (w'.cell? ⟨w.heap.size, k, none⟩ = some (.int .i64 vk)) ∧ (w'.cell? ⟨w.heap.size, m, none⟩ = some (.int .i64 vm)) ∧ (w'.cell? ⟨w.heap.size + 1, i * 6, none⟩ = some (.int .i64 a0) ∧ w'.cell? ⟨w.heap.size + 1, i * 6 + 1, none⟩ = some (.int .i64 a1) ∧ w'.cell? ⟨w.heap.size + 1, i * 6 + 2, none⟩ = some (.int .i64 a2) ∧ w'.cell? ⟨w.heap.size + 1, i * 6 + 3, none⟩ = some (.int .i64 a3) ∧ w'.cell? ⟨w.heap.size + 1, i * 6 + 4, none⟩ = some (.int .i64 a4) ∧ w'.cell? ⟨w.heap.size + 1, i * 6 + 5, none⟩ = some (.int .i64 a5)) ∧ (w'.cell? ⟨g, n * 6, none⟩ = some (.int .i64 b0) ∧ w'.cell? ⟨g, n * 6 + 1, none⟩ = some (.int .i64 b1) ∧ w'.cell? ⟨g, n * 6 + 2, none⟩ = some (.int .i64 b2) ∧ w'.cell? ⟨g, n * 6 + 3, none⟩ = some (.int .i64 b3) ∧ w'.cell? ⟨g, n * 6 + 4, none⟩ = some (.int .i64 b4) ∧ w'.cell? ⟨g, n * 6 + 5, none⟩ = some (.int .i64 b5)) ∧ Below wr.heap.size wr w' := fun w' hb => by
                      have l0 : w.heap.size < wr.heap.size := Nat.lt_of_succ_lt HKB.out.lt
                      have l1 := HKB.out.lt
                      have l2 := HLB.out
                      exact ⟨oldcell hvk hb l0, oldcell hvm hb l0, ⟨oldcell qa0 hb l1, oldcell qa1 hb l1, oldcell qa2 hb l1, oldcell qa3 hb l1, oldcell qa4 hb l1, oldcell qa5 hb l1⟩, ⟨oldcell qb0 hb l2, oldcell qb1 hb l2, oldcell qb2 hb l2, oldcell qb3 hb l2, oldcell qb4 hb l2, oldcell qb5 hb l2⟩, hb⟩
                    have hbR := Below.refl wr.heap.size wr
                    clear hvk hvm qa0 qa1 qa2 qa3 qa4 qa5 qb0 qb1 qb2 qb3 qb4 qb5
                    go_region_held3 (fun w' => (w'.cell? ⟨w.heap.size, k, none⟩ = some (.int .i64 vk)) ∧ (w'.cell? ⟨w.heap.size, m, none⟩ = some (.int .i64 vm)) ∧ (w'.cell? ⟨w.heap.size + 1, i * 6, none⟩ = some (.int .i64 a0) ∧ w'.cell? ⟨w.heap.size + 1, i * 6 + 1, none⟩ = some (.int .i64 a1) ∧ w'.cell? ⟨w.heap.size + 1, i * 6 + 2, none⟩ = some (.int .i64 a2) ∧ w'.cell? ⟨w.heap.size + 1, i * 6 + 3, none⟩ = some (.int .i64 a3) ∧ w'.cell? ⟨w.heap.size + 1, i * 6 + 4, none⟩ = some (.int .i64 a4) ∧ w'.cell? ⟨w.heap.size + 1, i * 6 + 5, none⟩ = some (.int .i64 a5)) ∧ (w'.cell? ⟨g, n * 6, none⟩ = some (.int .i64 b0) ∧ w'.cell? ⟨g, n * 6 + 1, none⟩ = some (.int .i64 b1) ∧ w'.cell? ⟨g, n * 6 + 2, none⟩ = some (.int .i64 b2) ∧ w'.cell? ⟨g, n * 6 + 3, none⟩ = some (.int .i64 b3) ∧ w'.cell? ⟨g, n * 6 + 4, none⟩ = some (.int .i64 b4) ∧ w'.cell? ⟨g, n * 6 + 5, none⟩ = some (.int .i64 b5)) ∧ Below wr.heap.size wr w')
                      ((refine HS _ ?_; (first | (with_reducible assumption) | (with_reducible exact Below.drew (by assumption)))))
                      ((go_at_call 5; refine (tells6 _ _ _ _ _ _ _ _ _ _ _ _ _ _ _ _).mono ?_; rintro e w7 ⟨rfl, hbb7⟩; have hb7 : Below wr.heap.size wr w7 := below_to (by (first | (with_reducible assumption) | (with_reducible exact Below.drew (by assumption)))) hbb7; clear hbb7))
                    all_goals
                      go_wp2_with fail
                      rename_i hH
                      go_roundw
                      case rel => exact ⟨m + 1, by omega, by go_num, HKB.out.kept hH.2.2.2.2, Nat.lt_of_lt_of_le HLB.out hH.2.2.2.2.size, HWB.out.kept hH.2.2.2.2 HLB.out⟩
                      case measure => simp [intOf]; omega
                  · obtain rfl : m = 19 := by omega
                    go_wp2_with fail
                    go_roundw
                    case rel => exact ⟨n + 1, by omega, by go_num, HKB.out, HLB.out, HWB.out⟩
                    case measure => simp [intOf]; omega
              · obtain rfl : n = 6 := by omega
                go_wp2_with fail
                go_roundw
                case rel => exact ⟨k + 1, by omega, by go_num, HKA.out⟩
                case measure => simp [intOf]; omega
        · obtain rfl : k = 19 := by omega
          go_wp2_with fail
          go_roundw
          case rel => exact ⟨i + 1, by omega, by go_num, HK.out⟩
          case measure => simp [intOf]; omega
    · obtain rfl : i = 3 := by omega
      go_wp2_with fail
      refine (works_ok _).mono ?_
      rintro e w8 ⟨rfl, hb8⟩
      have H8 := Lib.hid ((HK.out.kept hb8).below)
      clear hb8
      go_wp2_with fail
      go_ret
      exact ⟨rfl, H8.out⟩
end Go.Proofs.Ytcjhankepchioaa
