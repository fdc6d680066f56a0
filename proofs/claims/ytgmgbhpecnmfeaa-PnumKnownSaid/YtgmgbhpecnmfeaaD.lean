/-
  Contracts of the reference's Whole: what it answers behind each greatest number, of 1 to 4 bytes; and its errors.
-/
import Derived.Test.YtgmgbhpecnmfeaaC
namespace Go.Proofs.Ytgmgbhpecnmfeaa
open Go.RowKit (wrap32 wrap64)
open Go.RowKit
set_option linter.unusedVariables false

theorem far_any (a b : Int) (w : World) (a0 : -1152921504606846976 ≤ a) (a1 : a ≤ 1152921504606846976) (b0 : -1152921504606846976 ≤ b) (b1 : b ≤ 1152921504606846976) :
    Calls Try.prog 22 #[.int .i64 a, .int .i64 b] w fun e w' => e = .returned (.int .i64 (farV a b)) ∧ w = w' := by
  go_enter Try.func22, Try.ntmps22
  go_wp2
  all_goals
    go_ret
    refine ⟨?_, rfl⟩
    unfold farV
    first | rfl | (rw [if_pos (by omega)]; rfl) | (rw [if_neg (by omega)]; rfl)

theorem rwhole_range (g : Int) (A : Option Addr) (n c : Nat) (w : World) (h : g < -1 ∨ 9007199254740991 < g) :
    Calls Try.prog 16 #[.int .i64 g, .slice A n c] w fun e w' => e = .returned (.tuple #[.int .i64 0, .int .i64 9]) ∧ w = w' := by
  have gn : ¬ g = -1 := by omega
  rcases h with h | h
  · go_enter Try.func16, Try.ntmps16
    go_wp2
    all_goals
      go_ret2
      exact ⟨rfl, rfl⟩
  · have h0 : 0 ≤ g := by omega
    have h2 : decide (g ≤ 9007199254740991) = false := by rw [decide_eq_false_iff_not]; omega
    go_enter Try.func16, Try.ntmps16
    go_wp2
    all_goals
      go_ret2
      exact ⟨rfl, rfl⟩
theorem rwhole_arg (g : Int) (A : Option Addr) (n c : Nat) (w : World) (g0 : -1 ≤ g) (g1 : g ≤ 9007199254740991) (h : n = 0 ∨ 4 < n) :
    Calls Try.prog 16 #[.int .i64 g, .slice A n c] w fun e w' => e = .returned (.tuple #[.int .i64 0, .int .i64 2]) ∧ w = w' := by
  by_cases hg : g = -1
  · subst hg
    rcases h with h | h
    · subst h
      go_enter Try.func16, Try.ntmps16
      go_wp2
      all_goals
        go_ret2
        exact ⟨rfl, rfl⟩
    · go_enter Try.func16, Try.ntmps16
      go_wp2
      all_goals
        go_ret2
        exact ⟨rfl, rfl⟩
  · have h0 : 0 ≤ g := by omega
    rcases h with h | h
    · subst h
      go_enter Try.func16, Try.ntmps16
      go_wp2
      all_goals
        go_ret2
        exact ⟨rfl, rfl⟩
    · go_enter Try.func16, Try.ntmps16
      go_wp2
      all_goals
        go_ret2
        exact ⟨rfl, rfl⟩

theorem half_1 (w : World) : Calls Try.prog 21 #[.int .i64 1] w fun e w' => e = .returned (.int .i64 128) ∧ w = w' := by
  go_enter Try.func21, Try.ntmps21
  go_wp2
  go_ret
  exact ⟨rfl, rfl⟩

theorem rwhole_core_1 (g q : Int) (Best : Int → Int → Prop) (b off c : Nat) (x0 : Int) (w : World) (g0 : 0 ≤ g) (g1 : g ≤ 9007199254740991) (a0 : 0 ≤ x0) (b0 : x0 ≤ 255)
    (c0 : w.cell? ⟨b, off, none⟩ = some (.int .u8 x0))
    (hq : (g + 1) / 256 = q) (q0 : 0 ≤ q) (q1 : q ≤ 35184372088832) (s0 : Best (-1) (-1)) (hs : ∀ i v, Best i v → Best (i + 1) (pick (g + 1) ((q + i) * 256 + x0) v)) :
    Calls Try.prog 16 #[.int .i64 g, .slice (some ⟨b, off, none⟩) 1 c] w fun e w' => (∃ r, Best 2 r ∧ e = .returned (.tuple #[.int .i64 r, .int .i64 0])) ∧ w = w' := by
  have gn : ¬ g = -1 := by omega
  have HS := Lib.hid hs
  clear hs
  go_enter Try.func16, Try.ntmps16
  go_wp2_with (first | (go_at_call 21; refine (half_1 _).mono ?_; rintro e w' ⟨rfl, rfl⟩) | go_in)
  refine wp_loop_rounds 3 ?_; repeat any_goals (rw [rounds_succ]; go_wp2_with (first | (go_at_call 21; refine (half_1 _).mono ?_; rintro e w' ⟨rfl, rfl⟩) | go_in))
  go_loop [9, 10] (fun best k => ∃ i r : Int, Best i r ∧ -1 ≤ r ∧ r ≤ 9007199254740991 ∧ -1 ≤ i ∧ i ≤ 2 ∧ k = .int .i64 i ∧ best = .int .i64 r) (fun _ k => (3 - intOf k).toNat)
  case atStart => exact ⟨-1, -1, s0, by omega, by omega, by omega, by omega, rfl, rfl⟩
  case round =>
    obtain ⟨i, r, hB, r0, r1, i0, i1, rfl, rfl⟩ := hrel
    by_cases hi : i ≤ 1
    · have hB' := HS.out i r hB
      obtain ⟨v, hv⟩ : ∃ v, (q + i) * 256 + x0 = v := ⟨_, rfl⟩
      rw [hv] at hB'
      have v0 : -256 ≤ v := by omega
      have v1 : v ≤ 18014398509481984 := by omega
      by_cases h0 : 0 ≤ v
      · by_cases h1 : v ≤ 9007199254740991
        · have iv : isV v := ⟨h0, h1⟩
          by_cases h2 : r < 0
          · rw [pick_yes iv (Or.inl h2)] at hB'
            go_wp2
            go_round
            case rel => exact ⟨i + 1, v, hB', by omega, by omega, by omega, by omega, rfl, rfl⟩
            case measure => simp [intOf]; omega
          · by_cases h3 : farV v (g + 1) ≤ farV r (g + 1)
            · rw [pick_yes iv (Or.inr h3)] at hB'
              go_wp2_with (first | (go_at_call 22; refine (far_any _ _ _ (by omega) (by omega) (by omega) (by omega)).mono ?_; rintro e w' ⟨rfl, rfl⟩) | go_in)
              go_round
              case rel => exact ⟨i + 1, v, hB', by omega, by omega, by omega, by omega, rfl, rfl⟩
              case measure => simp [intOf]; omega
            · rw [pick_far (by omega) (by omega)] at hB'
              go_wp2_with (first | (go_at_call 22; refine (far_any _ _ _ (by omega) (by omega) (by omega) (by omega)).mono ?_; rintro e w' ⟨rfl, rfl⟩) | go_in)
              go_round
              case rel => exact ⟨i + 1, r, hB', by omega, by omega, by omega, by omega, rfl, rfl⟩
              case measure => simp [intOf]; omega
        · rw [pick_no (fun h => h1 h.2)] at hB'
          have h2 : decide (v ≤ 9007199254740991) = false := by rw [decide_eq_false_iff_not]; exact h1
          go_wp2
          go_round
          case rel => exact ⟨i + 1, r, hB', by omega, by omega, by omega, by omega, rfl, rfl⟩
          case measure => simp [intOf]; omega
      · rw [pick_no (fun h => h0 h.1)] at hB'
        go_wp2
        go_round
        case rel => exact ⟨i + 1, r, hB', by omega, by omega, by omega, by omega, rfl, rfl⟩
        case measure => simp [intOf]; omega
    · obtain rfl : i = 2 := by omega
      go_wp2
      go_ret2
      exact ⟨⟨r, hB, rfl⟩, rfl⟩

theorem rwhole_none_1 (Best : Int → Int → Prop) (b off c : Nat) (x0 : Int) (w : World) (a0 : 0 ≤ x0) (b0 : x0 ≤ 255)
    (c0 : w.cell? ⟨b, off, none⟩ = some (.int .u8 x0))
    (s0 : Best (-1) (-1)) (hs : ∀ i v, Best i v → Best (i + 1) (pick 0 (i * 256 + x0) v)) :
    Calls Try.prog 16 #[.int .i64 (-1), .slice (some ⟨b, off, none⟩) 1 c] w fun e w' => (∃ r, Best 2 r ∧ e = .returned (.tuple #[.int .i64 r, .int .i64 0])) ∧ w = w' := by
  have HS := Lib.hid hs
  clear hs
  go_enter Try.func16, Try.ntmps16
  go_wp2_with (first | (go_at_call 21; refine (half_1 _).mono ?_; rintro e w' ⟨rfl, rfl⟩) | go_in)
  refine wp_loop_rounds 3 ?_; repeat any_goals (rw [rounds_succ]; go_wp2_with (first | (go_at_call 21; refine (half_1 _).mono ?_; rintro e w' ⟨rfl, rfl⟩) | go_in))
  go_loop [9, 10] (fun best k => ∃ i r : Int, Best i r ∧ -1 ≤ r ∧ r ≤ 9007199254740991 ∧ -1 ≤ i ∧ i ≤ 2 ∧ k = .int .i64 i ∧ best = .int .i64 r) (fun _ k => (3 - intOf k).toNat)
  case atStart => exact ⟨-1, -1, s0, by omega, by omega, by omega, by omega, rfl, rfl⟩
  case round =>
    obtain ⟨i, r, hB, r0, r1, i0, i1, rfl, rfl⟩ := hrel
    by_cases hi : i ≤ 1
    · have hB' := HS.out i r hB
      obtain ⟨v, hv⟩ : ∃ v, i * 256 + x0 = v := ⟨_, rfl⟩
      rw [hv] at hB'
      have v0 : -256 ≤ v := by omega
      have v1 : v ≤ 18014398509481984 := by omega
      by_cases h0 : 0 ≤ v
      · by_cases h1 : v ≤ 9007199254740991
        · have iv : isV v := ⟨h0, h1⟩
          by_cases h2 : r < 0
          · rw [pick_yes iv (Or.inl h2)] at hB'
            go_wp2
            go_round
            case rel => exact ⟨i + 1, v, hB', by omega, by omega, by omega, by omega, rfl, rfl⟩
            case measure => simp [intOf]; omega
          · by_cases h3 : farV v 0 ≤ farV r 0
            · rw [pick_yes iv (Or.inr h3)] at hB'
              go_wp2_with (first | (go_at_call 22; refine (far_any _ _ _ (by omega) (by omega) (by omega) (by omega)).mono ?_; rintro e w' ⟨rfl, rfl⟩) | go_in)
              go_round
              case rel => exact ⟨i + 1, v, hB', by omega, by omega, by omega, by omega, rfl, rfl⟩
              case measure => simp [intOf]; omega
            · rw [pick_far (by omega) (by omega)] at hB'
              go_wp2_with (first | (go_at_call 22; refine (far_any _ _ _ (by omega) (by omega) (by omega) (by omega)).mono ?_; rintro e w' ⟨rfl, rfl⟩) | go_in)
              go_round
              case rel => exact ⟨i + 1, r, hB', by omega, by omega, by omega, by omega, rfl, rfl⟩
              case measure => simp [intOf]; omega
        · rw [pick_no (fun h => h1 h.2)] at hB'
          have h2 : decide (v ≤ 9007199254740991) = false := by rw [decide_eq_false_iff_not]; exact h1
          go_wp2
          go_round
          case rel => exact ⟨i + 1, r, hB', by omega, by omega, by omega, by omega, rfl, rfl⟩
          case measure => simp [intOf]; omega
      · rw [pick_no (fun h => h0 h.1)] at hB'
        go_wp2
        go_round
        case rel => exact ⟨i + 1, r, hB', by omega, by omega, by omega, by omega, rfl, rfl⟩
        case measure => simp [intOf]; omega
    · obtain rfl : i = 2 := by omega
      go_wp2
      go_ret2
      exact ⟨⟨r, hB, rfl⟩, rfl⟩

theorem rwhole_1 (g : Int) (b off c : Nat) (x0 : Int) (w : World) (g0 : -1 ≤ g) (g1 : g ≤ 9007199254740991) (a0 : 0 ≤ x0) (b0 : x0 ≤ 255)
    (c0 : w.cell? ⟨b, off, none⟩ = some (.int .u8 x0)) :
    Calls Try.prog 16 #[.int .i64 g, .slice (some ⟨b, off, none⟩) 1 c] w fun e w' => e = .returned (.tuple #[.int .i64 (wholeV g x0 256), .int .i64 0]) ∧ w = w' := by
  rw [← whole_ref g _ 256 (by unfold Width; omega) g0 g1 (by omega) (by omega)]
  by_cases hg : g = -1
  · subst hg
    refine (rwhole_none_1 (BestV (-1) x0 256) b off c x0 w a0 b0 c0 (bestV_start _ _ _) ?_).mono ?_
    · intro i v h
      have := bestV_step h
      have e : ((-1 : Int) + 1) / 256 + i = i := by omega
      rw [e] at this
      exact this
    · rintro e w' ⟨⟨r, hr, rfl⟩, rfl⟩
      exact ⟨by rw [bestV_end hr], rfl⟩
  · refine (rwhole_core_1 g _ (BestV g x0 256) b off c x0 w (by omega) g1 a0 b0 c0 rfl (by omega) (by omega) (bestV_start _ _ _) (fun i v h => bestV_step h)).mono ?_
    rintro e w' ⟨⟨r, hr, rfl⟩, rfl⟩
    exact ⟨by rw [bestV_end hr], rfl⟩

theorem half_2 (w : World) : Calls Try.prog 21 #[.int .i64 2] w fun e w' => e = .returned (.int .i64 32768) ∧ w = w' := by
  go_enter Try.func21, Try.ntmps21
  go_wp2
  go_ret
  exact ⟨rfl, rfl⟩

theorem rwhole_core_2 (g q : Int) (Best : Int → Int → Prop) (b off c : Nat) (x0 x1 : Int) (w : World) (g0 : 0 ≤ g) (g1 : g ≤ 9007199254740991) (a0 : 0 ≤ x0) (b0 : x0 ≤ 255) (a1 : 0 ≤ x1) (b1 : x1 ≤ 255)
    (c0 : w.cell? ⟨b, off, none⟩ = some (.int .u8 x0)) (c1 : w.cell? ⟨b, off + 1, none⟩ = some (.int .u8 x1))
    (hq : (g + 1) / 65536 = q) (q0 : 0 ≤ q) (q1 : q ≤ 137438953472) (s0 : Best (-1) (-1)) (hs : ∀ i v, Best i v → Best (i + 1) (pick (g + 1) ((q + i) * 65536 + (x0 * 256 + x1)) v)) :
    Calls Try.prog 16 #[.int .i64 g, .slice (some ⟨b, off, none⟩) 2 c] w fun e w' => (∃ r, Best 2 r ∧ e = .returned (.tuple #[.int .i64 r, .int .i64 0])) ∧ w = w' := by
  have gn : ¬ g = -1 := by omega
  have HS := Lib.hid hs
  clear hs
  go_enter Try.func16, Try.ntmps16
  go_wp2_with (first | (go_at_call 21; refine (half_2 _).mono ?_; rintro e w' ⟨rfl, rfl⟩) | go_in)
  refine wp_loop_rounds 4 ?_; repeat any_goals (rw [rounds_succ]; go_wp2_with (first | (go_at_call 21; refine (half_2 _).mono ?_; rintro e w' ⟨rfl, rfl⟩) | go_in))
  go_loop [9, 10] (fun best k => ∃ i r : Int, Best i r ∧ -1 ≤ r ∧ r ≤ 9007199254740991 ∧ -1 ≤ i ∧ i ≤ 2 ∧ k = .int .i64 i ∧ best = .int .i64 r) (fun _ k => (3 - intOf k).toNat)
  case atStart => exact ⟨-1, -1, s0, by omega, by omega, by omega, by omega, rfl, rfl⟩
  case round =>
    obtain ⟨i, r, hB, r0, r1, i0, i1, rfl, rfl⟩ := hrel
    by_cases hi : i ≤ 1
    · have hB' := HS.out i r hB
      obtain ⟨v, hv⟩ : ∃ v, (q + i) * 65536 + (x0 * 256 + x1) = v := ⟨_, rfl⟩
      rw [hv] at hB'
      have v0 : -65536 ≤ v := by omega
      have v1 : v ≤ 18014398509481984 := by omega
      by_cases h0 : 0 ≤ v
      · by_cases h1 : v ≤ 9007199254740991
        · have iv : isV v := ⟨h0, h1⟩
          by_cases h2 : r < 0
          · rw [pick_yes iv (Or.inl h2)] at hB'
            go_wp2
            go_round
            case rel => exact ⟨i + 1, v, hB', by omega, by omega, by omega, by omega, rfl, rfl⟩
            case measure => simp [intOf]; omega
          · by_cases h3 : farV v (g + 1) ≤ farV r (g + 1)
            · rw [pick_yes iv (Or.inr h3)] at hB'
              go_wp2_with (first | (go_at_call 22; refine (far_any _ _ _ (by omega) (by omega) (by omega) (by omega)).mono ?_; rintro e w' ⟨rfl, rfl⟩) | go_in)
              go_round
              case rel => exact ⟨i + 1, v, hB', by omega, by omega, by omega, by omega, rfl, rfl⟩
              case measure => simp [intOf]; omega
            · rw [pick_far (by omega) (by omega)] at hB'
              go_wp2_with (first | (go_at_call 22; refine (far_any _ _ _ (by omega) (by omega) (by omega) (by omega)).mono ?_; rintro e w' ⟨rfl, rfl⟩) | go_in)
              go_round
              case rel => exact ⟨i + 1, r, hB', by omega, by omega, by omega, by omega, rfl, rfl⟩
              case measure => simp [intOf]; omega
        · rw [pick_no (fun h => h1 h.2)] at hB'
          have h2 : decide (v ≤ 9007199254740991) = false := by rw [decide_eq_false_iff_not]; exact h1
          go_wp2
          go_round
          case rel => exact ⟨i + 1, r, hB', by omega, by omega, by omega, by omega, rfl, rfl⟩
          case measure => simp [intOf]; omega
      · rw [pick_no (fun h => h0 h.1)] at hB'
        go_wp2
        go_round
        case rel => exact ⟨i + 1, r, hB', by omega, by omega, by omega, by omega, rfl, rfl⟩
        case measure => simp [intOf]; omega
    · obtain rfl : i = 2 := by omega
      go_wp2
      go_ret2
      exact ⟨⟨r, hB, rfl⟩, rfl⟩

theorem rwhole_none_2 (Best : Int → Int → Prop) (b off c : Nat) (x0 x1 : Int) (w : World) (a0 : 0 ≤ x0) (b0 : x0 ≤ 255) (a1 : 0 ≤ x1) (b1 : x1 ≤ 255)
    (c0 : w.cell? ⟨b, off, none⟩ = some (.int .u8 x0)) (c1 : w.cell? ⟨b, off + 1, none⟩ = some (.int .u8 x1))
    (s0 : Best (-1) (-1)) (hs : ∀ i v, Best i v → Best (i + 1) (pick 0 (i * 65536 + (x0 * 256 + x1)) v)) :
    Calls Try.prog 16 #[.int .i64 (-1), .slice (some ⟨b, off, none⟩) 2 c] w fun e w' => (∃ r, Best 2 r ∧ e = .returned (.tuple #[.int .i64 r, .int .i64 0])) ∧ w = w' := by
  have HS := Lib.hid hs
  clear hs
  go_enter Try.func16, Try.ntmps16
  go_wp2_with (first | (go_at_call 21; refine (half_2 _).mono ?_; rintro e w' ⟨rfl, rfl⟩) | go_in)
  refine wp_loop_rounds 4 ?_; repeat any_goals (rw [rounds_succ]; go_wp2_with (first | (go_at_call 21; refine (half_2 _).mono ?_; rintro e w' ⟨rfl, rfl⟩) | go_in))
  go_loop [9, 10] (fun best k => ∃ i r : Int, Best i r ∧ -1 ≤ r ∧ r ≤ 9007199254740991 ∧ -1 ≤ i ∧ i ≤ 2 ∧ k = .int .i64 i ∧ best = .int .i64 r) (fun _ k => (3 - intOf k).toNat)
  case atStart => exact ⟨-1, -1, s0, by omega, by omega, by omega, by omega, rfl, rfl⟩
  case round =>
    obtain ⟨i, r, hB, r0, r1, i0, i1, rfl, rfl⟩ := hrel
    by_cases hi : i ≤ 1
    · have hB' := HS.out i r hB
      obtain ⟨v, hv⟩ : ∃ v, i * 65536 + (x0 * 256 + x1) = v := ⟨_, rfl⟩
      rw [hv] at hB'
      have v0 : -65536 ≤ v := by omega
      have v1 : v ≤ 18014398509481984 := by omega
      by_cases h0 : 0 ≤ v
      · by_cases h1 : v ≤ 9007199254740991
        · have iv : isV v := ⟨h0, h1⟩
          by_cases h2 : r < 0
          · rw [pick_yes iv (Or.inl h2)] at hB'
            go_wp2
            go_round
            case rel => exact ⟨i + 1, v, hB', by omega, by omega, by omega, by omega, rfl, rfl⟩
            case measure => simp [intOf]; omega
          · by_cases h3 : farV v 0 ≤ farV r 0
            · rw [pick_yes iv (Or.inr h3)] at hB'
              go_wp2_with (first | (go_at_call 22; refine (far_any _ _ _ (by omega) (by omega) (by omega) (by omega)).mono ?_; rintro e w' ⟨rfl, rfl⟩) | go_in)
              go_round
              case rel => exact ⟨i + 1, v, hB', by omega, by omega, by omega, by omega, rfl, rfl⟩
              case measure => simp [intOf]; omega
            · rw [pick_far (by omega) (by omega)] at hB'
              go_wp2_with (first | (go_at_call 22; refine (far_any _ _ _ (by omega) (by omega) (by omega) (by omega)).mono ?_; rintro e w' ⟨rfl, rfl⟩) | go_in)
              go_round
              case rel => exact ⟨i + 1, r, hB', by omega, by omega, by omega, by omega, rfl, rfl⟩
              case measure => simp [intOf]; omega
        · rw [pick_no (fun h => h1 h.2)] at hB'
          have h2 : decide (v ≤ 9007199254740991) = false := by rw [decide_eq_false_iff_not]; exact h1
          go_wp2
          go_round
          case rel => exact ⟨i + 1, r, hB', by omega, by omega, by omega, by omega, rfl, rfl⟩
          case measure => simp [intOf]; omega
      · rw [pick_no (fun h => h0 h.1)] at hB'
        go_wp2
        go_round
        case rel => exact ⟨i + 1, r, hB', by omega, by omega, by omega, by omega, rfl, rfl⟩
        case measure => simp [intOf]; omega
    · obtain rfl : i = 2 := by omega
      go_wp2
      go_ret2
      exact ⟨⟨r, hB, rfl⟩, rfl⟩

theorem rwhole_2 (g : Int) (b off c : Nat) (x0 x1 : Int) (w : World) (g0 : -1 ≤ g) (g1 : g ≤ 9007199254740991) (a0 : 0 ≤ x0) (b0 : x0 ≤ 255) (a1 : 0 ≤ x1) (b1 : x1 ≤ 255)
    (c0 : w.cell? ⟨b, off, none⟩ = some (.int .u8 x0)) (c1 : w.cell? ⟨b, off + 1, none⟩ = some (.int .u8 x1)) :
    Calls Try.prog 16 #[.int .i64 g, .slice (some ⟨b, off, none⟩) 2 c] w fun e w' => e = .returned (.tuple #[.int .i64 (wholeV g (x0 * 256 + x1) 65536), .int .i64 0]) ∧ w = w' := by
  rw [← whole_ref g _ 65536 (by unfold Width; omega) g0 g1 (by omega) (by omega)]
  by_cases hg : g = -1
  · subst hg
    refine (rwhole_none_2 (BestV (-1) (x0 * 256 + x1) 65536) b off c x0 x1 w a0 b0 a1 b1 c0 c1 (bestV_start _ _ _) ?_).mono ?_
    · intro i v h
      have := bestV_step h
      have e : ((-1 : Int) + 1) / 65536 + i = i := by omega
      rw [e] at this
      exact this
    · rintro e w' ⟨⟨r, hr, rfl⟩, rfl⟩
      exact ⟨by rw [bestV_end hr], rfl⟩
  · refine (rwhole_core_2 g _ (BestV g (x0 * 256 + x1) 65536) b off c x0 x1 w (by omega) g1 a0 b0 a1 b1 c0 c1 rfl (by omega) (by omega) (bestV_start _ _ _) (fun i v h => bestV_step h)).mono ?_
    rintro e w' ⟨⟨r, hr, rfl⟩, rfl⟩
    exact ⟨by rw [bestV_end hr], rfl⟩

theorem half_3 (w : World) : Calls Try.prog 21 #[.int .i64 3] w fun e w' => e = .returned (.int .i64 8388608) ∧ w = w' := by
  go_enter Try.func21, Try.ntmps21
  go_wp2
  go_ret
  exact ⟨rfl, rfl⟩

theorem rwhole_core_3 (g q : Int) (Best : Int → Int → Prop) (b off c : Nat) (x0 x1 x2 : Int) (w : World) (g0 : 0 ≤ g) (g1 : g ≤ 9007199254740991) (a0 : 0 ≤ x0) (b0 : x0 ≤ 255) (a1 : 0 ≤ x1) (b1 : x1 ≤ 255) (a2 : 0 ≤ x2) (b2 : x2 ≤ 255)
    (c0 : w.cell? ⟨b, off, none⟩ = some (.int .u8 x0)) (c1 : w.cell? ⟨b, off + 1, none⟩ = some (.int .u8 x1)) (c2 : w.cell? ⟨b, off + 2, none⟩ = some (.int .u8 x2))
    (hq : (g + 1) / 16777216 = q) (q0 : 0 ≤ q) (q1 : q ≤ 536870912) (s0 : Best (-1) (-1)) (hs : ∀ i v, Best i v → Best (i + 1) (pick (g + 1) ((q + i) * 16777216 + ((x0 * 256 + x1) * 256 + x2)) v)) :
    Calls Try.prog 16 #[.int .i64 g, .slice (some ⟨b, off, none⟩) 3 c] w fun e w' => (∃ r, Best 2 r ∧ e = .returned (.tuple #[.int .i64 r, .int .i64 0])) ∧ w = w' := by
  have gn : ¬ g = -1 := by omega
  have HS := Lib.hid hs
  clear hs
  go_enter Try.func16, Try.ntmps16
  go_wp2_with (first | (go_at_call 21; refine (half_3 _).mono ?_; rintro e w' ⟨rfl, rfl⟩) | go_in)
  refine wp_loop_rounds 5 ?_; repeat any_goals (rw [rounds_succ]; go_wp2_with (first | (go_at_call 21; refine (half_3 _).mono ?_; rintro e w' ⟨rfl, rfl⟩) | go_in))
  go_loop [9, 10] (fun best k => ∃ i r : Int, Best i r ∧ -1 ≤ r ∧ r ≤ 9007199254740991 ∧ -1 ≤ i ∧ i ≤ 2 ∧ k = .int .i64 i ∧ best = .int .i64 r) (fun _ k => (3 - intOf k).toNat)
  case atStart => exact ⟨-1, -1, s0, by omega, by omega, by omega, by omega, rfl, rfl⟩
  case round =>
    obtain ⟨i, r, hB, r0, r1, i0, i1, rfl, rfl⟩ := hrel
    by_cases hi : i ≤ 1
    · have hB' := HS.out i r hB
      obtain ⟨v, hv⟩ : ∃ v, (q + i) * 16777216 + ((x0 * 256 + x1) * 256 + x2) = v := ⟨_, rfl⟩
      rw [hv] at hB'
      have v0 : -16777216 ≤ v := by omega
      have v1 : v ≤ 18014398509481984 := by omega
      by_cases h0 : 0 ≤ v
      · by_cases h1 : v ≤ 9007199254740991
        · have iv : isV v := ⟨h0, h1⟩
          by_cases h2 : r < 0
          · rw [pick_yes iv (Or.inl h2)] at hB'
            go_wp2
            go_round
            case rel => exact ⟨i + 1, v, hB', by omega, by omega, by omega, by omega, rfl, rfl⟩
            case measure => simp [intOf]; omega
          · by_cases h3 : farV v (g + 1) ≤ farV r (g + 1)
            · rw [pick_yes iv (Or.inr h3)] at hB'
              go_wp2_with (first | (go_at_call 22; refine (far_any _ _ _ (by omega) (by omega) (by omega) (by omega)).mono ?_; rintro e w' ⟨rfl, rfl⟩) | go_in)
              go_round
              case rel => exact ⟨i + 1, v, hB', by omega, by omega, by omega, by omega, rfl, rfl⟩
              case measure => simp [intOf]; omega
            · rw [pick_far (by omega) (by omega)] at hB'
              go_wp2_with (first | (go_at_call 22; refine (far_any _ _ _ (by omega) (by omega) (by omega) (by omega)).mono ?_; rintro e w' ⟨rfl, rfl⟩) | go_in)
              go_round
              case rel => exact ⟨i + 1, r, hB', by omega, by omega, by omega, by omega, rfl, rfl⟩
              case measure => simp [intOf]; omega
        · rw [pick_no (fun h => h1 h.2)] at hB'
          have h2 : decide (v ≤ 9007199254740991) = false := by rw [decide_eq_false_iff_not]; exact h1
          go_wp2
          go_round
          case rel => exact ⟨i + 1, r, hB', by omega, by omega, by omega, by omega, rfl, rfl⟩
          case measure => simp [intOf]; omega
      · rw [pick_no (fun h => h0 h.1)] at hB'
        go_wp2
        go_round
        case rel => exact ⟨i + 1, r, hB', by omega, by omega, by omega, by omega, rfl, rfl⟩
        case measure => simp [intOf]; omega
    · obtain rfl : i = 2 := by omega
      go_wp2
      go_ret2
      exact ⟨⟨r, hB, rfl⟩, rfl⟩

theorem rwhole_none_3 (Best : Int → Int → Prop) (b off c : Nat) (x0 x1 x2 : Int) (w : World) (a0 : 0 ≤ x0) (b0 : x0 ≤ 255) (a1 : 0 ≤ x1) (b1 : x1 ≤ 255) (a2 : 0 ≤ x2) (b2 : x2 ≤ 255)
    (c0 : w.cell? ⟨b, off, none⟩ = some (.int .u8 x0)) (c1 : w.cell? ⟨b, off + 1, none⟩ = some (.int .u8 x1)) (c2 : w.cell? ⟨b, off + 2, none⟩ = some (.int .u8 x2))
    (s0 : Best (-1) (-1)) (hs : ∀ i v, Best i v → Best (i + 1) (pick 0 (i * 16777216 + ((x0 * 256 + x1) * 256 + x2)) v)) :
    Calls Try.prog 16 #[.int .i64 (-1), .slice (some ⟨b, off, none⟩) 3 c] w fun e w' => (∃ r, Best 2 r ∧ e = .returned (.tuple #[.int .i64 r, .int .i64 0])) ∧ w = w' := by
  have HS := Lib.hid hs
  clear hs
  go_enter Try.func16, Try.ntmps16
  go_wp2_with (first | (go_at_call 21; refine (half_3 _).mono ?_; rintro e w' ⟨rfl, rfl⟩) | go_in)
  refine wp_loop_rounds 5 ?_; repeat any_goals (rw [rounds_succ]; go_wp2_with (first | (go_at_call 21; refine (half_3 _).mono ?_; rintro e w' ⟨rfl, rfl⟩) | go_in))
  go_loop [9, 10] (fun best k => ∃ i r : Int, Best i r ∧ -1 ≤ r ∧ r ≤ 9007199254740991 ∧ -1 ≤ i ∧ i ≤ 2 ∧ k = .int .i64 i ∧ best = .int .i64 r) (fun _ k => (3 - intOf k).toNat)
  case atStart => exact ⟨-1, -1, s0, by omega, by omega, by omega, by omega, rfl, rfl⟩
  case round =>
    obtain ⟨i, r, hB, r0, r1, i0, i1, rfl, rfl⟩ := hrel
    by_cases hi : i ≤ 1
    · have hB' := HS.out i r hB
      obtain ⟨v, hv⟩ : ∃ v, i * 16777216 + ((x0 * 256 + x1) * 256 + x2) = v := ⟨_, rfl⟩
      rw [hv] at hB'
      have v0 : -16777216 ≤ v := by omega
      have v1 : v ≤ 18014398509481984 := by omega
      by_cases h0 : 0 ≤ v
      · by_cases h1 : v ≤ 9007199254740991
        · have iv : isV v := ⟨h0, h1⟩
          by_cases h2 : r < 0
          · rw [pick_yes iv (Or.inl h2)] at hB'
            go_wp2
            go_round
            case rel => exact ⟨i + 1, v, hB', by omega, by omega, by omega, by omega, rfl, rfl⟩
            case measure => simp [intOf]; omega
          · by_cases h3 : farV v 0 ≤ farV r 0
            · rw [pick_yes iv (Or.inr h3)] at hB'
              go_wp2_with (first | (go_at_call 22; refine (far_any _ _ _ (by omega) (by omega) (by omega) (by omega)).mono ?_; rintro e w' ⟨rfl, rfl⟩) | go_in)
              go_round
              case rel => exact ⟨i + 1, v, hB', by omega, by omega, by omega, by omega, rfl, rfl⟩
              case measure => simp [intOf]; omega
            · rw [pick_far (by omega) (by omega)] at hB'
              go_wp2_with (first | (go_at_call 22; refine (far_any _ _ _ (by omega) (by omega) (by omega) (by omega)).mono ?_; rintro e w' ⟨rfl, rfl⟩) | go_in)
              go_round
              case rel => exact ⟨i + 1, r, hB', by omega, by omega, by omega, by omega, rfl, rfl⟩
              case measure => simp [intOf]; omega
        · rw [pick_no (fun h => h1 h.2)] at hB'
          have h2 : decide (v ≤ 9007199254740991) = false := by rw [decide_eq_false_iff_not]; exact h1
          go_wp2
          go_round
          case rel => exact ⟨i + 1, r, hB', by omega, by omega, by omega, by omega, rfl, rfl⟩
          case measure => simp [intOf]; omega
      · rw [pick_no (fun h => h0 h.1)] at hB'
        go_wp2
        go_round
        case rel => exact ⟨i + 1, r, hB', by omega, by omega, by omega, by omega, rfl, rfl⟩
        case measure => simp [intOf]; omega
    · obtain rfl : i = 2 := by omega
      go_wp2
      go_ret2
      exact ⟨⟨r, hB, rfl⟩, rfl⟩

theorem rwhole_3 (g : Int) (b off c : Nat) (x0 x1 x2 : Int) (w : World) (g0 : -1 ≤ g) (g1 : g ≤ 9007199254740991) (a0 : 0 ≤ x0) (b0 : x0 ≤ 255) (a1 : 0 ≤ x1) (b1 : x1 ≤ 255) (a2 : 0 ≤ x2) (b2 : x2 ≤ 255)
    (c0 : w.cell? ⟨b, off, none⟩ = some (.int .u8 x0)) (c1 : w.cell? ⟨b, off + 1, none⟩ = some (.int .u8 x1)) (c2 : w.cell? ⟨b, off + 2, none⟩ = some (.int .u8 x2)) :
    Calls Try.prog 16 #[.int .i64 g, .slice (some ⟨b, off, none⟩) 3 c] w fun e w' => e = .returned (.tuple #[.int .i64 (wholeV g ((x0 * 256 + x1) * 256 + x2) 16777216), .int .i64 0]) ∧ w = w' := by
  rw [← whole_ref g _ 16777216 (by unfold Width; omega) g0 g1 (by omega) (by omega)]
  by_cases hg : g = -1
  · subst hg
    refine (rwhole_none_3 (BestV (-1) ((x0 * 256 + x1) * 256 + x2) 16777216) b off c x0 x1 x2 w a0 b0 a1 b1 a2 b2 c0 c1 c2 (bestV_start _ _ _) ?_).mono ?_
    · intro i v h
      have := bestV_step h
      have e : ((-1 : Int) + 1) / 16777216 + i = i := by omega
      rw [e] at this
      exact this
    · rintro e w' ⟨⟨r, hr, rfl⟩, rfl⟩
      exact ⟨by rw [bestV_end hr], rfl⟩
  · refine (rwhole_core_3 g _ (BestV g ((x0 * 256 + x1) * 256 + x2) 16777216) b off c x0 x1 x2 w (by omega) g1 a0 b0 a1 b1 a2 b2 c0 c1 c2 rfl (by omega) (by omega) (bestV_start _ _ _) (fun i v h => bestV_step h)).mono ?_
    rintro e w' ⟨⟨r, hr, rfl⟩, rfl⟩
    exact ⟨by rw [bestV_end hr], rfl⟩

theorem half_4 (w : World) : Calls Try.prog 21 #[.int .i64 4] w fun e w' => e = .returned (.int .i64 2147483648) ∧ w = w' := by
  go_enter Try.func21, Try.ntmps21
  go_wp2
  go_ret
  exact ⟨rfl, rfl⟩

theorem rwhole_core_4 (g q : Int) (Best : Int → Int → Prop) (b off c : Nat) (x0 x1 x2 x3 : Int) (w : World) (g0 : 0 ≤ g) (g1 : g ≤ 9007199254740991) (a0 : 0 ≤ x0) (b0 : x0 ≤ 255) (a1 : 0 ≤ x1) (b1 : x1 ≤ 255) (a2 : 0 ≤ x2) (b2 : x2 ≤ 255) (a3 : 0 ≤ x3) (b3 : x3 ≤ 255)
    (c0 : w.cell? ⟨b, off, none⟩ = some (.int .u8 x0)) (c1 : w.cell? ⟨b, off + 1, none⟩ = some (.int .u8 x1)) (c2 : w.cell? ⟨b, off + 2, none⟩ = some (.int .u8 x2)) (c3 : w.cell? ⟨b, off + 3, none⟩ = some (.int .u8 x3))
    (hq : (g + 1) / 4294967296 = q) (q0 : 0 ≤ q) (q1 : q ≤ 2097152) (s0 : Best (-1) (-1)) (hs : ∀ i v, Best i v → Best (i + 1) (pick (g + 1) ((q + i) * 4294967296 + (((x0 * 256 + x1) * 256 + x2) * 256 + x3)) v)) :
    Calls Try.prog 16 #[.int .i64 g, .slice (some ⟨b, off, none⟩) 4 c] w fun e w' => (∃ r, Best 2 r ∧ e = .returned (.tuple #[.int .i64 r, .int .i64 0])) ∧ w = w' := by
  have gn : ¬ g = -1 := by omega
  have HS := Lib.hid hs
  clear hs
  go_enter Try.func16, Try.ntmps16
  go_wp2_with (first | (go_at_call 21; refine (half_4 _).mono ?_; rintro e w' ⟨rfl, rfl⟩) | go_in)
  refine wp_loop_rounds 6 ?_; repeat any_goals (rw [rounds_succ]; go_wp2_with (first | (go_at_call 21; refine (half_4 _).mono ?_; rintro e w' ⟨rfl, rfl⟩) | go_in))
  go_loop [9, 10] (fun best k => ∃ i r : Int, Best i r ∧ -1 ≤ r ∧ r ≤ 9007199254740991 ∧ -1 ≤ i ∧ i ≤ 2 ∧ k = .int .i64 i ∧ best = .int .i64 r) (fun _ k => (3 - intOf k).toNat)
  case atStart => exact ⟨-1, -1, s0, by omega, by omega, by omega, by omega, rfl, rfl⟩
  case round =>
    obtain ⟨i, r, hB, r0, r1, i0, i1, rfl, rfl⟩ := hrel
    by_cases hi : i ≤ 1
    · have hB' := HS.out i r hB
      obtain ⟨v, hv⟩ : ∃ v, (q + i) * 4294967296 + (((x0 * 256 + x1) * 256 + x2) * 256 + x3) = v := ⟨_, rfl⟩
      rw [hv] at hB'
      have v0 : -4294967296 ≤ v := by omega
      have v1 : v ≤ 18014398509481984 := by omega
      by_cases h0 : 0 ≤ v
      · by_cases h1 : v ≤ 9007199254740991
        · have iv : isV v := ⟨h0, h1⟩
          by_cases h2 : r < 0
          · rw [pick_yes iv (Or.inl h2)] at hB'
            go_wp2
            go_round
            case rel => exact ⟨i + 1, v, hB', by omega, by omega, by omega, by omega, rfl, rfl⟩
            case measure => simp [intOf]; omega
          · by_cases h3 : farV v (g + 1) ≤ farV r (g + 1)
            · rw [pick_yes iv (Or.inr h3)] at hB'
              go_wp2_with (first | (go_at_call 22; refine (far_any _ _ _ (by omega) (by omega) (by omega) (by omega)).mono ?_; rintro e w' ⟨rfl, rfl⟩) | go_in)
              go_round
              case rel => exact ⟨i + 1, v, hB', by omega, by omega, by omega, by omega, rfl, rfl⟩
              case measure => simp [intOf]; omega
            · rw [pick_far (by omega) (by omega)] at hB'
              go_wp2_with (first | (go_at_call 22; refine (far_any _ _ _ (by omega) (by omega) (by omega) (by omega)).mono ?_; rintro e w' ⟨rfl, rfl⟩) | go_in)
              go_round
              case rel => exact ⟨i + 1, r, hB', by omega, by omega, by omega, by omega, rfl, rfl⟩
              case measure => simp [intOf]; omega
        · rw [pick_no (fun h => h1 h.2)] at hB'
          have h2 : decide (v ≤ 9007199254740991) = false := by rw [decide_eq_false_iff_not]; exact h1
          go_wp2
          go_round
          case rel => exact ⟨i + 1, r, hB', by omega, by omega, by omega, by omega, rfl, rfl⟩
          case measure => simp [intOf]; omega
      · rw [pick_no (fun h => h0 h.1)] at hB'
        go_wp2
        go_round
        case rel => exact ⟨i + 1, r, hB', by omega, by omega, by omega, by omega, rfl, rfl⟩
        case measure => simp [intOf]; omega
    · obtain rfl : i = 2 := by omega
      go_wp2
      go_ret2
      exact ⟨⟨r, hB, rfl⟩, rfl⟩

theorem rwhole_none_4 (Best : Int → Int → Prop) (b off c : Nat) (x0 x1 x2 x3 : Int) (w : World) (a0 : 0 ≤ x0) (b0 : x0 ≤ 255) (a1 : 0 ≤ x1) (b1 : x1 ≤ 255) (a2 : 0 ≤ x2) (b2 : x2 ≤ 255) (a3 : 0 ≤ x3) (b3 : x3 ≤ 255)
    (c0 : w.cell? ⟨b, off, none⟩ = some (.int .u8 x0)) (c1 : w.cell? ⟨b, off + 1, none⟩ = some (.int .u8 x1)) (c2 : w.cell? ⟨b, off + 2, none⟩ = some (.int .u8 x2)) (c3 : w.cell? ⟨b, off + 3, none⟩ = some (.int .u8 x3))
    (s0 : Best (-1) (-1)) (hs : ∀ i v, Best i v → Best (i + 1) (pick 0 (i * 4294967296 + (((x0 * 256 + x1) * 256 + x2) * 256 + x3)) v)) :
    Calls Try.prog 16 #[.int .i64 (-1), .slice (some ⟨b, off, none⟩) 4 c] w fun e w' => (∃ r, Best 2 r ∧ e = .returned (.tuple #[.int .i64 r, .int .i64 0])) ∧ w = w' := by
  have HS := Lib.hid hs
  clear hs
  go_enter Try.func16, Try.ntmps16
  go_wp2_with (first | (go_at_call 21; refine (half_4 _).mono ?_; rintro e w' ⟨rfl, rfl⟩) | go_in)
  refine wp_loop_rounds 6 ?_; repeat any_goals (rw [rounds_succ]; go_wp2_with (first | (go_at_call 21; refine (half_4 _).mono ?_; rintro e w' ⟨rfl, rfl⟩) | go_in))
  go_loop [9, 10] (fun best k => ∃ i r : Int, Best i r ∧ -1 ≤ r ∧ r ≤ 9007199254740991 ∧ -1 ≤ i ∧ i ≤ 2 ∧ k = .int .i64 i ∧ best = .int .i64 r) (fun _ k => (3 - intOf k).toNat)
  case atStart => exact ⟨-1, -1, s0, by omega, by omega, by omega, by omega, rfl, rfl⟩
  case round =>
    obtain ⟨i, r, hB, r0, r1, i0, i1, rfl, rfl⟩ := hrel
    by_cases hi : i ≤ 1
    · have hB' := HS.out i r hB
      obtain ⟨v, hv⟩ : ∃ v, i * 4294967296 + (((x0 * 256 + x1) * 256 + x2) * 256 + x3) = v := ⟨_, rfl⟩
      rw [hv] at hB'
      have v0 : -4294967296 ≤ v := by omega
      have v1 : v ≤ 18014398509481984 := by omega
      by_cases h0 : 0 ≤ v
      · by_cases h1 : v ≤ 9007199254740991
        · have iv : isV v := ⟨h0, h1⟩
          by_cases h2 : r < 0
          · rw [pick_yes iv (Or.inl h2)] at hB'
            go_wp2
            go_round
            case rel => exact ⟨i + 1, v, hB', by omega, by omega, by omega, by omega, rfl, rfl⟩
            case measure => simp [intOf]; omega
          · by_cases h3 : farV v 0 ≤ farV r 0
            · rw [pick_yes iv (Or.inr h3)] at hB'
              go_wp2_with (first | (go_at_call 22; refine (far_any _ _ _ (by omega) (by omega) (by omega) (by omega)).mono ?_; rintro e w' ⟨rfl, rfl⟩) | go_in)
              go_round
              case rel => exact ⟨i + 1, v, hB', by omega, by omega, by omega, by omega, rfl, rfl⟩
              case measure => simp [intOf]; omega
            · rw [pick_far (by omega) (by omega)] at hB'
              go_wp2_with (first | (go_at_call 22; refine (far_any _ _ _ (by omega) (by omega) (by omega) (by omega)).mono ?_; rintro e w' ⟨rfl, rfl⟩) | go_in)
              go_round
              case rel => exact ⟨i + 1, r, hB', by omega, by omega, by omega, by omega, rfl, rfl⟩
              case measure => simp [intOf]; omega
        · rw [pick_no (fun h => h1 h.2)] at hB'
          have h2 : decide (v ≤ 9007199254740991) = false := by rw [decide_eq_false_iff_not]; exact h1
          go_wp2
          go_round
          case rel => exact ⟨i + 1, r, hB', by omega, by omega, by omega, by omega, rfl, rfl⟩
          case measure => simp [intOf]; omega
      · rw [pick_no (fun h => h0 h.1)] at hB'
        go_wp2
        go_round
        case rel => exact ⟨i + 1, r, hB', by omega, by omega, by omega, by omega, rfl, rfl⟩
        case measure => simp [intOf]; omega
    · obtain rfl : i = 2 := by omega
      go_wp2
      go_ret2
      exact ⟨⟨r, hB, rfl⟩, rfl⟩

theorem rwhole_4 (g : Int) (b off c : Nat) (x0 x1 x2 x3 : Int) (w : World) (g0 : -1 ≤ g) (g1 : g ≤ 9007199254740991) (a0 : 0 ≤ x0) (b0 : x0 ≤ 255) (a1 : 0 ≤ x1) (b1 : x1 ≤ 255) (a2 : 0 ≤ x2) (b2 : x2 ≤ 255) (a3 : 0 ≤ x3) (b3 : x3 ≤ 255)
    (c0 : w.cell? ⟨b, off, none⟩ = some (.int .u8 x0)) (c1 : w.cell? ⟨b, off + 1, none⟩ = some (.int .u8 x1)) (c2 : w.cell? ⟨b, off + 2, none⟩ = some (.int .u8 x2)) (c3 : w.cell? ⟨b, off + 3, none⟩ = some (.int .u8 x3)) :
    Calls Try.prog 16 #[.int .i64 g, .slice (some ⟨b, off, none⟩) 4 c] w fun e w' => e = .returned (.tuple #[.int .i64 (wholeV g (((x0 * 256 + x1) * 256 + x2) * 256 + x3) 4294967296), .int .i64 0]) ∧ w = w' := by
  rw [← whole_ref g _ 4294967296 (by unfold Width; omega) g0 g1 (by omega) (by omega)]
  by_cases hg : g = -1
  · subst hg
    refine (rwhole_none_4 (BestV (-1) (((x0 * 256 + x1) * 256 + x2) * 256 + x3) 4294967296) b off c x0 x1 x2 x3 w a0 b0 a1 b1 a2 b2 a3 b3 c0 c1 c2 c3 (bestV_start _ _ _) ?_).mono ?_
    · intro i v h
      have := bestV_step h
      have e : ((-1 : Int) + 1) / 4294967296 + i = i := by omega
      rw [e] at this
      exact this
    · rintro e w' ⟨⟨r, hr, rfl⟩, rfl⟩
      exact ⟨by rw [bestV_end hr], rfl⟩
  · refine (rwhole_core_4 g _ (BestV g (((x0 * 256 + x1) * 256 + x2) * 256 + x3) 4294967296) b off c x0 x1 x2 x3 w (by omega) g1 a0 b0 a1 b1 a2 b2 a3 b3 c0 c1 c2 c3 rfl (by omega) (by omega) (bestV_start _ _ _) (fun i v h => bestV_step h)).mono ?_
    rintro e w' ⟨⟨r, hr, rfl⟩, rfl⟩
    exact ⟨by rw [bestV_end hr], rfl⟩

theorem rwhole_any (g : Int) (A : Option Addr) (n c : Nat) (xs : List Int) (w : World) (g0 : -1 ≤ g) (g1 : g ≤ 9007199254740991) (h : Bs w A n xs) (n0 : 1 ≤ n) (n1 : n ≤ 4) :
    Calls Try.prog 16 #[.int .i64 g, .slice A n c] w fun e w' => e = .returned (.tuple #[.int .i64 (wholeV g (cutV xs) (allV n)), .int .i64 0]) ∧ w = w' := by
  obtain ⟨hl, hb, hcc⟩ := h
  obtain ⟨b, off, rfl, hc⟩ := hcc (by omega)
  clear hcc
  match xs, hl with
  | [x0], hl =>
    subst hl
    have B0 := hb x0 (by simp)
    have C0 := hc 0 (by simp)
    clear hc hb
    simp only [List.getD_cons_zero, Nat.add_zero] at C0
    have e : cutV [x0] = x0 := by simp [cutV]
    rw [e]
    exact rwhole_1 g b off c x0 w g0 g1 B0.1 B0.2 C0
  | [x0, x1], hl =>
    subst hl
    have B0 := hb x0 (by simp)
    have C0 := hc 0 (by simp)
    have B1 := hb x1 (by simp)
    have C1 := hc 1 (by simp)
    clear hc hb
    simp only [List.getD_cons_zero, List.getD_cons_succ, Nat.add_zero] at C0 C1
    have e : cutV [x0, x1] = x0 * 256 + x1 := by simp [cutV]
    rw [e]
    exact rwhole_2 g b off c x0 x1 w g0 g1 B0.1 B0.2 B1.1 B1.2 C0 C1
  | [x0, x1, x2], hl =>
    subst hl
    have B0 := hb x0 (by simp)
    have C0 := hc 0 (by simp)
    have B1 := hb x1 (by simp)
    have C1 := hc 1 (by simp)
    have B2 := hb x2 (by simp)
    have C2 := hc 2 (by simp)
    clear hc hb
    simp only [List.getD_cons_zero, List.getD_cons_succ, Nat.add_zero] at C0 C1 C2
    have e : cutV [x0, x1, x2] = (x0 * 256 + x1) * 256 + x2 := by simp [cutV]
    rw [e]
    exact rwhole_3 g b off c x0 x1 x2 w g0 g1 B0.1 B0.2 B1.1 B1.2 B2.1 B2.2 C0 C1 C2
  | [x0, x1, x2, x3], hl =>
    subst hl
    have B0 := hb x0 (by simp)
    have C0 := hc 0 (by simp)
    have B1 := hb x1 (by simp)
    have C1 := hc 1 (by simp)
    have B2 := hb x2 (by simp)
    have C2 := hc 2 (by simp)
    have B3 := hb x3 (by simp)
    have C3 := hc 3 (by simp)
    clear hc hb
    simp only [List.getD_cons_zero, List.getD_cons_succ, Nat.add_zero] at C0 C1 C2 C3
    have e : cutV [x0, x1, x2, x3] = ((x0 * 256 + x1) * 256 + x2) * 256 + x3 := by simp [cutV]
    rw [e]
    exact rwhole_4 g b off c x0 x1 x2 x3 w g0 g1 B0.1 B0.2 B1.1 B1.2 B2.1 B2.2 B3.1 B3.2 C0 C1 C2 C3
  | [], hl => subst hl; simp at n0
  | _ :: _ :: _ :: _ :: _ :: _, hl => simp only [List.length_cons] at hl; omega
end Go.Proofs.Ytgmgbhpecnmfeaa
