/-
  Contracts of Marked, of both texts.
-/
import Derived.Test.YtiocifmebnaabaaA
namespace Go.Proofs.Ytiocifmebnaabaa
open Go.RowKit (wrap32 wrap64)
open Go.RowKit
set_option linter.unusedVariables false

theorem marked_bad (n a b c : Int) (f : Bool) (w : World) (h : ¬ OkC n a b c) :
    Calls Try.prog 8 #[.agg #[.int .i64 n, .int .i64 a, .int .i64 b, .int .i64 c, .bool f]] w fun e w' => e = .returned (.tuple #[.agg #[.int .i64 0, .int .i64 0, .int .i64 0, .int .i64 0, .bool false], .int .i64 2]) ∧ Below w.heap.size w w' := by
  have e1 : checkE n a b c = 2 := if_neg h
  clear h
  go_enter Try.func8, Try.ntmps8
  go_wp2_with (first | (go_at_call 13; refine (check_any _ _ _ _ _ _).mono ?_; rintro e w1 ⟨rfl, rfl⟩; rw [e1]))
  go_returns
  exact ⟨rfl, by go_grown⟩
theorem marked_full (n a b c : Int) (f : Bool) (w : World) (h : OkC n a b c) (hn : n = 9007199254740991) :
    Calls Try.prog 8 #[.agg #[.int .i64 n, .int .i64 a, .int .i64 b, .int .i64 c, .bool f]] w fun e w' => e = .returned (.tuple #[.agg #[.int .i64 0, .int .i64 0, .int .i64 0, .int .i64 0, .bool false], .int .i64 9]) ∧ Below w.heap.size w w' := by
  have e1 : checkE n a b c = 0 := if_pos h
  clear h
  subst hn
  go_enter Try.func8, Try.ntmps8
  go_wp2_with (first | (go_at_call 13; refine (check_any _ _ _ _ _ _).mono ?_; rintro e w1 ⟨rfl, rfl⟩; rw [e1]))
  go_returns
  exact ⟨rfl, by go_grown⟩
theorem marked_ok (n a b c : Int) (f : Bool) (w : World) (h : OkC n a b c) (hn : n < 9007199254740991) :
    Calls Try.prog 8 #[.agg #[.int .i64 n, .int .i64 a, .int .i64 b, .int .i64 c, .bool f]] w fun e w' => e = .returned (.tuple #[.agg #[.int .i64 (n + 1), .int .i64 a, .int .i64 b, .int .i64 c, .bool f], .int .i64 0]) ∧ Below w.heap.size w w' := by
  have e1 : checkE n a b c = 0 := if_pos h
  have n0 : 0 ≤ n := h.1.1
  clear h
  go_enter Try.func8, Try.ntmps8
  go_wp2_with (first | (go_at_call 13; refine (check_any _ _ _ _ _ _).mono ?_; rintro e w1 ⟨rfl, rfl⟩; rw [e1]))
  go_returns
  exact ⟨rfl, by go_grown⟩

/-! The reference's. -/
theorem three_yes (a b c : Int) (w : World) (h1 : Num a) (h2 : Num b) (h3 : Num c) :
    Calls Try.prog 22 #[.agg #[.int .i64 a, .int .i64 b, .int .i64 c]] w fun e w' => e = .returned (.bool true) ∧ w.alloc (.cells #[.int .i64 a, .int .i64 b, .int .i64 c] 22) = w' := by
  obtain ⟨a1, b1⟩ := h1
  obtain ⟨a2, b2⟩ := h2
  obtain ⟨a3, b3⟩ := h3
  go_enter Try.func22, Try.ntmps22
  go_wp2
  go_ret
  exact ⟨rfl, rfl⟩
theorem three_no (a b c : Int) (w : World) (h : ¬ (Num a ∧ Num b ∧ Num c)) :
    Calls Try.prog 22 #[.agg #[.int .i64 a, .int .i64 b, .int .i64 c]] w fun e w' => e = .returned (.bool false) ∧ w.alloc (.cells #[.int .i64 a, .int .i64 b, .int .i64 c] 22) = w' := by
  by_cases h1 : Num a
  · by_cases h2 : Num b
    · have h3 : c < 0 ∨ 9007199254740991 < c := by unfold Num at h h1 h2; omega
      obtain ⟨a1, b1⟩ := h1
      obtain ⟨a2, b2⟩ := h2
      clear h
      rcases h3 with h3 | h3
      · go_enter Try.func22, Try.ntmps22
        go_wp2
        all_goals
          go_ret
          exact ⟨rfl, rfl⟩
      · have h4 : 0 ≤ c := by omega
        have h5 : decide (c ≤ 9007199254740991) = false := by rw [decide_eq_false_iff_not]; omega
        go_enter Try.func22, Try.ntmps22
        go_wp2
        all_goals
          go_ret
          exact ⟨rfl, rfl⟩
    · have h3 : b < 0 ∨ 9007199254740991 < b := by unfold Num at h2; omega
      obtain ⟨a1, b1⟩ := h1
      clear h h2
      rcases h3 with h3 | h3
      · go_enter Try.func22, Try.ntmps22
        go_wp2
        all_goals
          go_ret
          exact ⟨rfl, rfl⟩
      · have h4 : 0 ≤ b := by omega
        have h5 : decide (b ≤ 9007199254740991) = false := by rw [decide_eq_false_iff_not]; omega
        go_enter Try.func22, Try.ntmps22
        go_wp2
        all_goals
          go_ret
          exact ⟨rfl, rfl⟩
  · have h3 : a < 0 ∨ 9007199254740991 < a := by unfold Num at h1; omega
    clear h h1
    rcases h3 with h3 | h3
    · go_enter Try.func22, Try.ntmps22
      go_wp2
      all_goals
        go_ret
        exact ⟨rfl, rfl⟩
    · have h4 : 0 ≤ a := by omega
      have h5 : decide (a ≤ 9007199254740991) = false := by rw [decide_eq_false_iff_not]; omega
      go_enter Try.func22, Try.ntmps22
      go_wp2
      all_goals
        go_ret
        exact ⟨rfl, rfl⟩
theorem rcheck_yes (n a b c : Int) (f : Bool) (w : World) (h : OkC n a b c) :
    Calls Try.prog 14 #[.agg #[.int .i64 n, .int .i64 a, .int .i64 b, .int .i64 c, .bool f]] w fun e w' => e = .returned (.int .i64 0) ∧
      (w.alloc (.cells #[.int .i64 n, .int .i64 a, .int .i64 b, .int .i64 c, .bool f] 31)).alloc (.cells #[.int .i64 a, .int .i64 b, .int .i64 c] 22) = w' := by
  obtain ⟨⟨n0, n1⟩, ha, hb, hc⟩ := h
  go_enter Try.func14, Try.ntmps14
  go_wp2_with (first | (go_at_call 22; refine (three_yes _ _ _ _ ha hb hc).mono ?_; rintro e w1 ⟨rfl, rfl⟩) | go_in)
  go_ret
  exact ⟨rfl, rfl⟩
theorem rcheck_n (n a b c : Int) (f : Bool) (w : World) (h : ¬ Num n) :
    Calls Try.prog 14 #[.agg #[.int .i64 n, .int .i64 a, .int .i64 b, .int .i64 c, .bool f]] w fun e w' => e = .returned (.int .i64 2) ∧
      w.alloc (.cells #[.int .i64 n, .int .i64 a, .int .i64 b, .int .i64 c, .bool f] 31) = w' := by
  have h3 : n < 0 ∨ 9007199254740991 < n := by unfold Num at h; omega
  clear h
  rcases h3 with h3 | h3
  · go_enter Try.func14, Try.ntmps14
    go_wp2
    all_goals
      go_ret
      exact ⟨rfl, rfl⟩
  · have h4 : 0 ≤ n := by omega
    have h5 : decide (n ≤ 9007199254740991) = false := by rw [decide_eq_false_iff_not]; omega
    go_enter Try.func14, Try.ntmps14
    go_wp2
    all_goals
      go_ret
      exact ⟨rfl, rfl⟩
theorem rcheck_m (n a b c : Int) (f : Bool) (w : World) (h : Num n) (h' : ¬ (Num a ∧ Num b ∧ Num c)) :
    Calls Try.prog 14 #[.agg #[.int .i64 n, .int .i64 a, .int .i64 b, .int .i64 c, .bool f]] w fun e w' => e = .returned (.int .i64 2) ∧
      (w.alloc (.cells #[.int .i64 n, .int .i64 a, .int .i64 b, .int .i64 c, .bool f] 31)).alloc (.cells #[.int .i64 a, .int .i64 b, .int .i64 c] 22) = w' := by
  obtain ⟨n0, n1⟩ := h
  have H := Lib.hid h'
  clear h'
  go_enter Try.func14, Try.ntmps14
  go_wp2_with (first | (go_at_call 22; refine (three_no _ _ _ _ H.out).mono ?_; rintro e w1 ⟨rfl, rfl⟩) | go_in)
  go_ret
  exact ⟨rfl, rfl⟩
theorem rcheck_any (n a b c : Int) (f : Bool) (w : World) :
    Calls Try.prog 14 #[.agg #[.int .i64 n, .int .i64 a, .int .i64 b, .int .i64 c, .bool f]] w fun e w' => e = .returned (.int .i64 (checkE n a b c)) ∧ Below w.heap.size w w' := by
  by_cases h : OkC n a b c
  · rw [show checkE n a b c = 0 from if_pos h]
    refine (rcheck_yes n a b c f w h).mono ?_
    rintro e w' ⟨rfl, rfl⟩
    exact ⟨rfl, by go_grown⟩
  · rw [show checkE n a b c = 2 from if_neg h]
    by_cases hn : Num n
    · refine (rcheck_m n a b c f w hn (fun h' => h ⟨hn, h'⟩)).mono ?_
      rintro e w' ⟨rfl, rfl⟩
      exact ⟨rfl, by go_grown⟩
    · refine (rcheck_n n a b c f w hn).mono ?_
      rintro e w' ⟨rfl, rfl⟩
      exact ⟨rfl, by go_grown⟩

theorem rmarked_bad (n a b c : Int) (f : Bool) (w : World) (h : ¬ OkC n a b c) :
    Calls Try.prog 9 #[.agg #[.int .i64 n, .int .i64 a, .int .i64 b, .int .i64 c, .bool f]] w fun e w' => e = .returned (.tuple #[.agg #[.int .i64 0, .int .i64 0, .int .i64 0, .int .i64 0, .bool false], .int .i64 2]) ∧ Below w.heap.size w w' := by
  by_cases hn : Num n
  · have h' : Hid (¬ (Num a ∧ Num b ∧ Num c)) := fun h' => h ⟨hn, h'⟩
    have HN := Lib.hid hn
    clear h hn
    go_enter Try.func9, Try.ntmps9
    go_wp2_with (first | (go_at_call 14; refine (rcheck_m _ _ _ _ _ _ HN.out h'.out).mono ?_; rintro e w1 ⟨rfl, rfl⟩))
    go_returns
    exact ⟨rfl, by go_grown⟩
  · have HN := Lib.hid hn
    clear h hn
    go_enter Try.func9, Try.ntmps9
    go_wp2_with (first | (go_at_call 14; refine (rcheck_n _ _ _ _ _ _ HN.out).mono ?_; rintro e w1 ⟨rfl, rfl⟩))
    go_returns
    exact ⟨rfl, by go_grown⟩
theorem rmarked_full (n a b c : Int) (f : Bool) (w : World) (h : OkC n a b c) (hn : n = 9007199254740991) :
    Calls Try.prog 9 #[.agg #[.int .i64 n, .int .i64 a, .int .i64 b, .int .i64 c, .bool f]] w fun e w' => e = .returned (.tuple #[.agg #[.int .i64 0, .int .i64 0, .int .i64 0, .int .i64 0, .bool false], .int .i64 9]) ∧ Below w.heap.size w w' := by
  subst hn
  have H := Lib.hid h
  clear h
  go_enter Try.func9, Try.ntmps9
  go_wp2_with (first | (go_at_call 14; refine (rcheck_yes _ _ _ _ _ _ H.out).mono ?_; rintro e w1 ⟨rfl, rfl⟩))
  go_returns
  exact ⟨rfl, by go_grown⟩
theorem rmarked_ok (n a b c : Int) (f : Bool) (w : World) (h : OkC n a b c) (hn : n < 9007199254740991) :
    Calls Try.prog 9 #[.agg #[.int .i64 n, .int .i64 a, .int .i64 b, .int .i64 c, .bool f]] w fun e w' => e = .returned (.tuple #[.agg #[.int .i64 (n + 1), .int .i64 a, .int .i64 b, .int .i64 c, .bool f], .int .i64 0]) ∧ Below w.heap.size w w' := by
  have n0 : 0 ≤ n := h.1.1
  have H := Lib.hid h
  clear h
  go_enter Try.func9, Try.ntmps9
  go_wp2_with (first | (go_at_call 14; refine (rcheck_yes _ _ _ _ _ _ H.out).mono ?_; rintro e w1 ⟨rfl, rfl⟩))
  go_returns
  exact ⟨rfl, by go_grown⟩

/-- What Marked answers. -/
def mkN (n a b c : Int) : Int := if OkC n a b c ∧ n < 9007199254740991 then n + 1 else 0
def mkS (n a b c x : Int) : Int := if OkC n a b c ∧ n < 9007199254740991 then x else 0
def mkF (n a b c : Int) (f : Bool) : Bool := if OkC n a b c ∧ n < 9007199254740991 then f else false
def mkE (n a b c : Int) : Int := if OkC n a b c then (if n < 9007199254740991 then 0 else 9) else 2
theorem marked_any (n a b c : Int) (f : Bool) (w : World) :
    Calls Try.prog 8 #[.agg #[.int .i64 n, .int .i64 a, .int .i64 b, .int .i64 c, .bool f]] w fun e w' => e = .returned (.tuple #[.agg #[.int .i64 (mkN n a b c), .int .i64 (mkS n a b c a), .int .i64 (mkS n a b c b), .int .i64 (mkS n a b c c), .bool (mkF n a b c f)], .int .i64 (mkE n a b c)]) ∧ Below w.heap.size w w' := by
  unfold mkN mkS mkF mkE
  by_cases h : OkC n a b c
  · by_cases hn : n < 9007199254740991
    · simp only [h, hn, and_self, if_true]
      exact marked_ok n a b c f w h hn
    · simp only [h, hn, and_false, if_true, if_false]
      exact marked_full n a b c f w h (by have := h.1.2; omega)
  · simp only [h, false_and, if_false]
    exact marked_bad n a b c f w h
theorem rmarked_any (n a b c : Int) (f : Bool) (w : World) :
    Calls Try.prog 9 #[.agg #[.int .i64 n, .int .i64 a, .int .i64 b, .int .i64 c, .bool f]] w fun e w' => e = .returned (.tuple #[.agg #[.int .i64 (mkN n a b c), .int .i64 (mkS n a b c a), .int .i64 (mkS n a b c b), .int .i64 (mkS n a b c c), .bool (mkF n a b c f)], .int .i64 (mkE n a b c)]) ∧ Below w.heap.size w w' := by
  unfold mkN mkS mkF mkE
  by_cases h : OkC n a b c
  · by_cases hn : n < 9007199254740991
    · simp only [h, hn, and_self, if_true]
      exact rmarked_ok n a b c f w h hn
    · simp only [h, hn, and_false, if_true, if_false]
      exact rmarked_full n a b c f w h (by have := h.1.2; omega)
  · simp only [h, false_and, if_false]
    exact rmarked_bad n a b c f w h
end Go.Proofs.Ytiocifmebnaabaa
