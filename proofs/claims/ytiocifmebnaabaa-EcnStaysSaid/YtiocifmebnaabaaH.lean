/-
  Acked, the program's and the reference's: one result for both.
-/
import Derived.Test.YtiocifmebnaabaaG
namespace Go.Proofs.Ytiocifmebnaabaa
open Go.RowKit (wrap32 wrap64)
open Go.RowKit
set_option linter.unusedVariables false

/-- What Acked returns: a count, whether there is congestion, the error. -/
structure CR where
  n : Int
  a : Int
  b : Int
  c : Int
  f : Bool
  ce : Bool
  er : Int
def CR.v (r : CR) : Value := .tuple #[.agg #[.int .i64 r.n, .int .i64 r.a, .int .i64 r.b, .int .i64 r.c, .bool r.f], .bool r.ce, .int .i64 r.er]
/-- Does that frame fail the count? -/
def bad (n a b c : Int) (m : Bool) (e0 e1 e2 newly : Int) : Bool := if m = true then failsB n a b c e0 e1 e2 newly else decide (0 < newly)
def akR (n a b c : Int) (f m : Bool) (e0 e1 e2 newly : Int) : CR :=
  if OkC n a b c then
    if Num newly ∧ Num e0 ∧ Num e1 ∧ Num e2 then
      if f = true then ⟨n, a, b, c, true, false, 0⟩
      else if bad n a b c m e0 e1 e2 newly = true then ⟨n, a, b, c, true, false, 0⟩
      else if m = true then ⟨n, e0, e1, e2, false, decide (c < e2), 0⟩
      else ⟨n, a, b, c, false, false, 0⟩
    else ⟨0, 0, 0, 0, false, false, 9⟩
  else ⟨0, 0, 0, 0, false, false, 2⟩

theorem failsB_same (n a b c : Int) : failsB n a b c a b c 0 = decide (n < a + c) := by
  unfold failsB
  simp

theorem acked_any (n a b c : Int) (f : Bool) (d : Int) (A : Option Addr) (l k : Nat) (m : Bool) (e0 e1 e2 newly : Int) (w : World) :
    Calls Try.prog 11 #[.agg #[.int .i64 n, .int .i64 a, .int .i64 b, .int .i64 c, .bool f], .agg #[.int .i64 d, .slice A l k, .bool m, .int .i64 e0, .int .i64 e1, .int .i64 e2], .int .i64 newly] w fun e w' =>
      e = .returned (akR n a b c f m e0 e1 e2 newly).v ∧ Below w.heap.size w w' := by
  by_cases h : OkC n a b c
  · by_cases h' : Num newly ∧ Num e0 ∧ Num e1 ∧ Num e2
    · cases f
      · cases m
        · refine (acked_plain n a b c d A l k e0 e1 e2 newly w h h').mono ?_
          rintro e w' ⟨rfl, hb⟩
          refine ⟨?_, hb⟩
          rw [akR, if_pos h, if_pos h', if_neg (by decide)]
          by_cases hq : 0 < newly <;> simp [bad, CR.v, hq]
        · cases hF : failsB n a b c e0 e1 e2 newly
          · have hr : (akR n a b c false true e0 e1 e2 newly) = ⟨n, e0, e1, e2, false, decide (c < e2), 0⟩ := by
              rw [akR, if_pos h, if_pos h', if_neg (by decide), if_neg (by simp [bad, hF]), if_pos rfl]
            rw [hr]
            by_cases hs : e0 = a ∧ e1 = b ∧ e2 = c
            · obtain ⟨x0, x1, x2⟩ := hs
              subst x0 x1 x2
              have hc : decide (e2 < e2) = false := by simp
              by_cases hn : newly = 0
              · rw [hn, failsB_same] at hF
                refine (acked_same n _ _ _ d A l k _ _ _ newly w h h' rfl rfl rfl hn (by rw [decide_eq_false_iff_not] at hF; omega)).mono ?_
                rintro e w' ⟨rfl, hb⟩
                exact ⟨by simp only [CR.v, hc], hb⟩
              · refine (acked_zs n _ _ _ d A l k _ _ _ newly w h h' rfl rfl rfl hn hF).mono ?_
                rintro e w' ⟨rfl, hb⟩
                exact ⟨by simp only [CR.v, hc], hb⟩
            · exact acked_ns n a b c d A l k e0 e1 e2 newly w h h' hs hF
          · have hr : (akR n a b c false true e0 e1 e2 newly) = ⟨n, a, b, c, true, false, 0⟩ := by
              rw [akR, if_pos h, if_pos h', if_neg (by decide), if_pos (by simp [bad, hF])]
            rw [hr]
            by_cases hs : e0 = a ∧ e1 = b ∧ e2 = c
            · obtain ⟨x0, x1, x2⟩ := hs
              subst x0 x1 x2
              by_cases hn : newly = 0
              · have hF' := hF
                rw [hn, failsB_same] at hF'
                exact acked_over n _ _ _ d A l k _ _ _ newly w h h' rfl rfl rfl hn (of_decide_eq_true hF') hF
              · exact acked_zf n _ _ _ d A l k _ _ _ newly w h h' rfl rfl rfl hn hF
            · exact acked_nf n a b c d A l k e0 e1 e2 newly w h h' hs hF
      · rw [show (akR n a b c true m e0 e1 e2 newly) = ⟨n, a, b, c, true, false, 0⟩ by rw [akR, if_pos h, if_pos h', if_pos rfl]]
        exact acked_failed n a b c d A l k m e0 e1 e2 newly w h h'
    · rw [show (akR n a b c f m e0 e1 e2 newly) = ⟨0, 0, 0, 0, false, false, 9⟩ by rw [akR, if_pos h, if_neg h']]
      exact acked_range n a b c f d A l k m e0 e1 e2 newly w h h'
  · rw [show (akR n a b c f m e0 e1 e2 newly) = ⟨0, 0, 0, 0, false, false, 2⟩ by rw [akR, if_neg h]]
    exact acked_bad n a b c f d A l k m e0 e1 e2 newly w h

theorem racked_any (n a b c : Int) (f : Bool) (d : Int) (A : Option Addr) (l k : Nat) (m : Bool) (e0 e1 e2 newly : Int) (w : World) :
    Calls Try.prog 12 #[.agg #[.int .i64 n, .int .i64 a, .int .i64 b, .int .i64 c, .bool f], .agg #[.int .i64 d, .slice A l k, .bool m, .int .i64 e0, .int .i64 e1, .int .i64 e2], .int .i64 newly] w fun e w' =>
      e = .returned (akR n a b c f m e0 e1 e2 newly).v ∧ Below w.heap.size w w' := by
  by_cases h : OkC n a b c
  · by_cases h' : Num newly ∧ Num e0 ∧ Num e1 ∧ Num e2
    · cases f
      · cases hF : bad n a b c m e0 e1 e2 newly
        · cases m
          · rw [show (akR n a b c false false e0 e1 e2 newly) = ⟨n, a, b, c, false, false, 0⟩ by
              rw [akR, if_pos h, if_pos h', if_neg (by decide), if_neg (by simp [hF]), if_neg (by decide)]]
            exact racked_p n a b c d A l k e0 e1 e2 newly w h h' (by simpa [bad] using hF)
          · rw [show (akR n a b c false true e0 e1 e2 newly) = ⟨n, e0, e1, e2, false, decide (c < e2), 0⟩ by
              rw [akR, if_pos h, if_pos h', if_neg (by decide), if_neg (by simp [hF]), if_pos rfl]]
            exact racked_s n a b c d A l k e0 e1 e2 newly w h h' (by simpa [bad] using hF)
        · rw [show (akR n a b c false m e0 e1 e2 newly) = ⟨n, a, b, c, true, false, 0⟩ by
              rw [akR, if_pos h, if_pos h', if_neg (by decide), if_pos hF]]
          exact racked_f n a b c d A l k m e0 e1 e2 newly w h h' hF
      · rw [show (akR n a b c true m e0 e1 e2 newly) = ⟨n, a, b, c, true, false, 0⟩ by rw [akR, if_pos h, if_pos h', if_pos rfl]]
        exact racked_failed n a b c d A l k m e0 e1 e2 newly w h h'
    · rw [show (akR n a b c f m e0 e1 e2 newly) = ⟨0, 0, 0, 0, false, false, 9⟩ by rw [akR, if_pos h, if_neg h']]
      by_cases hw : Num newly
      · exact racked_range_m n a b c f d A l k m e0 e1 e2 newly w h hw (fun h3 => h' ⟨hw, h3⟩)
      · by_cases h0 : newly < 0
        · exact racked_range_lo n a b c f d A l k m e0 e1 e2 newly w h h0
        · exact racked_range_hi n a b c f d A l k m e0 e1 e2 newly w h (by unfold Num at hw; omega)
  · rw [show (akR n a b c f m e0 e1 e2 newly) = ⟨0, 0, 0, 0, false, false, 2⟩ by rw [akR, if_neg h]]
    by_cases hn : Num n
    · exact racked_bad_m n a b c f d A l k m e0 e1 e2 newly w hn (fun h3 => h ⟨hn, h3⟩)
    · exact racked_bad_n n a b c f d A l k m e0 e1 e2 newly w hn

/-- frame: one with counts. -/
theorem frame_any (x y z : Int) (w : World) :
    Calls Try.prog 17 #[.int .i64 x, .int .i64 y, .int .i64 z] w fun e w' => e = .returned (.agg #[.int .i64 0, .slice none 0 0, .bool true, .int .i64 x, .int .i64 y, .int .i64 z]) ∧ w.alloc (.cells #[.int .i64 0, .slice none 0 0, .bool true, .int .i64 x, .int .i64 y, .int .i64 z] 27) = w' := by
  go_enter Try.func17, Try.ntmps17
  go_wp2
  go_returns
  exact ⟨rfl, rfl⟩

theorem emod_lo (i n : Int) (h0 : 1 ≤ n) (h : i.tmod n < 0) : i.tmod n + n = i % n := by
  rw [Int.tmod_eq_emod] at h ⊢
  have h2 := Int.emod_nonneg i (b := n) (by omega)
  split
  · rename_i hc
    rw [if_pos hc] at h
    omega
  · have : ((n.natAbs : Nat) : Int) = n := by omega
    omega
theorem emod_hi (i n : Int) (h0 : 1 ≤ n) (h : 0 ≤ i.tmod n) : i.tmod n = i % n := by
  rw [Int.tmod_eq_emod] at h ⊢
  have h2 := Int.emod_lt_of_pos i (b := n) (by omega)
  split
  · omega
  · rename_i hc
    rw [if_neg hc] at h
    have : ((n.natAbs : Nat) : Int) = n := by omega
    omega

theorem bring_any (i n : Int) (w : World) (h0 : 1 ≤ n) (h1 : n ≤ 9223372036854775807) :
    Calls Try.prog 16 #[.int .i64 i, .int .i64 n] w fun e w' => e = .returned (.int .i64 (i % n)) ∧ w = w' := by
  have b1 := Int.emod_nonneg i (b := n) (by omega)
  have b2 := Int.emod_lt_of_pos i (b := n) (by omega)
  go_enter Try.func16, Try.ntmps16
  go_wp2
  · go_ret
    have h : i.tmod n < 0 := by assumption
    refine ⟨?_, rfl⟩
    have e := emod_lo i n h0 h
    rw [IntWalk.wrap64_in _ (by omega), e]; rfl
  · go_ret
    have h : 0 ≤ i.tmod n := by assumption
    exact ⟨by rw [emod_hi i n h0 h]; rfl, rfl⟩
end Go.Proofs.Ytiocifmebnaabaa
