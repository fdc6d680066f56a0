/-
  The walk of PnumTells: a nil slice, one of at most 6 bytes, a longer one.
-/
import Derived.Test.YtgmgbhpecnmfeaaI
namespace Go.Proofs.Ytgmgbhpecnmfeaa
open Go.RowKit (wrap32 wrap64)
open Go.RowKit
set_option linter.unusedVariables false

set_option maxHeartbeats 1000000 in
theorem tells_none (full other : Int) (w : World) :
    Calls Try.prog 3 #[.int .i64 full, .int .i64 other, .slice none 0 0] w fun e w' => e = .returned (.bool true) ∧ Below w.heap.size w w' := by
  go_enter Try.func3, Try.ntmps3
  go_wp2_with (first
    | (go_at_call 9; refine (len_any _ _ _).mono ?_; rintro e w' ⟨rfl, rfl⟩)
    | (go_at_call 10; refine (rlen_any _ _ _).mono ?_; rintro e w' ⟨rfl, rfl⟩)
    | (go_at_call 11; refine (cut_all _ _ _).mono ?_; rintro e w1 ⟨⟨A1, c1, rfl, hB1⟩, hb1⟩; have HB1 := Lib.hid hB1; have H1 := Lib.hid hb1; clear hB1 hb1)
    | (go_at_call 12; refine (rcut_all _ _ _).mono ?_; rintro e w2 ⟨⟨A2, c2, rfl, hB2⟩, hb2⟩; have HB2 := Lib.hid hB2; have H2 := Lib.hid hb2; clear hB2 hb2)
    | (go_at_call 13; refine (eqb_same _ _ _ _ _ _ _ (HB1.out.kept H2.out) HB2.out).mono ?_; rintro e w' ⟨rfl, rfl⟩))
  refine (copy_any _ 0 _ [] _ (bs_nil _ _) (by omega)).mono ?_
  rintro e w3 ⟨⟨A3, c3, rfl, hB3, _⟩, hb3⟩
  have HB3 := Lib.hid hB3
  have H3 := Lib.hid ((H1.out.trans (H2.out.mono H1.out.size)).trans (hb3.mono (Nat.le_trans H1.out.size H2.out.size)))
  clear hB3 hb3 H1 H2 HB1 HB2
  go_wp2_with fail
  refine (whole_all _ _ _ _ _ _ HB3.out).mono ?_
  rintro e w4 ⟨rfl, k4, rfl⟩
  go_wp2_with fail
  refine (copy_any _ 0 _ [] _ (show Bs (w3.drewN k4) _ _ _ from HB3.out) (by omega)).mono ?_
  rintro e w5 ⟨⟨A5, c5, rfl, hB5, _⟩, hb5⟩
  have HC5 := Lib.hid hB5
  have HI5 := Lib.hid ((show Bs (w3.drewN k4) _ _ _ from HB3.out).kept hb5)
  have H5 := Lib.hid ((belowDrewN H3.out k4).trans (hb5.mono H3.out.size))
  clear hB5 hb5
  go_wp2_with fail
  refine (rwhole_all _ _ _ _ _ _ HC5.out).mono ?_
  rintro e w6 ⟨rfl, rfl⟩
  go_wp2_with fail
  refine (eqb_same _ _ 0 _ _ [] _ HI5.out (bs_nil _ _)).mono ?_
  rintro e w7 ⟨rfl, rfl⟩
  go_wp2_with fail
  refine (works_ok _).mono ?_
  rintro e w8 ⟨rfl, hb8⟩
  have H8 := Lib.hid (H5.out.trans (hb8.mono H5.out.size))
  clear hb8
  go_wp2_with fail
  go_ret
  exact ⟨rfl, H8.out⟩

set_option maxHeartbeats 1000000 in
theorem tells_few (full other : Int) (a : Addr) (n c : Nat) (xs : List Int) (w : World) (hb : Bs w (some a) n xs) (hn : n ≤ 6) (hc : n ≤ c) :
    Calls Try.prog 3 #[.int .i64 full, .int .i64 other, .slice (some a) n c] w fun e w' => e = .returned (.bool true) ∧ Below w.heap.size w w' := by
  have HB0 := Lib.hid hb
  clear hb
  go_enter Try.func3, Try.ntmps3
  go_wp2_with (first
    | (go_at_call 9; refine (len_any _ _ _).mono ?_; rintro e w' ⟨rfl, rfl⟩)
    | (go_at_call 10; refine (rlen_any _ _ _).mono ?_; rintro e w' ⟨rfl, rfl⟩)
    | (go_at_call 11; refine (cut_all _ _ _).mono ?_; rintro e w1 ⟨⟨A1, c1, rfl, hB1⟩, hb1⟩; have HB1 := Lib.hid hB1; have H1 := Lib.hid hb1; clear hB1 hb1)
    | (go_at_call 12; refine (rcut_all _ _ _).mono ?_; rintro e w2 ⟨⟨A2, c2, rfl, hB2⟩, hb2⟩; have HB2 := Lib.hid hB2; have H2 := Lib.hid hb2; clear hB2 hb2)
    | (go_at_call 13; refine (eqb_same _ _ _ _ _ _ _ (HB1.out.kept H2.out) HB2.out).mono ?_; rintro e w' ⟨rfl, rfl⟩))
  refine (copy_any _ n _ xs _ ((HB0.out.kept H1.out).kept (H2.out.mono (Nat.le_refl _))) (by omega)).mono ?_
  rintro e w3 ⟨⟨A3, c3, rfl, hB3, _⟩, hb3⟩
  have HB3 := Lib.hid hB3
  have H3 := Lib.hid ((H1.out.trans (H2.out.mono H1.out.size)).trans (hb3.mono (Nat.le_trans H1.out.size H2.out.size)))
  clear hB3 hb3 H1 H2 HB1 HB2
  go_wp2_with fail
  refine (whole_all _ _ _ _ _ _ HB3.out).mono ?_
  rintro e w4 ⟨rfl, k4, rfl⟩
  go_wp2_with fail
  refine (copy_any _ n _ xs _ (show Bs (w3.drewN k4) _ _ _ from HB3.out) (by omega)).mono ?_
  rintro e w5 ⟨⟨A5, c5, rfl, hB5, _⟩, hb5⟩
  have HC5 := Lib.hid hB5
  have HI5 := Lib.hid ((show Bs (w3.drewN k4) _ _ _ from HB3.out).kept hb5)
  have H5 := Lib.hid ((belowDrewN H3.out k4).trans (hb5.mono H3.out.size))
  clear hB5 hb5
  have HB5 := Lib.hid (HB0.out.kept H5.out)
  go_wp2_with fail
  refine (rwhole_all _ _ _ _ _ _ HC5.out).mono ?_
  rintro e w6 ⟨rfl, rfl⟩
  go_wp2_with fail
  refine (eqb_same _ _ n _ _ xs _ HI5.out HB5.out).mono ?_
  rintro e w7 ⟨rfl, rfl⟩
  go_wp2_with fail
  refine (works_ok _).mono ?_
  rintro e w8 ⟨rfl, hb8⟩
  have H8 := Lib.hid (H5.out.trans (hb8.mono H5.out.size))
  clear hb8
  go_wp2_with fail
  go_ret
  exact ⟨rfl, H8.out⟩

set_option maxHeartbeats 1000000 in
theorem tells_many (full other : Int) (a : Addr) (n c : Nat) (xs : List Int) (w : World) (hb : Bs w (some a) n xs) (hn : 6 < n) (hc : n ≤ c) :
    Calls Try.prog 3 #[.int .i64 full, .int .i64 other, .slice (some a) n c] w fun e w' => e = .returned (.bool true) ∧ Below w.heap.size w w' := by
  have HB0 := Lib.hid hb
  clear hb
  go_enter Try.func3, Try.ntmps3
  go_wp2_with (first
    | (go_at_call 9; refine (len_any _ _ _).mono ?_; rintro e w' ⟨rfl, rfl⟩)
    | (go_at_call 10; refine (rlen_any _ _ _).mono ?_; rintro e w' ⟨rfl, rfl⟩)
    | (go_at_call 11; refine (cut_all _ _ _).mono ?_; rintro e w1 ⟨⟨A1, c1, rfl, hB1⟩, hb1⟩; have HB1 := Lib.hid hB1; have H1 := Lib.hid hb1; clear hB1 hb1)
    | (go_at_call 12; refine (rcut_all _ _ _).mono ?_; rintro e w2 ⟨⟨A2, c2, rfl, hB2⟩, hb2⟩; have HB2 := Lib.hid hB2; have H2 := Lib.hid hb2; clear hB2 hb2)
    | (go_at_call 13; refine (eqb_same _ _ _ _ _ _ _ (HB1.out.kept H2.out) HB2.out).mono ?_; rintro e w' ⟨rfl, rfl⟩))
  refine (copy_any _ 6 _ (xs.take 6) _ (((HB0.out.kept H1.out).kept (H2.out.mono (Nat.le_refl _))).upto 6 (by omega)) (by omega)).mono ?_
  rintro e w3 ⟨⟨A3, c3, rfl, hB3, _⟩, hb3⟩
  have HB3 := Lib.hid hB3
  have H3 := Lib.hid ((H1.out.trans (H2.out.mono H1.out.size)).trans (hb3.mono (Nat.le_trans H1.out.size H2.out.size)))
  clear hB3 hb3 H1 H2 HB1 HB2
  go_wp2_with fail
  refine (whole_all _ _ _ _ _ _ HB3.out).mono ?_
  rintro e w4 ⟨rfl, k4, rfl⟩
  go_wp2_with fail
  refine (copy_any _ 6 _ (xs.take 6) _ (show Bs (w3.drewN k4) _ _ _ from HB3.out) (by omega)).mono ?_
  rintro e w5 ⟨⟨A5, c5, rfl, hB5, _⟩, hb5⟩
  have HC5 := Lib.hid hB5
  have HI5 := Lib.hid ((show Bs (w3.drewN k4) _ _ _ from HB3.out).kept hb5)
  have H5 := Lib.hid ((belowDrewN H3.out k4).trans (hb5.mono H3.out.size))
  clear hB5 hb5
  have HB5 := Lib.hid (HB0.out.kept H5.out)
  go_wp2_with fail
  refine (rwhole_all _ _ _ _ _ _ HC5.out).mono ?_
  rintro e w6 ⟨rfl, rfl⟩
  go_wp2_with fail
  refine (eqb_same _ _ 6 _ _ (xs.take 6) _ HI5.out (HB5.out.upto 6 (by omega))).mono ?_
  rintro e w7 ⟨rfl, rfl⟩
  go_wp2_with fail
  refine (works_ok _).mono ?_
  rintro e w8 ⟨rfl, hb8⟩
  have H8 := Lib.hid (H5.out.trans (hb8.mono H5.out.size))
  clear hb8
  go_wp2_with fail
  go_ret
  exact ⟨rfl, H8.out⟩

theorem tells_any (full other : Int) (A : Option Addr) (n c : Nat) (xs : List Int) (w : World) (hb : Bs w A n xs) (hc : n ≤ c) (hA : A = none → c = 0) :
    Calls Try.prog 3 #[.int .i64 full, .int .i64 other, .slice A n c] w fun e w' => e = .returned (.bool true) ∧ Below w.heap.size w w' := by
  cases A with
  | none =>
    obtain rfl : c = 0 := hA rfl
    obtain rfl : n = 0 := by omega
    exact tells_none full other w
  | some a =>
    by_cases hn : n ≤ 6
    · exact tells_few full other a n c xs w hb hn hc
    · exact tells_many full other a n c xs w hb (by omega) hc
end Go.Proofs.Ytgmgbhpecnmfeaa
