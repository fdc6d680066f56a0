/-
  Cut at 1 to 4 bytes, as a list; the examples' helpers; works.
-/
import Derived.Test.YtgmgbhpecnmfeaaE
namespace Go.Proofs.Ytgmgbhpecnmfeaa
open Go.RowKit (wrap32 wrap64)
open Go.RowKit
set_option linter.unusedVariables false

/-- The last n bytes of a number. -/
def bytesV (full : Int) (n : Nat) : List Int :=
  if n = 1 then [full % 256] else if n = 2 then [full / 256 % 256, full % 256] else if n = 3 then [full / 65536 % 256, full / 256 % 256, full % 256] else [full / 16777216 % 256, full / 65536 % 256, full / 256 % 256, full % 256]
def CutIs (full : Int) (n : Nat) (e : Ending) (w' : World) : Prop := ∃ A' c', e = .returned (.tuple #[.slice A' n c', .int .i64 0]) ∧ Bs w' A' n (bytesV full n) ∧ ∀ a, A' = some a → a.block < w'.heap.size

theorem bytesV_ok (full : Int) (n : Nat) : ∀ x ∈ bytesV full n, 0 ≤ x ∧ x ≤ 255 := by
  unfold bytesV
  split
  · intro x hx; simp at hx; subst hx; omega
  · split
    · intro x hx; simp at hx; rcases hx with rfl | rfl <;> omega
    · split
      · intro x hx; simp at hx; rcases hx with rfl | rfl | rfl <;> omega
      · intro x hx; simp at hx; rcases hx with rfl | rfl | rfl | rfl <;> omega

theorem bs_alloc (w : World) (cs : Array Value) (t off n : Nat) (xs : List Int) (hl : xs.length = n) (hb : ∀ x ∈ xs, 0 ≤ x ∧ x ≤ 255) (hc : ∀ j, j < n → cs[off + j]? = some (.int .u8 (xs.getD j 0))) :
    Bs (w.alloc (.cells cs t)) (some ⟨w.heap.size, off, none⟩) n xs :=
  ⟨hl, hb, fun _ => ⟨w.heap.size, off, rfl, fun j hj => (cell_of_row _ w.heap.size (off + j) cs t (0, 0) (heap_alloc_new w _)).trans (hc j hj)⟩⟩

theorem cut_any (full : Int) (n : Nat) (w : World) (h0 : 0 ≤ full) (h1 : full ≤ 9007199254740991) (n0 : 1 ≤ n) (n1 : n ≤ 4) :
    Calls Try.prog 11 #[.int .i64 full, .int .i64 n] w fun e w' => CutIs full n e w' ∧ Below w.heap.size w w' := by
  have hsz : ∀ (o : Obj) (k : Nat) (a : Addr), some (⟨w.heap.size, k, none⟩ : Addr) = some a → a.block < (w.alloc o).heap.size := by
    intro o k a h
    injection h with h
    subst h
    simp
  have hn : n = 1 ∨ n = 2 ∨ n = 3 ∨ n = 4 := by omega
  rcases hn with rfl | rfl | rfl | rfl
  · refine (cut_1 full w h0 h1).mono ?_
    rintro e w' ⟨rfl, rfl⟩
    refine ⟨⟨_, 1, rfl, bs_alloc _ _ _ _ _ _ rfl (bytesV_ok _ _) ?_, hsz _ _⟩, (Below.refl _ _).alloc (Nat.le_refl _) _⟩
    intro j hj
    match j, hj with
    | 0, _ => rfl
  · refine (cut_2 full w h0 h1).mono ?_
    rintro e w' ⟨rfl, rfl⟩
    refine ⟨⟨_, 2, rfl, bs_alloc _ _ _ _ _ _ rfl (bytesV_ok _ _) ?_, hsz _ _⟩, (Below.refl _ _).alloc (Nat.le_refl _) _⟩
    intro j hj
    match j, hj with
    | 0, _ => rfl
    | 1, _ => rfl
  · refine (cut_3 full w h0 h1).mono ?_
    rintro e w' ⟨rfl, rfl⟩
    refine ⟨⟨_, 3, rfl, bs_alloc _ _ _ _ _ _ rfl (bytesV_ok _ _) ?_, hsz _ _⟩, (Below.refl _ _).alloc (Nat.le_refl _) _⟩
    intro j hj
    match j, hj with
    | 0, _ => rfl
    | 1, _ => rfl
    | 2, _ => rfl
  · refine (cut_4 full w h0 h1).mono ?_
    rintro e w' ⟨rfl, rfl⟩
    refine ⟨⟨_, 4, rfl, bs_alloc _ _ _ _ _ _ rfl (bytesV_ok _ _) ?_, hsz _ _⟩, (Below.refl _ _).alloc (Nat.le_refl _) _⟩
    intro j hj
    match j, hj with
    | 0, _ => rfl
    | 1, _ => rfl
    | 2, _ => rfl
    | 3, _ => rfl
theorem rcut_any (full : Int) (n : Nat) (w : World) (h0 : 0 ≤ full) (h1 : full ≤ 9007199254740991) (n0 : 1 ≤ n) (n1 : n ≤ 4) :
    Calls Try.prog 12 #[.int .i64 full, .int .i64 n] w fun e w' => CutIs full n e w' ∧ Below w.heap.size w w' := by
  have hsz : ∀ (o : Obj) (k : Nat) (a : Addr), some (⟨w.heap.size, k, none⟩ : Addr) = some a → a.block < (w.alloc o).heap.size := by
    intro o k a h
    injection h with h
    subst h
    simp
  have hn : n = 1 ∨ n = 2 ∨ n = 3 ∨ n = 4 := by omega
  rcases hn with rfl | rfl | rfl | rfl
  · refine (rcut_1 full w h0 h1).mono ?_
    rintro e w' ⟨rfl, rfl⟩
    refine ⟨⟨_, 1, rfl, bs_alloc _ _ _ _ _ _ rfl (bytesV_ok _ _) ?_, hsz _ _⟩, (Below.refl _ _).alloc (Nat.le_refl _) _⟩
    intro j hj
    match j, hj with
    | 0, _ => rfl
  · refine (rcut_2 full w h0 h1).mono ?_
    rintro e w' ⟨rfl, rfl⟩
    refine ⟨⟨_, 2, rfl, bs_alloc _ _ _ _ _ _ rfl (bytesV_ok _ _) ?_, hsz _ _⟩, (Below.refl _ _).alloc (Nat.le_refl _) _⟩
    intro j hj
    match j, hj with
    | 0, _ => rfl
    | 1, _ => rfl
  · refine (rcut_3 full w h0 h1).mono ?_
    rintro e w' ⟨rfl, rfl⟩
    refine ⟨⟨_, 3, rfl, bs_alloc _ _ _ _ _ _ rfl (bytesV_ok _ _) ?_, hsz _ _⟩, (Below.refl _ _).alloc (Nat.le_refl _) _⟩
    intro j hj
    match j, hj with
    | 0, _ => rfl
    | 1, _ => rfl
    | 2, _ => rfl
  · refine (rcut_4 full w h0 h1).mono ?_
    rintro e w' ⟨rfl, rfl⟩
    refine ⟨⟨_, 4, rfl, bs_alloc _ _ _ _ _ _ rfl (bytesV_ok _ _) ?_, hsz _ _⟩, (Below.refl _ _).alloc (Nat.le_refl _) _⟩
    intro j hj
    match j, hj with
    | 0, _ => rfl
    | 1, _ => rfl
    | 2, _ => rfl
    | 3, _ => rfl

/-! The examples' helpers. -/
theorem length_ok (full acked want : Int) (w : World) (h1 : lenN full acked = want) (h2 : lenE full acked = 0) :
    Calls Try.prog 23 #[.int .i64 full, .int .i64 acked, .int .i64 want] w fun e w' => e = .returned (.bool true) ∧ w = w' := by
  go_enter Try.func23, Try.ntmps23
  go_wp2_with (go_at_call 9; refine (len_any _ _ _).mono ?_; rintro e w' ⟨rfl, rfl⟩)
  go_ret
  exact ⟨rfl, rfl⟩

theorem cutlaw_ok (full : Int) (A : Option Addr) (n c : Nat) (w : World) (h0 : 0 ≤ full) (h1 : full ≤ 9007199254740991) (n0 : 1 ≤ n) (n1 : n ≤ 4) (hb : Bs w A n (bytesV full n)) (hA : ∀ a, A = some a → a.block < w.heap.size) :
    Calls Try.prog 24 #[.int .i64 full, .slice A n c] w fun e w' => e = .returned (.bool true) ∧ Below w.heap.size w w' := by
  have Hb := Lib.hid hb
  have HA := Lib.hid hA
  clear hb hA
  go_enter Try.func24, Try.ntmps24
  go_wp2_with (first | (go_at_call 11; refine (cut_any _ _ _ h0 h1 n0 n1).mono ?_; rintro e w1 ⟨⟨A', c', rfl, hB, hlt⟩, hbel⟩; have HB := Lib.hid hB; have HL := Lib.hid hlt; have HW := Lib.hid hbel; clear hB hlt hbel) | (go_at_call 13; refine (eqb_same _ _ _ _ _ _ _ HB.out (Hb.out.below HW.out HA.out)).mono ?_; rintro e w2 ⟨rfl, rfl⟩))
  go_ret
  exact ⟨rfl, HW.out⟩

theorem wholelaw_ok (g want : Int) (A : Option Addr) (n c : Nat) (xs : List Int) (w : World) (g0 : -1 ≤ g) (g1 : g ≤ 9007199254740991) (n0 : 1 ≤ n) (n1 : n ≤ 4) (hb : Bs w A n xs) (hw : wholeV g (cutV xs) (allV n) = want) :
    Calls Try.prog 25 #[.int .i64 g, .int .i64 want, .slice A n c] w fun e w' => e = .returned (.bool true) ∧ ∃ k, w.drewN k = w' := by
  have Hb := Lib.hid hb
  have HW := Lib.hid hw
  clear hb hw
  go_enter Try.func25, Try.ntmps25
  go_wp2_with (first | (go_at_call 15; refine (whole_any _ _ _ _ _ _ g0 g1 Hb.out n0 n1).mono ?_; rintro e w1 ⟨rfl, k, rfl⟩; rw [HW.out]))
  go_ret
  exact ⟨rfl, _, rfl⟩
theorem belowDrewN {B : Nat} {a w : World} (h : Below B a w) (n : Nat) : Below B a (w.drewN n) := ⟨h.os, h.tape, h.output, h.size, h.block⟩
theorem belowAl {B : Nat} {a w : World} (h : Below B a w) (hB : B ≤ a.heap.size) (o : Obj) : Below B a (w.alloc o) := h.alloc (Nat.le_trans hB h.size) o

theorem lit_2 (w : World) (x y : Int) (hx : 0 ≤ x ∧ x ≤ 255) (hy : 0 ≤ y ∧ y ≤ 255) : Bs (w.alloc (.cells #[.int .u8 x, .int .u8 y] 5)) (some ⟨w.heap.size, 0, none⟩) 2 [x, y] :=
  bs_alloc w _ 5 0 2 _ rfl (by intro z hz; simp at hz; rcases hz with rfl | rfl <;> assumption) (fun j hj => by
    match j, hj with
    | 0, _ => rfl
    | 1, _ => rfl)
theorem lit_3 (w : World) (x y z : Int) (hx : 0 ≤ x ∧ x ≤ 255) (hy : 0 ≤ y ∧ y ≤ 255) (hz : 0 ≤ z ∧ z ≤ 255) : Bs (w.alloc (.cells #[.int .u8 x, .int .u8 y, .int .u8 z] 5)) (some ⟨w.heap.size, 0, none⟩) 3 [x, y, z] :=
  bs_alloc w _ 5 0 3 _ rfl (by intro t ht; simp at ht; rcases ht with rfl | rfl | rfl <;> assumption) (fun j hj => by
    match j, hj with
    | 0, _ => rfl
    | 1, _ => rfl
    | 2, _ => rfl)
theorem lit_1 (w : World) (x : Int) (hx : 0 ≤ x ∧ x ≤ 255) : Bs (w.alloc (.cells #[.int .u8 x] 5)) (some ⟨w.heap.size, 0, none⟩) 1 [x] :=
  bs_alloc w _ 5 0 1 _ rfl (by intro t ht; simp at ht; subst ht; assumption) (fun j hj => by
    match j, hj with
    | 0, _ => rfl)
theorem lit_lt (w : World) (o : Obj) : ∀ a, some (⟨w.heap.size, 0, none⟩ : Addr) = some a → a.block < (w.alloc o).heap.size := by
  intro a h
  injection h with h
  subst h
  simp

set_option maxHeartbeats 1000000 in
theorem works_ok (w : World) : Calls Try.prog 17 #[] w fun e w' => e = .returned (.bool true) ∧ Below w.heap.size w w' := by
  go_enter Try.func17, Try.ntmps17
  go_wp2_with (first | (go_at_call 23; refine (length_ok _ _ _ _ (by decide) (by decide)).mono ?_; rintro e w' ⟨rfl, rfl⟩))
  refine (cutlaw_ok 11295746 _ 2 _ _ (by decide) (by decide) (by decide) (by decide) (lit_2 w 92 2 (by decide) (by decide)) (lit_lt _ _)).mono ?_
  rintro e w1 ⟨rfl, h1⟩
  have H1 := Lib.hid ((belowAl (Below.refl w.heap.size w) (Nat.le_refl _) _).trans (h1.mono (by simp)))
  clear h1
  go_wp2_with fail
  refine (cutlaw_ok 11331838 _ 3 _ _ (by decide) (by decide) (by decide) (by decide) (lit_3 w1 172 232 254 (by decide) (by decide) (by decide)) (lit_lt _ _)).mono ?_
  rintro e w2 ⟨rfl, h2⟩
  have H2 := Lib.hid ((belowAl H1.out (Nat.le_refl _) _).trans (h2.mono (Nat.le_trans H1.out.size (by simp))))
  clear h2 H1
  go_wp2_with fail
  refine (wholelaw_ok 2821665002 2821692210 _ 2 _ _ _ (by decide) (by decide) (by decide) (by decide) (lit_2 w2 155 50 (by decide) (by decide)) (by decide)).mono ?_
  rintro e w3 ⟨rfl, k, hk⟩
  have H3 := Lib.hid (hk ▸ belowDrewN (belowAl H2.out (Nat.le_refl _) _) k)
  clear hk H2
  go_wp2_with fail
  refine (wholelaw_ok (-1) 0 _ 1 _ _ _ (by decide) (by decide) (by decide) (by decide) (lit_1 w3 0 (by decide)) (by decide)).mono ?_
  rintro e w4 ⟨rfl, k, hk⟩
  have H4 := Lib.hid (hk ▸ belowDrewN (belowAl H3.out (Nat.le_refl _) _) k)
  clear hk H3
  go_wp2_with fail
  refine (wholelaw_ok (-1) 255 _ 1 _ _ _ (by decide) (by decide) (by decide) (by decide) (lit_1 w4 255 (by decide)) (by decide)).mono ?_
  rintro e w5 ⟨rfl, k, hk⟩
  have H5 := Lib.hid (hk ▸ belowDrewN (belowAl H4.out (Nat.le_refl _) _) k)
  clear hk H4
  go_wp2_with fail
  refine (wholelaw_ok 128 256 _ 1 _ _ _ (by decide) (by decide) (by decide) (by decide) (lit_1 w5 0 (by decide)) (by decide)).mono ?_
  rintro e w6 ⟨rfl, k, hk⟩
  have H6 := Lib.hid (hk ▸ belowDrewN (belowAl H5.out (Nat.le_refl _) _) k)
  clear hk H5
  go_wp2_with fail
  refine (wholelaw_ok 127 256 _ 1 _ _ _ (by decide) (by decide) (by decide) (by decide) (lit_1 w6 0 (by decide)) (by decide)).mono ?_
  rintro e w7 ⟨rfl, k, hk⟩
  have H7 := Lib.hid (hk ▸ belowDrewN (belowAl H6.out (Nat.le_refl _) _) k)
  clear hk H6
  go_wp2_with fail
  refine (wholelaw_ok 511 640 _ 1 _ _ _ (by decide) (by decide) (by decide) (by decide) (lit_1 w7 128 (by decide)) (by decide)).mono ?_
  rintro e w8 ⟨rfl, k, hk⟩
  have H8 := Lib.hid (hk ▸ belowDrewN (belowAl H7.out (Nat.le_refl _) _) k)
  clear hk H7
  go_wp2_with fail
  refine (len_bad 5 5 _ (by decide)).mono ?_
  rintro e w9 ⟨rfl, rfl⟩
  go_wp2_with fail
  refine (cut_arg 1 5 _ (by decide) (by decide) (by decide)).mono ?_
  rintro e w9 ⟨rfl, rfl⟩
  go_wp2_with fail
  refine (whole_arg 0 none 0 0 _ (by decide) (by decide) (Or.inl rfl)).mono ?_
  rintro e w9 ⟨rfl, rfl⟩
  go_wp2_with fail
  refine (len_5 2147483649 0 _ (by decide) (by decide) (by decide) (by decide) (by decide)).mono ?_
  rintro e w9 ⟨rfl, rfl⟩
  go_wp2_with fail
  go_ret
  exact ⟨rfl, H8.out⟩
end Go.Proofs.Ytgmgbhpecnmfeaa
