/-
  Contracts of the small functions of chapter 12: in, Check, own, Marked, ours, some.
-/
import Derived.Test.YtiocifmebnaabaaRows
import Derived.WalkKit
import Derived.WalkSpells
import Derived.WalkLawsBesides
import Derived.BigQuiet
import Derived.Handy
import Derived.Below
import Derived.Lib.Hide
namespace Go.Proofs.Ytiocifmebnaabaa
open Go.RowKit (wrap32 wrap64)
open Go.RowKit
set_option linter.unusedVariables false

theorem bcell {W w1 : World} (hb : Below W.heap.size W w1) : (∀ b o, b < W.heap.size → w1.cell? ⟨b, o, none⟩ = W.cell? ⟨b, o, none⟩) ∧ (∀ b o, b < W.heap.size → w1.frozen? ⟨b, o, none⟩ = W.frozen? ⟨b, o, none⟩) :=
  ⟨fun b o h => hb.cell (p := ⟨b, o, none⟩) h, fun b o h => hb.frozen (p := ⟨b, o, none⟩) h⟩

/-- Is that a number? -/
def Num (x : Int) : Prop := 0 ≤ x ∧ x ≤ 9007199254740991

theorem in_yes (b c : Nat) (x0 x1 x2 x3 : Int) (w : World) (h0 : Num x0) (h1 : Num x1) (h2 : Num x2) (h3 : Num x3)
    (c0 : w.cell? ⟨b, 0, none⟩ = some (.int .i64 x0)) (c1 : w.cell? ⟨b, 1, none⟩ = some (.int .i64 x1)) (c2 : w.cell? ⟨b, 2, none⟩ = some (.int .i64 x2)) (c3 : w.cell? ⟨b, 3, none⟩ = some (.int .i64 x3)) :
    Calls Try.prog 18 #[.slice (some ⟨b, 0, none⟩) 4 c] w fun e w' => e = .returned (.bool true) ∧ w = w' := by
  obtain ⟨a0, b0⟩ := h0
  obtain ⟨a1, b1⟩ := h1
  obtain ⟨a2, b2⟩ := h2
  obtain ⟨a3, b3⟩ := h3
  go_enter Try.func18, Try.ntmps18
  go_wp2
  go_rounds 6
  go_ret
  exact ⟨rfl, rfl⟩
theorem in_no (b c : Nat) (x0 x1 x2 x3 : Int) (w : World) (h : ¬ (Num x0 ∧ Num x1 ∧ Num x2 ∧ Num x3))
    (c0 : w.cell? ⟨b, 0, none⟩ = some (.int .i64 x0)) (c1 : w.cell? ⟨b, 1, none⟩ = some (.int .i64 x1)) (c2 : w.cell? ⟨b, 2, none⟩ = some (.int .i64 x2)) (c3 : w.cell? ⟨b, 3, none⟩ = some (.int .i64 x3)) :
    Calls Try.prog 18 #[.slice (some ⟨b, 0, none⟩) 4 c] w fun e w' => e = .returned (.bool false) ∧ w = w' := by
  have h' : (x0 < 0 ∨ 9007199254740991 < x0) ∨ (x1 < 0 ∨ 9007199254740991 < x1) ∨ (x2 < 0 ∨ 9007199254740991 < x2) ∨ (x3 < 0 ∨ 9007199254740991 < x3) := by
    unfold Num at h; omega
  clear h
  go_enter Try.func18, Try.ntmps18
  go_wp2
  go_rounds 6
  all_goals
    go_ret
    exact ⟨rfl, rfl⟩

def OkC (n a b c : Int) : Prop := Num n ∧ Num a ∧ Num b ∧ Num c
instance (x : Int) : Decidable (Num x) := by unfold Num; infer_instance
instance (n a b c : Int) : Decidable (OkC n a b c) := by unfold OkC; infer_instance
def checkE (n a b c : Int) : Int := if OkC n a b c then 0 else 2

/-- The world behind Check: the count boxed, its four numbers in a row. -/
theorem check_any (n a b c : Int) (f : Bool) (w : World) :
    Calls Try.prog 13 #[.agg #[.int .i64 n, .int .i64 a, .int .i64 b, .int .i64 c, .bool f]] w fun e w' => e = .returned (.int .i64 (checkE n a b c)) ∧
      (w.alloc (.cells #[.int .i64 n, .int .i64 a, .int .i64 b, .int .i64 c, .bool f] 24)).alloc (.cells #[.int .i64 n, .int .i64 a, .int .i64 b, .int .i64 c] 3) = w' := by
  by_cases h : OkC n a b c
  · have e1 : checkE n a b c = 0 := if_pos h
    rw [e1]
    obtain ⟨h0, h1, h2, h3⟩ := h
    go_enter Try.func13, Try.ntmps13
    go_wp2_with (first | (go_at_call 18; refine (in_yes _ _ n a b c _ h0 h1 h2 h3 ?_ ?_ ?_ ?_).mono ?_; (simp); (simp); (simp); (simp); rintro e w' ⟨rfl, rfl⟩))
    go_ret
    exact ⟨rfl, rfl⟩
  · have e1 : checkE n a b c = 2 := if_neg h
    rw [e1]
    have H := Lib.hid h
    clear h
    go_enter Try.func13, Try.ntmps13
    go_wp2_with (first | (go_at_call 18; refine (in_no _ _ n a b c _ H.out ?_ ?_ ?_ ?_).mono ?_; (simp); (simp); (simp); (simp); rintro e w' ⟨rfl, rfl⟩))
    go_ret
    exact ⟨rfl, rfl⟩

theorem own_any (n a b c : Int) (f : Bool) (w : World) :
    Calls Try.prog 10 #[.agg #[.int .i64 n, .int .i64 a, .int .i64 b, .int .i64 c, .bool f]] w fun e w' => e = .returned (.agg #[.int .i64 n, .int .i64 a, .int .i64 b, .int .i64 c, .bool f]) ∧ Below w.heap.size w w' := by
  go_enter Try.func10, Try.ntmps10
  go_wp2
  go_returns
  exact ⟨rfl, by go_grown⟩

end Go.Proofs.Ytiocifmebnaabaa
