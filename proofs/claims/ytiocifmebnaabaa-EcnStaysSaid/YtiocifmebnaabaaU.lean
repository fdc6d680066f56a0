/-
  Arguments opened: a count, a frame, arrays of numbers.
-/
import Derived.Test.YtiocifmebnaabaaRows
import Derived.WalkKit
import Derived.ProofKit
import Derived.OpenShut
import Derived.Deep.Slices
namespace Go.Proofs.Ytiocifmebnaabaa
open Go.ChangeShapes Go.WideShapes Go.ChangeAt Go.RowKit Go.Deep
set_option linter.unusedVariables false
set_option linter.unusedSimpArgs false

theorem k24 : Try.prog.cellsOf 24 = 5 := by kernel_rfl
theorem k27 : Try.prog.cellsOf 27 = 6 := by kernel_rfl
theorem k22 : Try.prog.cellsOf 22 = 3 := by kernel_rfl
theorem k43 : Try.prog.cellsOf 43 = 2 := by kernel_rfl
theorem k3 : Try.prog.cellsOf 3 = 1 := by kernel_rfl
theorem k4 : Try.prog.cellsOf 4 = 1 := by kernel_rfl
theorem k25 : Try.prog.cellsOf 25 = 1 := by kernel_rfl
section
variable {H : Type} {enc : TypeId × Value → H} {w : World} {base : Nat} {spare : Nat → Bool} {held : Bool}
theorem okWide_two {w : World} {r : Reach} {b0 : Nat} {v : Value} (hv : Value.okWide Try.prog w r b0 43 v) : ∃ cs, v = .agg cs := by
  unfold Value.okWide at hv
  rw [Try.underlying43] at hv
  cases v <;> simp_all
theorem okWide_three {w : World} {r : Reach} {b0 : Nat} {v : Value} (hv : Value.okWide Try.prog w r b0 22 v) : ∃ cs, v = .agg cs := by
  unfold Value.okWide at hv
  rw [Try.underlying22] at hv
  cases v <;> simp_all
theorem three_form {fuel : Nat} {c0 c1 c2 : Value} {x : DataW H × List MemPlace} (h : DataW.trod enc Try.prog w base spare held fuel 22 [c0, c1, c2] = some x) :
    ∃ a b c : Int, c0 = .int .i64 a ∧ c1 = .int .i64 b ∧ c2 = .int .i64 c := by
  obtain ⟨xs, n, _, hx, _, hlen, hg⟩ := DataW.trod_array Try.underlying22 h
  match xs, hlen with
  | [y0, y1, y2], _ =>
    have g0 := hg 0 (by omega)
    have g1 := hg 1 (by omega)
    have g2 := hg 2 (by omega)
    simp [k3] at g0 g1 g2
    obtain ⟨a, ha, _⟩ := DataW.trod_int Try.underlying3 g0
    obtain ⟨b, hb, _⟩ := DataW.trod_int Try.underlying3 g1
    obtain ⟨c, hc, _⟩ := DataW.trod_int Try.underlying3 g2
    simp at ha hb hc
    exact ⟨a, b, c, ha, hb, hc⟩
theorem two_form {r : Reach} {b0 : Nat} {v : Value} {d : DataW H} {p : List MemPlace} (hv : Value.okWide Try.prog w r b0 43 v) (h : DataW.Trod enc Try.prog w base spare held 43 v d p) :
    ∃ a b : Int, v = .agg #[.int .i64 a, .int .i64 b] := by
  obtain ⟨fuel, hf⟩ := h
  obtain ⟨xs, n, _, hx, hl, hlen, hg⟩ := DataW.trod_array Try.underlying43 hf
  match xs, hlen with
  | [y0, y1], _ =>
    have g0 := hg 0 (by omega)
    have g1 := hg 1 (by omega)
    obtain ⟨cs, rfl⟩ := okWide_two hv
    obtain ⟨l⟩ := cs
    simp [Value.cells] at g0 g1 hl
    rw [k43] at hl
    match l, hl with
    | [c0, c1], _ =>
      simp [k3] at g0 g1
      obtain ⟨a, ha, _⟩ := DataW.trod_int Try.underlying3 g0
      obtain ⟨b, hb, _⟩ := DataW.trod_int Try.underlying3 g1
      simp at ha hb
      exact ⟨a, b, by rw [ha, hb]⟩
theorem arr_form {r : Reach} {b0 : Nat} {v : Value} {d : DataW H} {p : List MemPlace} (hv : Value.okWide Try.prog w r b0 22 v) (h : DataW.Trod enc Try.prog w base spare held 22 v d p) :
    ∃ a b c : Int, v = .agg #[.int .i64 a, .int .i64 b, .int .i64 c] := by
  obtain ⟨fuel, hf⟩ := h
  obtain ⟨cs, rfl⟩ := okWide_three hv
  obtain ⟨l⟩ := cs
  have hf' := hf
  obtain ⟨xs, n, _, hx, hl, hlen, hg⟩ := DataW.trod_array Try.underlying22 hf
  simp [Value.cells] at hl
  rw [k22] at hl
  match l, hl with
  | [c0, c1, c2], _ =>
    obtain ⟨a, b, c, rfl, rfl, rfl⟩ := three_form (by simpa [Value.cells] using hf')
    exact ⟨a, b, c, rfl⟩
theorem count_form {r : Reach} {b0 : Nat} {v : Value} {d : DataW H} {p : List MemPlace} (hv : Value.okWide Try.prog w r b0 24 v) (h : DataW.Trod enc Try.prog w base spare held 24 v d p) :
    ∃ (n a b c : Int) (f : Bool), v = .agg #[.int .i64 n, .int .i64 a, .int .i64 b, .int .i64 c, .bool f] := by
  obtain ⟨cs, rfl, hsz⟩ := okWide_struct Try.underlying24 hv
  obtain ⟨l⟩ := cs
  match l, hsz.trans k24 with
  | [c0, c1, c2, c3, c4], _ =>
    obtain ⟨fuel, hf⟩ := h
    obtain ⟨xs, n, _, hx, _, hlen, hg⟩ := DataW.trod_struct Try.underlying24 hf
    match xs, hlen with
    | [y0, y1, y2], _ =>
      have g0 := hg 0 _ rfl
      have g1 := hg 1 _ rfl
      have g2 := hg 2 _ rfl
      simp [Value.cells, k3, k22, k4] at g0 g1 g2
      obtain ⟨a, ha, _⟩ := DataW.trod_int Try.underlying3 g0
      obtain ⟨e0, e1, e2, rfl, rfl, rfl⟩ := three_form g1
      obtain ⟨f, hb, _⟩ := DataW.trod_bool Try.underlying4 g2
      simp at ha hb
      exact ⟨a, e0, e1, e2, f, by rw [ha, hb]⟩
theorem ack_form {r : Reach} {b0 : Nat} {v : Value} {d : DataW H} {p : List MemPlace} (hv : Value.okWide Try.prog w r b0 27 v) (h : DataW.Trod enc Try.prog w base spare held 27 v d p) :
    ∃ (x : Int) (A : Option Addr) (l k : Nat) (m : Bool) (a b c : Int), v = .agg #[.int .i64 x, .slice A l k, .bool m, .int .i64 a, .int .i64 b, .int .i64 c] := by
  obtain ⟨cs, rfl, hsz⟩ := okWide_struct Try.underlying27 hv
  obtain ⟨l⟩ := cs
  match l, hsz.trans k27 with
  | [c0, c1, c2, c3, c4, c5], _ =>
    obtain ⟨fuel, hf⟩ := h
    obtain ⟨xs, n, _, hx, _, hlen, hg⟩ := DataW.trod_struct Try.underlying27 hf
    match xs, hlen with
    | [y0, y1, y2, y3], _ =>
      have g0 := hg 0 _ rfl
      have g1 := hg 1 _ rfl
      have g2 := hg 2 _ rfl
      have g3 := hg 3 _ rfl
      simp [Value.cells, k3, k22, k4, k25] at g0 g1 g2 g3
      obtain ⟨a, ha, _⟩ := DataW.trod_int Try.underlying3 g0
      obtain ⟨A, l, k, hs⟩ : ∃ A l k, c1 = .slice A l k := by
        rcases open_slice Try.underlying25 g1 with ⟨h0, _⟩ | ⟨q, len, cap, _, _, _, _, h0, _⟩
        · simp at h0; exact ⟨_, _, _, h0⟩
        · simp at h0; exact ⟨_, _, _, h0⟩
      obtain ⟨f, hb, _⟩ := DataW.trod_bool Try.underlying4 g2
      obtain ⟨e0, e1, e2, rfl, rfl, rfl⟩ := three_form g3
      simp at ha hb
      exact ⟨a, A, l, k, f, e0, e1, e2, by rw [ha, hs, hb]⟩
end
end Go.Proofs.Ytiocifmebnaabaa
