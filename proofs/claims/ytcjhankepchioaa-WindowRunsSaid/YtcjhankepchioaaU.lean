/-
  Arguments opened: a window, a packet, arrays of numbers, rows of things.
-/
import Derived.Test.YtcjhankepchioaaQ
import Derived.ProofKit
import Derived.OpenShut
import Derived.Deep.Slices
namespace Go.Proofs.Ytcjhankepchioaa
open Go.ChangeShapes Go.WideShapes Go.ChangeAt Go.RowKit Go.Deep
set_option linter.unusedVariables false
set_option linter.unusedSimpArgs false

theorem k26 : Try.prog.cellsOf 26 = 6 := by kernel_rfl
theorem k34 : Try.prog.cellsOf 34 = 6 := by kernel_rfl
theorem k31 : Try.prog.cellsOf 31 = 5 := by kernel_rfl
theorem k22 : Try.prog.cellsOf 22 = 3 := by kernel_rfl
theorem k24 : Try.prog.cellsOf 24 = 2 := by kernel_rfl
theorem k3 : Try.prog.cellsOf 3 = 1 := by kernel_rfl
theorem k4 : Try.prog.cellsOf 4 = 1 := by kernel_rfl
theorem okWide_arr {w : World} {r : Reach} {b0 t n e : Nat} {v : Value} (ht : Try.prog.underlying t = some (.array n e)) (hv : Value.okWide Try.prog w r b0 t v) : ∃ cs, v = .agg cs := by
  unfold Value.okWide at hv
  rw [ht] at hv
  cases v <;> simp_all
theorem padd (b off j : Nat) : (⟨b, off, none⟩ : Addr).add j = ⟨b, off + j, none⟩ := by unfold Addr.add; split <;> simp_all
section
variable {H : Type} {enc : TypeId × Value → H} {w : World} {base : Nat} {spare : Nat → Bool} {held : Bool}
theorem arr_form {r : Reach} {b0 : Nat} {v : Value} {d : DataW H} {p : List MemPlace} (hv : Value.okWide Try.prog w r b0 22 v) (h : DataW.Trod enc Try.prog w base spare held 22 v d p) :
    ∃ a b c : Int, v = .agg #[.int .i64 a, .int .i64 b, .int .i64 c] := by
  obtain ⟨fuel, hf⟩ := h
  obtain ⟨cs, rfl⟩ := okWide_arr Try.underlying22 hv
  obtain ⟨l⟩ := cs
  obtain ⟨xs, n, _, hx, hl, hlen, hg⟩ := DataW.trod_array Try.underlying22 hf
  simp [Value.cells] at hl
  rw [k22] at hl
  match l, hl with
  | [c0, c1, c2], _ =>
    match xs, hlen with
    | [y0, y1, y2], _ =>
      have g0 := hg 0 (by omega)
      have g1 := hg 1 (by omega)
      have g2 := hg 2 (by omega)
      simp [Value.cells, k3] at g0 g1 g2
      obtain ⟨a, e0, _⟩ := DataW.trod_int Try.underlying3 g0
      obtain ⟨b, e1, _⟩ := DataW.trod_int Try.underlying3 g1
      obtain ⟨c, e2, _⟩ := DataW.trod_int Try.underlying3 g2
      simp at e0 e1 e2
      exact ⟨a, b, c, by rw [e0, e1, e2]⟩
theorem two_form {r : Reach} {b0 : Nat} {v : Value} {d : DataW H} {p : List MemPlace} (hv : Value.okWide Try.prog w r b0 24 v) (h : DataW.Trod enc Try.prog w base spare held 24 v d p) :
    ∃ a b : Int, v = .agg #[.int .i64 a, .int .i64 b] := by
  obtain ⟨fuel, hf⟩ := h
  obtain ⟨cs, rfl⟩ := okWide_arr Try.underlying24 hv
  obtain ⟨l⟩ := cs
  obtain ⟨xs, n, _, hx, hl, hlen, hg⟩ := DataW.trod_array Try.underlying24 hf
  simp [Value.cells] at hl
  rw [k24] at hl
  match l, hl with
  | [c0, c1], _ =>
    match xs, hlen with
    | [y0, y1], _ =>
      have g0 := hg 0 (by omega)
      have g1 := hg 1 (by omega)
      simp [Value.cells, k3] at g0 g1
      obtain ⟨a, e0, _⟩ := DataW.trod_int Try.underlying3 g0
      obtain ⟨b, e1, _⟩ := DataW.trod_int Try.underlying3 g1
      simp at e0 e1
      exact ⟨a, b, by rw [e0, e1]⟩
theorem win_form {r : Reach} {b0 : Nat} {v : Value} {d : DataW H} {p : List MemPlace} (hv : Value.okWide Try.prog w r b0 26 v) (h : DataW.Trod enc Try.prog w base spare held 26 v d p) :
    ∃ (u0 : Int) (u1 : Int) (u2 : Int) (u3 : Int) (u4 : Int) (u5 : Int), v = .agg #[.int .i64 u0, .int .i64 u1, .int .i64 u2, .int .i64 u3, .int .i64 u4, .int .i64 u5] := by
  obtain ⟨cs, rfl, hsz⟩ := okWide_struct Try.underlying26 hv
  obtain ⟨l⟩ := cs
  match l, hsz.trans k26 with
  | [c0, c1, c2, c3, c4, c5], _ =>
    obtain ⟨fuel, hf⟩ := h
    obtain ⟨xs, n, _, hx, _, hlen, hg⟩ := DataW.trod_struct Try.underlying26 hf
    match xs, hlen with
    | [y0, y1, y2, y3, y4, y5], _ =>
      have g0 := hg 0 _ rfl
      have g1 := hg 1 _ rfl
      have g2 := hg 2 _ rfl
      have g3 := hg 3 _ rfl
      have g4 := hg 4 _ rfl
      have g5 := hg 5 _ rfl
      simp [Value.cells, k3, k4] at g0 g1 g2 g3 g4 g5
      obtain ⟨u0, e0, _⟩ := DataW.trod_int Try.underlying3 g0
      obtain ⟨u1, e1, _⟩ := DataW.trod_int Try.underlying3 g1
      obtain ⟨u2, e2, _⟩ := DataW.trod_int Try.underlying3 g2
      obtain ⟨u3, e3, _⟩ := DataW.trod_int Try.underlying3 g3
      obtain ⟨u4, e4, _⟩ := DataW.trod_int Try.underlying3 g4
      obtain ⟨u5, e5, _⟩ := DataW.trod_int Try.underlying3 g5
      simp at e0 e1 e2 e3 e4 e5
      exact ⟨u0, u1, u2, u3, u4, u5, by rw [e0, e1, e2, e3, e4, e5]⟩
theorem pkt_form {r : Reach} {b0 : Nat} {v : Value} {d : DataW H} {p : List MemPlace} (hv : Value.okWide Try.prog w r b0 34 v) (h : DataW.Trod enc Try.prog w base spare held 34 v d p) :
    ∃ (u0 : Int) (u1 : Int) (u2 : Int) (u3 : Bool) (u4 : Bool) (u5 : Bool), v = .agg #[.int .i64 u0, .int .i64 u1, .int .i64 u2, .bool u3, .bool u4, .bool u5] := by
  obtain ⟨cs, rfl, hsz⟩ := okWide_struct Try.underlying34 hv
  obtain ⟨l⟩ := cs
  match l, hsz.trans k34 with
  | [c0, c1, c2, c3, c4, c5], _ =>
    obtain ⟨fuel, hf⟩ := h
    obtain ⟨xs, n, _, hx, _, hlen, hg⟩ := DataW.trod_struct Try.underlying34 hf
    match xs, hlen with
    | [y0, y1, y2, y3, y4, y5], _ =>
      have g0 := hg 0 _ rfl
      have g1 := hg 1 _ rfl
      have g2 := hg 2 _ rfl
      have g3 := hg 3 _ rfl
      have g4 := hg 4 _ rfl
      have g5 := hg 5 _ rfl
      simp [Value.cells, k3, k4] at g0 g1 g2 g3 g4 g5
      obtain ⟨u0, e0, _⟩ := DataW.trod_int Try.underlying3 g0
      obtain ⟨u1, e1, _⟩ := DataW.trod_int Try.underlying3 g1
      obtain ⟨u2, e2, _⟩ := DataW.trod_int Try.underlying3 g2
      obtain ⟨u3, e3, _⟩ := DataW.trod_bool Try.underlying4 g3
      obtain ⟨u4, e4, _⟩ := DataW.trod_bool Try.underlying4 g4
      obtain ⟨u5, e5, _⟩ := DataW.trod_bool Try.underlying4 g5
      simp at e0 e1 e2 e3 e4 e5
      exact ⟨u0, u1, u2, u3, u4, u5, by rw [e0, e1, e2, e3, e4, e5]⟩
theorem dos_form {r : Reach} {b0 : Nat} {v : Value} {d : DataW H} {p : List MemPlace} (hv : Value.okWide Try.prog w r b0 23 v) (h : DataW.Trod enc Try.prog w base spare held 23 v d p) :
    ∃ (A : Option Addr) (len cap : Nat), v = .slice A len cap ∧ (Dos w A len ∧ len ≤ 9223372036854775807) := by
  obtain ⟨A, len, cap, rfl⟩ := okWide_slice Try.underlying23 hv
  obtain ⟨fuel, hf⟩ := h
  rcases open_slice Try.underlying23 hf with ⟨hcs, _⟩ | ⟨a, l, c, m, n, D, Pl, hcs, hb, hl, hm, hmm, hx, hi⟩
  · simp [Value.cells] at hcs
    obtain ⟨rfl, rfl, rfl⟩ := hcs
    exact ⟨none, 0, 0, rfl, fun i hi => by omega, by omega⟩
  · simp [Value.cells] at hcs
    obtain ⟨rfl, rfl, rfl⟩ := hcs
    have hpl : 0 < len → ∃ b off, a = ⟨b, off, none⟩ := fun h0 => by
      obtain ⟨cs', hc, ht⟩ := hi 0 (by rw [hmm]; split <;> omega)
      rw [k31] at hc
      obtain ⟨_, hcl, hat⟩ := World.cells?_some hc
      obtain ⟨b, off, spot⟩ := a
      have a0 := hat 0 (by omega)
      have hv : cs'[0]? = some (cs'[0]'(by omega)) := List.getElem?_eq_getElem (by omega)
      rw [hv] at a0
      have hspot : spot = none := by simpa [Addr.add] using World.cell?_spot a0
      exact ⟨b, off, by rw [hspot]⟩
    refine ⟨some a, len, cap, rfl, fun i hil => ?_, by unfold maxLen at hm; omega⟩
    obtain ⟨cs', hc, ht⟩ := hi i (by rw [hmm]; split <;> omega)
    rw [k31] at hc
    obtain ⟨xs, n', _, _, hlen, hxl, hf'⟩ := DataW.trod_struct Try.underlying31 ht
    obtain ⟨_, hcl, hat⟩ := World.cells?_some hc
    rw [k31] at hlen
    match cs', hlen with
    | [c0, c1, c2, c3, c4], _ =>
      match xs, hxl with
      | [y0, y1, y2, y3, y4], _ =>
        have g0 := hf' 0 _ rfl
        have g1 := hf' 1 _ rfl
        have g2 := hf' 2 _ rfl
        have g3 := hf' 3 _ rfl
        have g4 := hf' 4 _ rfl
        simp [k3, k4] at g0 g1 g2 g3 g4
        obtain ⟨u0, e0, _⟩ := DataW.trod_int Try.underlying3 g0
        obtain ⟨u1, e1, _⟩ := DataW.trod_int Try.underlying3 g1
        obtain ⟨u2, e2, _⟩ := DataW.trod_int Try.underlying3 g2
        obtain ⟨u3, e3, _⟩ := DataW.trod_int Try.underlying3 g3
        obtain ⟨u4, e4, _⟩ := DataW.trod_bool Try.underlying4 g4
        simp at e0 e1 e2 e3 e4
        have a0 := hat 0 (by omega)
        have a1 := hat 1 (by omega)
        have a2 := hat 2 (by omega)
        have a3 := hat 3 (by omega)
        have a4 := hat 4 (by omega)
        simp only [List.getElem?_cons_zero, List.getElem?_cons_succ, e0, e1, e2, e3, e4] at a0 a1 a2 a3 a4
        obtain ⟨b, off, rfl⟩ := hpl (by omega)
        rw [padd] at a0 a1 a2 a3 a4
        rw [padd] at a0 a1 a2 a3 a4
        have hlt := World.block_lt_of_cell? w _ a0
        exact ⟨b, off, u0, u1, u2, u3, u4, rfl, hlt, a0, a1, a2, a3, a4⟩
end
end Go.Proofs.Ytcjhankepchioaa
