/-
  Rows of numbers that came in, opened.
-/
import Derived.Test.YtcjhankepchioaaV
import Derived.Test.YtcjhankepchioaaU
namespace Go.Proofs.Ytcjhankepchioaa
open Go.ChangeShapes Go.WideShapes Go.ChangeAt Go.RowKit Go.Deep
set_option linter.unusedVariables false
set_option linter.unusedSimpArgs false

section
variable {H : Type} {enc : TypeId × Value → H} {w : World} {base : Nat} {spare : Nat → Bool} {held : Bool}
theorem row_form {r : Reach} {b0 : Nat} {v : Value} {d : DataW H} {p : List MemPlace} (hv : Value.okWide Try.prog w r b0 40 v) (h : DataW.Trod enc Try.prog w base spare held 40 v d p) :
    ∃ (A : Option Addr) (len cap : Nat), v = .slice A len cap ∧ (Row w A len ∧ len ≤ 9223372036854775807) := by
  obtain ⟨A, len, cap, rfl⟩ := okWide_slice Try.underlying40 hv
  obtain ⟨fuel, hf⟩ := h
  rcases open_slice Try.underlying40 hf with ⟨hcs, _⟩ | ⟨a, l, c, m, n, D, Pl, hcs, hb, hl, hm, hmm, hx, hi⟩
  · simp [Value.cells] at hcs
    obtain ⟨rfl, rfl, rfl⟩ := hcs
    exact ⟨none, 0, 0, rfl, fun i hi => by omega, by omega⟩
  · simp [Value.cells] at hcs
    obtain ⟨rfl, rfl, rfl⟩ := hcs
    have hpl : 0 < len → ∃ b off, a = ⟨b, off, none⟩ := fun h0 => by
      obtain ⟨cs', hc, ht⟩ := hi 0 (by rw [hmm]; split <;> omega)
      rw [k3] at hc
      obtain ⟨_, hcl, hat⟩ := World.cells?_some hc
      obtain ⟨b, off, spot⟩ := a
      have a0 := hat 0 (by omega)
      have hv : cs'[0]? = some (cs'[0]'(by omega)) := List.getElem?_eq_getElem (by omega)
      rw [hv] at a0
      have hspot : spot = none := by simpa [Addr.add] using World.cell?_spot a0
      exact ⟨b, off, by rw [hspot]⟩
    refine ⟨some a, len, cap, rfl, fun i hil => ?_, by unfold maxLen at hm; omega⟩
    obtain ⟨cs', hc, ht⟩ := hi i (by rw [hmm]; split <;> omega)
    rw [k3] at hc
    obtain ⟨_, hcl, hat⟩ := World.cells?_some hc
    match cs', hcl with
    | [c0], _ =>
      obtain ⟨x, e0, _⟩ := DataW.trod_int Try.underlying3 ht
      simp at e0
      subst e0
      have a0 := hat 0 (by omega)
      simp only [List.getElem?_cons_zero, List.getElem?_cons_succ] at a0
      obtain ⟨b, off, rfl⟩ := hpl (by omega)
      rw [padd] at a0
      rw [padd] at a0
      have hlt := World.block_lt_of_cell? w _ a0
      exact ⟨b, off, x, rfl, hlt, by simpa using a0⟩
end
end Go.Proofs.Ytcjhankepchioaa
