/-
  A row of bytes that came in, as the list of its elements.
-/
import Derived.Test.YtgmgbhpecnmfeaaI
import Derived.OpenShut
namespace Go.Proofs.Ytgmgbhpecnmfeaa
open Go.RowKit
set_option linter.unusedVariables false

theorem byte_wf {n : Int} (h : (Lit.int .u8 n).wf = true) : 0 ≤ n ∧ n ≤ 255 := by
  have h1 : IntKind.u8.min = 0 := rfl
  have h2 : IntKind.u8.max = 255 := rfl
  simp only [Lit.wf, Bool.and_eq_true, decide_eq_true_eq, h1, h2] at h
  exact h
theorem bs_of_row {w : World} {x : Addr} {len cap : Nat} {zs : List Int} (hl : len ≤ cap) (hz : zs.length = cap) (hcell : ∀ i, i < zs.length → w.cell? (x.add i) = some (.int .u8 (zs.getD i 0))) (hwz : ∀ n ∈ zs, (Lit.int .u8 n).wf = true) :
    Bs w (some x) len (zs.take len) := by
  refine ⟨by rw [List.length_take]; omega, fun n hn => byte_wf (hwz n (List.mem_of_mem_take hn)), fun h0 => ?_⟩
  obtain ⟨b, off, spot⟩ := x
  have hc := hcell 0 (by omega)
  have hspot : spot = none := by simpa [Addr.add] using World.cell?_spot hc
  subst hspot
  refine ⟨b, off, rfl, fun j hj => ?_⟩
  have h := hcell j (by omega)
  have hplain : (⟨b, off, none⟩ : Addr).add j = ⟨b, off + j, none⟩ := by unfold Addr.add; split <;> simp_all
  rw [hplain] at h
  rw [h]
  simp [List.getD, hj]
end Go.Proofs.Ytgmgbhpecnmfeaa
