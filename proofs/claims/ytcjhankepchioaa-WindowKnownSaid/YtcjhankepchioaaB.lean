/-
  Contracts of slowly and of the closures of chapter 11.
-/
import Derived.Test.YtcjhankepchioaaA
namespace Go.Proofs.Ytcjhankepchioaa
open Go.RowKit (wrap32 wrap64)
open Go.RowKit
set_option linter.unusedVariables false
set_option linter.unusedSimpArgs false

def gotOf (p : Nat) (w : World) : Nat := match w.cell? ⟨p, 5, none⟩ with | some (.int _ x) => x.toNat | _ => 0
theorem gotOf_of {p : Nat} {w : World} {x : Int} (h : w.cell? ⟨p, 5, none⟩ = some (.int .i64 x)) : gotOf p w = x.toNat := by unfold gotOf; rw [h]
theorem Bx.got {W : World} {p : Nat} {d m c t s r : Int} (h : Bx W p d m c t s r) : gotOf p W = r.toNat := gotOf_of h.c5

theorem belowStep {p : Nat} {w W : World} (h : Below p w W) (k : Nat) (x : Value) : Below p w (((W.drewN k).setCell ⟨p, 5, none⟩ x).drew) := by
  have h1 := belowDrewN h k
  go_grown

set_option maxHeartbeats 1000000 in
theorem slowly_any (p : Nat) (d m c t s r n : Int) (w : World) (h : Bx w p d m c t s r) (hn : 0 ≤ n) (hn' : n ≤ 65535) (hr : 0 ≤ r) (hrc : r < c) (hd : 0 < d) (hdc : 2 * d ≤ c) (hcm : c ≤ m) (hm : m ≤ 1099511627776) :
    Calls Try.prog 33 #[.pointer (some ⟨p, 0, none⟩), .int .i64 n] w fun e w' => (∃ v, e = .returned v) ∧ Bx w' p d m (slowly d m (r + n) c).2 t s (slowly d m (r + n) c).1 ∧ Below p w w' := by
  have hB := h.setR (r + n)
  obtain ⟨hl, k0, k1, k2, k3, k4, k5, kf⟩ := h
  go_enter Try.func33, Try.ntmps33
  go_wp2_with fail
  clear k0 k1 k2 k3 k4 k5 kf
  go_loopw [] (fun wr => ∃ g' c' : Int, Bx wr p d m c' t s g' ∧ Below p w wr ∧ slowly d m g' c' = slowly d m (r + n) c ∧ 0 ≤ g' ∧ 2 * d ≤ c' ∧ c' ≤ m ∧ g' ≤ r + n) (fun wr => gotOf p wr)
  case atStart => exact ⟨r + n, c, hB, by go_grown, rfl, by omega, by omega, by omega, by omega⟩
  case round =>
    obtain ⟨g', c', hX, hW, he, h0, h1, h2, h3⟩ := hrel
    have hX' := hX
    obtain ⟨hl', k0, k1, k2, k3, k4, k5, kf⟩ := hX'
    by_cases hlt : c' ≤ g'
    · have d1 : decide (c' ≤ g') = true := decide_eq_true hlt
      have e1 : IntKind.i64.wrap (g' - c') = g' - c' := IntWalk.i64_in _ (by omega)
      go_wp2_with fail
      go_quiet (fail)
      go_wp2_with fail
      go_region_with (fail)
      all_goals
        go_wp2_with fail
        refine (grow_any p d m c' t s (g' - c') d _ (((hX.drewN nq).setR (g' - c')).drew) (by omega) (by omega) (by omega) (by omega)).mono ?_
        rintro e w' ⟨⟨v, rfl⟩, hX2, hB2⟩
        go_wp2_with fail
        have hs := slowly_yes d m g' c' hd (by omega) (by omega) hlt
        have hm2 : mn (c' + d) m ≤ m ∧ c' ≤ mn (c' + d) m := by unfold mn; split <;> omega
        refine ⟨⟨g' - c', mn (c' + d) m, hX2, (belowStep hW nq _).trans hB2, hs ▸ he, by omega, by omega, by omega, by omega⟩, ?_⟩
        rw [hX2.got, hX.got]
        omega
    · have d1 : decide (c' ≤ g') = false := decide_eq_false hlt
      go_wp2_with fail
      go_quiet (fail)
      go_wp2_with fail
      have hs := slowly_no d m g' c' (by omega)
      rw [← he, hs]
      go_returns
      exact ⟨⟨_, rfl⟩, hX.drewN nq, belowDrewN hW nq⟩
end Go.Proofs.Ytcjhankepchioaa
