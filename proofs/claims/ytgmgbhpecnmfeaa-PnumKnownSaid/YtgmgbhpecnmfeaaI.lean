/-
  Cut and Whole at every argument; what PnumTells asks of a slice.
-/
import Derived.Test.YtgmgbhpecnmfeaaF
namespace Go.Proofs.Ytgmgbhpecnmfeaa
open Go.RowKit (wrap32 wrap64)
open Go.RowKit
set_option linter.unusedVariables false

def cutE (full n : Int) : Int := if full < 0 ∨ 9007199254740991 < full then 9 else if n < 1 ∨ 4 < n then 2 else 0
def cutXs (full n : Int) : List Int := if cutE full n = 0 then bytesV full n.toNat else []
def CutAll (full n : Int) (e : Ending) (w' : World) : Prop := ∃ A' c', e = .returned (.tuple #[.slice A' (cutXs full n).length c', .int .i64 (cutE full n)]) ∧ Bs w' A' (cutXs full n).length (cutXs full n)

theorem bs_nil (w : World) (A : Option Addr) : Bs w A 0 [] := ⟨rfl, by simp, fun h => absurd h (by omega)⟩
theorem bytesV_len (full : Int) (n : Nat) (h0 : 1 ≤ n) (h1 : n ≤ 4) : (bytesV full n).length = n := by
  have hn4 : n = 1 ∨ n = 2 ∨ n = 3 ∨ n = 4 := by omega
  rcases hn4 with rfl | rfl | rfl | rfl <;> simp [bytesV]

theorem cut_all (full n : Int) (w : World) : Calls Try.prog 11 #[.int .i64 full, .int .i64 n] w fun e w' => CutAll full n e w' ∧ Below w.heap.size w w' := by
  by_cases h : full < 0 ∨ 9007199254740991 < full
  · have e1 : cutE full n = 9 := by unfold cutE; rw [if_pos h]
    have e2 : cutXs full n = [] := by unfold cutXs; rw [e1]; simp
    refine (cut_range full n w h).mono ?_
    rintro e w' ⟨rfl, rfl⟩
    refine ⟨⟨none, 0, ?_, ?_⟩, Below.refl _ _⟩
    · rw [e1, e2]; rfl
    · rw [e2]; exact bs_nil _ _
  · by_cases h' : n < 1 ∨ 4 < n
    · have e1 : cutE full n = 2 := by unfold cutE; rw [if_neg h, if_pos h']
      have e2 : cutXs full n = [] := by unfold cutXs; rw [e1]; simp
      refine (cut_arg full n w (by omega) (by omega) h').mono ?_
      rintro e w' ⟨rfl, rfl⟩
      refine ⟨⟨none, 0, ?_, ?_⟩, Below.refl _ _⟩
      · rw [e1, e2]; rfl
      · rw [e2]; exact bs_nil _ _
    · have e1 : cutE full n = 0 := by unfold cutE; rw [if_neg h, if_neg h']
      obtain ⟨m, rfl⟩ := Int.eq_ofNat_of_zero_le (show 0 ≤ n by omega)
      have e2 : cutXs full m = bytesV full m := by unfold cutXs; rw [e1]; simp
      have e3 := bytesV_len full m (by omega) (by omega)
      refine (cut_any full m w (by omega) (by omega) (by omega) (by omega)).mono ?_
      rintro e w' ⟨⟨A', c', rfl, hB, _⟩, hb⟩
      refine ⟨⟨A', c', ?_, ?_⟩, hb⟩
      · rw [e1, e2, e3]
      · rw [e2, e3]; exact hB
theorem rcut_all (full n : Int) (w : World) : Calls Try.prog 12 #[.int .i64 full, .int .i64 n] w fun e w' => CutAll full n e w' ∧ Below w.heap.size w w' := by
  by_cases h : full < 0 ∨ 9007199254740991 < full
  · have e1 : cutE full n = 9 := by unfold cutE; rw [if_pos h]
    have e2 : cutXs full n = [] := by unfold cutXs; rw [e1]; simp
    refine (rcut_range full n w h).mono ?_
    rintro e w' ⟨rfl, rfl⟩
    refine ⟨⟨none, 0, ?_, ?_⟩, Below.refl _ _⟩
    · rw [e1, e2]; rfl
    · rw [e2]; exact bs_nil _ _
  · by_cases h' : n < 1 ∨ 4 < n
    · have e1 : cutE full n = 2 := by unfold cutE; rw [if_neg h, if_pos h']
      have e2 : cutXs full n = [] := by unfold cutXs; rw [e1]; simp
      refine (rcut_arg full n w (by omega) (by omega) h').mono ?_
      rintro e w' ⟨rfl, rfl⟩
      refine ⟨⟨none, 0, ?_, ?_⟩, Below.refl _ _⟩
      · rw [e1, e2]; rfl
      · rw [e2]; exact bs_nil _ _
    · have e1 : cutE full n = 0 := by unfold cutE; rw [if_neg h, if_neg h']
      obtain ⟨m, rfl⟩ := Int.eq_ofNat_of_zero_le (show 0 ≤ n by omega)
      have e2 : cutXs full m = bytesV full m := by unfold cutXs; rw [e1]; simp
      have e3 := bytesV_len full m (by omega) (by omega)
      refine (rcut_any full m w (by omega) (by omega) (by omega) (by omega)).mono ?_
      rintro e w' ⟨⟨A', c', rfl, hB, _⟩, hb⟩
      refine ⟨⟨A', c', ?_, ?_⟩, hb⟩
      · rw [e1, e2, e3]
      · rw [e2, e3]; exact hB

def wholeE (g : Int) (n : Nat) : Int := if g < -1 ∨ 9007199254740991 < g then 9 else if n = 0 ∨ 4 < n then 2 else 0
def wholeR (g : Int) (n : Nat) (xs : List Int) : Int := if wholeE g n = 0 then wholeV g (cutV xs) (allV n) else 0
theorem whole_all (g : Int) (A : Option Addr) (n c : Nat) (xs : List Int) (w : World) (hb : Bs w A n xs) :
    Calls Try.prog 15 #[.int .i64 g, .slice A n c] w fun e w' => e = .returned (.tuple #[.int .i64 (wholeR g n xs), .int .i64 (wholeE g n)]) ∧ ∃ k, w.drewN k = w' := by
  by_cases h : g < -1 ∨ 9007199254740991 < g
  · have e1 : wholeE g n = 9 := by unfold wholeE; rw [if_pos h]
    have e2 : wholeR g n xs = 0 := by unfold wholeR; rw [e1]; simp
    refine (whole_range g A n c w h).mono ?_
    rintro e w' ⟨rfl, rfl⟩
    exact ⟨by rw [e1, e2], 0, rfl⟩
  · by_cases h' : n = 0 ∨ 4 < n
    · have e1 : wholeE g n = 2 := by unfold wholeE; rw [if_neg h, if_pos h']
      have e2 : wholeR g n xs = 0 := by unfold wholeR; rw [e1]; simp
      refine (whole_arg g A n c w (by omega) (by omega) h').mono ?_
      rintro e w' ⟨rfl, rfl⟩
      exact ⟨by rw [e1, e2], 0, rfl⟩
    · have e1 : wholeE g n = 0 := by unfold wholeE; rw [if_neg h, if_neg h']
      have e2 : wholeR g n xs = wholeV g (cutV xs) (allV n) := by unfold wholeR; rw [if_pos e1]
      rw [e1, e2]
      exact whole_any g A n c xs w (by omega) (by omega) hb (by omega) (by omega)
theorem rwhole_all (g : Int) (A : Option Addr) (n c : Nat) (xs : List Int) (w : World) (hb : Bs w A n xs) :
    Calls Try.prog 16 #[.int .i64 g, .slice A n c] w fun e w' => e = .returned (.tuple #[.int .i64 (wholeR g n xs), .int .i64 (wholeE g n)]) ∧ w = w' := by
  by_cases h : g < -1 ∨ 9007199254740991 < g
  · have e1 : wholeE g n = 9 := by unfold wholeE; rw [if_pos h]
    have e2 : wholeR g n xs = 0 := by unfold wholeR; rw [e1]; simp
    rw [e1, e2]
    exact rwhole_range g A n c w h
  · by_cases h' : n = 0 ∨ 4 < n
    · have e1 : wholeE g n = 2 := by unfold wholeE; rw [if_neg h, if_pos h']
      have e2 : wholeR g n xs = 0 := by unfold wholeR; rw [e1]; simp
      rw [e1, e2]
      exact rwhole_arg g A n c w (by omega) (by omega) h'
    · have e1 : wholeE g n = 0 := by unfold wholeE; rw [if_neg h, if_neg h']
      have e2 : wholeR g n xs = wholeV g (cutV xs) (allV n) := by unfold wholeR; rw [if_pos e1]
      rw [e1, e2]
      exact rwhole_any g A n c xs w (by omega) (by omega) hb (by omega) (by omega)

theorem Bs.kept {A : Option Addr} {n : Nat} {xs : List Int} {w w' : World} (h : Bs w A n xs) (hb : Below w.heap.size w w') : Bs w' A n xs := by
  obtain ⟨hl, hb', hc⟩ := h
  refine ⟨hl, hb', fun hn => ?_⟩
  obtain ⟨b, off, he, hcell⟩ := hc hn
  exact ⟨b, off, he, fun j hj => (hb.cell (p := ⟨b, off + j, none⟩) (block_lt_of_cell (hcell j hj))).trans (hcell j hj)⟩
theorem Bs.upto {A : Option Addr} {n : Nat} {xs : List Int} {w : World} (h : Bs w A n xs) (m : Nat) (hm : m ≤ n) : Bs w A m (xs.take m) := by
  obtain ⟨hl, hb', hc⟩ := h
  refine ⟨by rw [List.length_take]; omega, fun x hx => hb' x (List.mem_of_mem_take hx), fun h0 => ?_⟩
  obtain ⟨b, off, he, hcell⟩ := hc (by omega)
  refine ⟨b, off, he, fun j hj => ?_⟩
  rw [hcell j (by omega)]
  simp [List.getD, hj]
end Go.Proofs.Ytgmgbhpecnmfeaa
