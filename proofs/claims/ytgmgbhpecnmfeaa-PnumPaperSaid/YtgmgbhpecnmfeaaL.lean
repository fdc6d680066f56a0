/-
  'in := make([]byte, m); copy(in, b)': m bytes, whichever they are; what lies nearest.
-/
import Derived.Test.YtgmgbhpecnmfeaaG
import Derived.Test.YtgmgbhpecnmfeaaK
import Derived.Laws.CopyOwn
namespace Go.Proofs.Ytgmgbhpecnmfeaa
open Go.RowKit (wrap32 wrap64)
open Go.RowKit
set_option linter.unusedVariables false

/-- The bytes behind the copy: the first ones of xs, the rest 0. -/
def into (m n : Nat) (xs : List Int) : List Int := xs.take (Nat.min n m) ++ List.replicate (m - Nat.min n m) 0
theorem into_len {m n : Nat} {xs : List Int} (hl : xs.length = n) : (into m n xs).length = m := by
  have : Nat.min n m ≤ m := Nat.min_le_right _ _
  have h2 : Nat.min n m ≤ n := Nat.min_le_left _ _
  simp only [into, List.length_append, List.length_take, List.length_replicate]
  omega
theorem into_ok {m n : Nat} {xs : List Int} (hb : ∀ x ∈ xs, 0 ≤ x ∧ x ≤ 255) : ∀ x ∈ into m n xs, 0 ≤ x ∧ x ≤ 255 := by
  intro x hx
  rcases List.mem_append.1 hx with h | h
  · exact hb x (List.mem_of_mem_take h)
  · rw [List.mem_replicate] at h; omega
theorem into_splice {m n : Nat} {xs : List Int} (hl : xs.length = n) : splice (List.replicate m (Value.int .u8 0)) 0 ((xs.take (Nat.min n m)).map (Value.int .u8)) = (into m n xs).map (Value.int .u8) := by
  have h2 : Nat.min n m ≤ n := Nat.min_le_left _ _
  have e : (min (Nat.min n m) xs.length) = Nat.min n m := by omega
  simp [splice, into, List.drop_replicate, e]

theorem src_len {A : Option Addr} {n m : Nat} {xs : List Int} {w : World} (h : Bs w A n xs) : ((xs.take (Nat.min n m)).map (Value.int .u8)).length = Nat.min n m := by
  have h2 : Nat.min n m ≤ n := Nat.min_le_left _ _
  have := h.1
  rw [List.length_map, List.length_take]; omega
theorem src_fit {A : Option Addr} {n m : Nat} {xs : List Int} {w : World} (h : Bs w A n xs) : 0 + ((xs.take (Nat.min n m)).map (Value.int .u8)).length ≤ (List.replicate m (Value.int .u8 0)).length := by
  have h2 : Nat.min n m ≤ m := Nat.min_le_right _ _
  rw [src_len h, List.length_replicate]; omega
theorem bs_block {w : World} {g m : Nat} {ys : List Int} (hl : ys.length = m) (hb : ∀ x ∈ ys, 0 ≤ x ∧ x ≤ 255) (h : w.heap[g]? = some (.cells (ys.map (Value.int .u8)).toArray 5 (0, 0))) : Bs w (some ⟨g, 0, none⟩) m ys :=
  ⟨hl, hb, fun _ => ⟨g, 0, rfl, fun j hj => by
    rw [cell_of_row w g (0 + j) _ 5 (0, 0) h]
    simp [List.getElem?_eq_getElem (show j < ys.length by omega), List.getD]⟩⟩

theorem into_block {A : Option Addr} {n m g : Nat} {xs ys : List Int} {w w' : World} (h : Bs w A n xs) (hys : into m n xs = ys) (hg : w'.heap[g]? = some (.cells (splice (List.replicate m (Value.int .u8 0)) 0 ((xs.map (Value.int .u8)).take (Nat.min n m))).toArray 5 (0, 0))) : Bs w' (some ⟨g, 0, none⟩) m ys := by
  subst hys
  rw [← List.map_take, into_splice h.1] at hg
  exact bs_block (into_len h.1) (into_ok h.2.1) hg

/-- What the source of the copy is. -/
theorem src_cells {A : Option Addr} {n m : Nat} {xs : List Int} {w : World} (h : Bs w A n xs) (o : Obj) : 0 < ((xs.take (Nat.min n m)).map (Value.int .u8)).length → ∃ ad, A = some ad ∧ ∀ j v, ((xs.take (Nat.min n m)).map (Value.int .u8))[j]? = some v → (w.alloc o).cell? (ad.add j) = some v := by
  intro h0
  obtain ⟨hl, hb, hc⟩ := h
  have h2 : Nat.min n m ≤ n := Nat.min_le_left _ _
  simp only [List.length_map, List.length_take] at h0
  obtain ⟨b, off, he, hcell⟩ := hc (by omega)
  refine ⟨_, he, fun j v hv => ?_⟩
  have hj : j < Nat.min n m ∧ j < xs.length := by
    have := (List.getElem?_eq_some_iff.1 hv).1
    simp only [List.length_map, List.length_take] at this
    omega
  have hplain : (⟨b, off, none⟩ : Addr).add j = ⟨b, off + j, none⟩ := by unfold Addr.add; split <;> simp_all
  have hcj := hcell j (by omega)
  rw [hplain, World.cell?_alloc_lt w o ⟨b, off + j, none⟩ (block_lt_of_cell hcj), hcj]
  simp [List.getElem?_eq_getElem hj.2, hj.1] at hv
  subst hv
  simp [List.getD, List.getElem?_eq_getElem hj.2]

theorem cutV_bd_1 (x0 : Int) (h0 : 0 ≤ x0 ∧ x0 ≤ 255) : 0 ≤ cutV [x0] ∧ cutV [x0] < 256 := by simp [cutV]; omega
theorem cutV_bd (ys : List Int) (m : Nat) (hm : 1 ≤ m) (hm4 : m ≤ 4) (hl : ys.length = m) (hb : ∀ x ∈ ys, 0 ≤ x ∧ x ≤ 255) : 0 ≤ cutV ys ∧ cutV ys < allV m := by
  subst hl
  match ys, hm, hm4 with
  | [x0], _, _ =>
    have B0 := hb x0 (by simp)
    simp [cutV, allV]; omega
  | [x0, x1], _, _ =>
    have B0 := hb x0 (by simp)
    have B1 := hb x1 (by simp)
    simp [cutV, allV]; omega
  | [x0, x1, x2], _, _ =>
    have B0 := hb x0 (by simp)
    have B1 := hb x1 (by simp)
    have B2 := hb x2 (by simp)
    simp [cutV, allV]; omega
  | [x0, x1, x2, x3], _, _ =>
    have B0 := hb x0 (by simp)
    have B1 := hb x1 (by simp)
    have B2 := hb x2 (by simp)
    have B3 := hb x3 (by simp)
    simp [cutV, allV]; omega
  | _ :: _ :: _ :: _ :: _ :: _, _, h => simp only [List.length_cons] at h; omega

/-- A number that ends with the bytes, cut again. -/
theorem bytesV_cut (ys : List Int) (m : Nat) (v : Int) (hm : 1 ≤ m) (hm4 : m ≤ 4) (hl : ys.length = m) (hb : ∀ x ∈ ys, 0 ≤ x ∧ x ≤ 255) (hv : v % allV m = cutV ys) : bytesV v m = ys := by
  subst hl
  match ys, hm, hm4, hv with
  | [x0], _, _, hv =>
    have B0 := hb x0 (by simp)
    simp [cutV, allV] at hv
    simp [bytesV]; omega
  | [x0, x1], _, _, hv =>
    have B0 := hb x0 (by simp)
    have B1 := hb x1 (by simp)
    simp [cutV, allV] at hv
    simp [bytesV]; omega
  | [x0, x1, x2], _, _, hv =>
    have B0 := hb x0 (by simp)
    have B1 := hb x1 (by simp)
    have B2 := hb x2 (by simp)
    simp [cutV, allV] at hv
    simp [bytesV]; omega
  | [x0, x1, x2, x3], _, _, hv =>
    have B0 := hb x0 (by simp)
    have B1 := hb x1 (by simp)
    have B2 := hb x2 (by simp)
    have B3 := hb x3 (by simp)
    simp [cutV, allV] at hv
    simp [bytesV]; omega
  | _ :: _ :: _ :: _ :: _ :: _, _, h, _ => simp only [List.length_cons] at h; omega

/-- What lies nearest, in inequalities alone. -/
theorem near_lin (g c all : Int) (ha : Width all) (h0 : -1 ≤ g) (h1 : g ≤ 9007199254740991) (c0 : 0 ≤ c) (c1 : c < all) :
    0 ≤ wholeV g c all ∧ wholeV g c all ≤ 9007199254740991 ∧ wholeV g c all % all = c ∧ (9007199254740991 < wholeV g c all + all ∨ 0 < 2 * (wholeV g c all - (g + 1)) + all) ∧ (wholeV g c all < all ∨ 2 * (wholeV g c all - (g + 1)) ≤ all) := by
  have hh := whole_is g c all ha h0 h1 c0 c1
  refine ⟨hh.1, hh.2.1, hh.2.2, ?_⟩
  rcases ha with rfl | rfl | rfl | rfl <;>
  · unfold wholeV at hh ⊢
    split
    · omega
    · split <;> omega
end Go.Proofs.Ytgmgbhpecnmfeaa
