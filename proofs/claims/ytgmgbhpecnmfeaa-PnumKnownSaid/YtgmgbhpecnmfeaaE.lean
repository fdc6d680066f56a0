/-
  Contracts of EqBytes, CopyBytes: two equal lists; a copy in new memory.
-/
import Derived.Test.YtgmgbhpecnmfeaaD
import Derived.Test.YtgmgbhpecnmfeaaB
import Derived.Laws.BytesArg
import Derived.Laws.OwnMore
import Derived.Deep.AppendLies
import Derived.Maps.AppendAt
import Derived.OwnWalk
namespace Go.Proofs.Ytgmgbhpecnmfeaa
open Go.RowKit (wrap32 wrap64)
open Go.RowKit
set_option linter.unusedVariables false

theorem conv_bs {A : Option Addr} {n : Nat} {xs : List Int} {w : World} (h : Bs w A n xs) (c : Nat) : (convert 22 9 (.slice A n c)).run Try.prog w = .ok (.string (strOfNums xs)) w := by
  obtain ⟨hl, hb, hc⟩ := h
  by_cases hn : 0 < n
  · obtain ⟨b, off, hA, hcell⟩ := hc hn
    rw [hA]
    exact run_convert_bytes_arg w 22 5 Try.underlying22 Try.underlying5 b off n c xs hl hcell 9 Try.underlying9
  · obtain rfl : n = 0 := by omega
    obtain rfl : xs = [] := List.eq_nil_of_length_eq_zero hl
    cases A with
    | none => exact run_convert_bytes_nil w 22 5 Try.underlying22 Try.underlying5 0 c 9 Try.underlying9
    | some a =>
      rw [run_convert_bytes_string w 22 9 5 (some a) 0 c Try.underlying22 Try.underlying5 Try.underlying9]
      have h0 : (loadCells a 0).run Try.prog w = .ok (([] : List Int).map (Value.int .u8)).toArray w := run_loadCells_list (P := Try.prog) w a [] (fun j v hj => by simp at hj)
      rw [run_bytesToString w a 0 c [] h0]
      rfl

theorem eqb_same (A A' : Option Addr) (n c c' : Nat) (xs : List Int) (w : World) (h : Bs w A n xs) (h' : Bs w A' n xs) :
    Calls Try.prog 13 #[.slice A n c, .slice A' n c'] w fun e w' => e = .returned (.bool true) ∧ w = w' := by
  have e1 := conv_bs h c
  have e2 := conv_bs h' c'
  clear h h'
  go_enter Try.func13, Try.ntmps13
  go_wp2
  go_ret
  exact ⟨rfl, rfl⟩

theorem Bs.below {A : Option Addr} {n B : Nat} {xs : List Int} {w w' : World} (h : Bs w A n xs) (hb : Below B w w') (hA : ∀ a, A = some a → a.block < B) : Bs w' A n xs := by
  obtain ⟨hl, hb', hc⟩ := h
  refine ⟨hl, hb', fun hn => ?_⟩
  obtain ⟨b, off, he, hcell⟩ := hc hn
  exact ⟨b, off, he, fun j hj => (hb.cell (p := ⟨b, off + j, none⟩) (show b < B from hA _ he)).trans (hcell j hj)⟩

theorem byte_info : (Try.prog.info? 5).map (fun i => (i.zero, i.size, i.bytes)) = some (some (.int .u8 0), 1, 1) := by kernel_rfl

theorem bs_of_own {w : World} {base : Nat} {v : Value} {n : Nat} {xs : List Int} (hl : xs.length = n) (hb : ∀ x ∈ xs, 0 ≤ x ∧ x ≤ 255) (hown : w.ownsRow base 5 1 v n (xs.map (Value.int .u8))) :
    ∃ A c, v = .slice A n c ∧ Bs w A n xs ∧ ∀ a, A = some a → a.block < w.heap.size := by
  rcases hown.2 with ⟨rfl, hx⟩ | ⟨g, cap, cur, rfl, hg, hh, hr⟩
  · subst hx
    obtain rfl : xs = [] := List.eq_nil_of_length_eq_zero hl
    exact ⟨none, 0, rfl, ⟨rfl, hb, fun h => absurd h (by omega)⟩, fun a h => by cases h⟩
  · refine ⟨_, cap, rfl, ⟨hl, hb, fun hn => ⟨g, 0, rfl, fun j hj => ?_⟩⟩, ?_⟩
    · have := hown.cells (g := g) rfl j (.int .u8 (xs.getD j 0)) (by simp [List.getElem?_eq_getElem (show j < xs.length by omega), List.getD])
      have hplain : (⟨g, 0, none⟩ : Addr).add j = ⟨g, 0 + j, none⟩ := by unfold Addr.add; split <;> simp_all
      rw [hplain] at this
      exact this
    · intro a h
      injection h with h
      subst h
      show g < w.heap.size
      rcases Nat.lt_or_ge g w.heap.size with hlt | hge
      · exact hlt
      · rw [Array.getElem?_eq_none hge] at hh; cases hh

/-- What a copy is: n bytes, the numbers xs, below the heap's end. -/
def Copied (n : Nat) (xs : List Int) (e : Ending) (w' : World) : Prop := ∃ A' c', e = .returned (.slice A' n c') ∧ Bs w' A' n xs ∧ ∀ a, A' = some a → a.block < w'.heap.size

theorem copy_any (A : Option Addr) (n c : Nat) (xs : List Int) (w : World) (h : Bs w A n xs) (hn : n ≤ 65536) :
    Calls Try.prog 14 #[.slice A n c] w fun e w' => Copied n xs e w' ∧ Below w.heap.size w w' := by
  obtain ⟨i0, hi0, hz0, hz1, hz2⟩ := info_parts byte_info
  obtain ⟨hl, hb, hc⟩ := h
  have Hb := Lib.hid hb
  have Hl := Lib.hid hl
  cases A with
  | none =>
    have h0 : n = 0 := by
      rcases Nat.eq_zero_or_pos n with h | h
      · exact h
      · obtain ⟨_, _, e, _⟩ := hc h; cases e
    subst h0
    clear hc hl hb
    go_enter Try.func14, Try.ntmps14
    go_wp2
    go_ret
    exact ⟨⟨none, 0, rfl, ⟨Hl.out, Hb.out, fun h => absurd h (by omega)⟩, fun a h => by cases h⟩, Below.refl _ _⟩
  | some ad =>
    have hnews : ∀ j u, (xs.map (Value.int .u8))[j]? = some u → w.cell? (ad.add j) = some u := by
      intro j u hu
      have hj : j < xs.length := by
        have := (List.getElem?_eq_some_iff.1 hu).1
        simpa using this
      obtain ⟨b, off, he, hcell⟩ := hc (by omega)
      injection he with he
      subst he
      have hplain : (⟨b, off, none⟩ : Addr).add j = ⟨b, off + j, none⟩ := by unfold Addr.add; split <;> simp_all
      rw [hplain, hcell j (by omega)]
      simp [List.getElem?_eq_getElem hj] at hu
      subst hu
      simp [List.getD, List.getElem?_eq_getElem hj]
    have Hn := Lib.hid hnews
    clear hc hl hb hnews
    go_enter Try.func14, Try.ntmps14
    go_wp2_with (first
      | (at_builtin
         refine wpList_append_own _ rfl (.tmp 4) (.tmp 5) 22 rfl w.heap.size 5 i0 (.int .u8 0) 1 1 Try.underlying22 hi0 hz0 hz1 hz2 rfl (by omega) (.slice none 0 0) 0 [] rfl
           ⟨by simp, .inl ⟨rfl, rfl⟩⟩ ad n c (xs.map (Value.int .u8)) rfl (by rw [List.length_map, Hl.out, Nat.mul_one]) Hn.out (ints_oneCell _ _) (by simp only [maxLen]; omega) (by omega) (Nat.le_refl _) ?_
         intro v1 w1 hown1 hg1 hat1))
    go_ret
    have hown2 : w1.ownsRow w.heap.size 5 1 v1 n (xs.map (Value.int .u8)) := by simpa using hown1
    obtain ⟨A', c', rfl, hB, hlt⟩ := bs_of_own Hl.out Hb.out hown2
    exact ⟨⟨A', c', rfl, hB, hlt⟩, (Below.refl _ _).grown hg1 (Nat.le_refl _) (by simp [Value.ownBlock])⟩
end Go.Proofs.Ytgmgbhpecnmfeaa
