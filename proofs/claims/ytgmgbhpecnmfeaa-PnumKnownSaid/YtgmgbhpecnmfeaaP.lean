/-
  Chapter 3, plain: what is found again, with no program in sight.
-/
namespace Go.Proofs.Ytgmgbhpecnmfeaa
set_option linter.unusedVariables false
def wholeV (g c all : Int) : Int :=
  if (g + 1) / all * all + c ≤ g + 1 - all / 2 ∧ (g + 1) / all * all + c + all ≤ 9007199254740991 then (g + 1) / all * all + c + all
  else if ((g + 1) / all * all + c > g + 1 + all / 2 ∨ (g + 1) / all * all + c > 9007199254740991) ∧ (g + 1) / all * all + c ≥ all then (g + 1) / all * all + c - all
  else (g + 1) / all * all + c

/-- the reference's step -/
def farV (a b : Int) : Int := if b - a ≤ a - b then a - b else b - a
def isV (n : Int) : Prop := 0 ≤ n ∧ n ≤ 9007199254740991
instance (n : Int) : Decidable (isV n) := by unfold isV; infer_instance
def stepV (g c all k best : Int) : Int :=
  if isV (((g + 1) / all + k) * all + c) ∧ (best < 0 ∨ farV (((g + 1) / all + k) * all + c) (g + 1) ≤ farV best (g + 1)) then ((g + 1) / all + k) * all + c else best
def refV (g c all : Int) : Int := stepV g c all 1 (stepV g c all 0 (stepV g c all (-1) (-1)))

def Width (all : Int) : Prop := all = 256 ∨ all = 65536 ∨ all = 16777216 ∨ all = 4294967296

def pick (want v best : Int) : Int := if isV v ∧ (best < 0 ∨ farV v want ≤ farV best want) then v else best
theorem pick_yes {want v best : Int} (h : isV v) (h' : best < 0 ∨ farV v want ≤ farV best want) : pick want v best = v := if_pos ⟨h, h'⟩
theorem pick_no {want v best : Int} (h : ¬ isV v) : pick want v best = best := if_neg fun x => h x.1
theorem pick_far {want v best : Int} (h : 0 ≤ best) (h' : farV best want < farV v want) : pick want v best = best := if_neg fun x => by rcases x.2 with a | a <;> omega

theorem step_ref (n0 want all : Int) (c0 : 0 ≤ n0) (w0 : 0 ≤ want) (hlo : want - all < n0) (hhi : n0 < want + all) (_hall : 0 < all) (hev : all % 2 = 0) (hm : n0 - all ≤ 9007199254740991) (hn : 9007199254740991 < n0 → all ≤ n0) :
    pick want (n0 + all) (pick want n0 (pick want (n0 - all) (-1)))
    = if n0 ≤ want - all / 2 ∧ n0 + all ≤ 9007199254740991 then n0 + all else if (n0 > want + all / 2 ∨ n0 > 9007199254740991) ∧ n0 ≥ all then n0 - all else n0 := by
  have f1 : farV (n0 - all) want = want - n0 + all := by unfold farV; split <;> omega
  have f3 : farV (n0 + all) want = n0 + all - want := by unfold farV; split <;> omega
  have f2 : (farV n0 want = n0 - want ∧ want ≤ n0) ∨ (farV n0 want = want - n0 ∧ n0 < want) := by unfold farV; split <;> omega
  by_cases a : n0 - all < 0
  · rw [pick_no (v := n0 - all) (by unfold isV; omega)]
    have b : n0 ≤ 9007199254740991 := by omega
    rw [pick_yes (v := n0) (by unfold isV; omega) (Or.inl (by omega))]
    by_cases i3 : n0 + all ≤ 9007199254740991 ∧ farV (n0 + all) want ≤ farV n0 want
    · rw [pick_yes (by unfold isV; omega) (Or.inr i3.2), if_pos (by omega)]
    · by_cases i4 : n0 + all ≤ 9007199254740991
      · rw [pick_far (by omega) (by omega), if_neg (by omega), if_neg (by omega)]
      · rw [pick_no (by unfold isV; omega), if_neg (by omega), if_neg (by omega)]
  · rw [pick_yes (v := n0 - all) (by unfold isV; omega) (Or.inl (by omega))]
    by_cases b : n0 ≤ 9007199254740991
    · by_cases c : farV n0 want ≤ farV (n0 - all) want
      · rw [pick_yes (v := n0) (by unfold isV; omega) (Or.inr c)]
        by_cases i3 : n0 + all ≤ 9007199254740991 ∧ farV (n0 + all) want ≤ farV n0 want
        · rw [pick_yes (by unfold isV; omega) (Or.inr i3.2), if_pos (by omega)]
        · by_cases i4 : n0 + all ≤ 9007199254740991
          · rw [pick_far (by omega) (by omega), if_neg (by omega), if_neg (by omega)]
          · rw [pick_no (by unfold isV; omega), if_neg (by omega), if_neg (by omega)]
      · rw [pick_far (v := n0) (by omega) (by omega)]
        by_cases i4 : n0 + all ≤ 9007199254740991
        · rw [pick_far (by omega) (by omega), if_neg (by omega), if_pos (by omega)]
        · rw [pick_no (by unfold isV; omega), if_neg (by omega), if_pos (by omega)]
    · rw [pick_no (v := n0) (by unfold isV; omega), pick_no (by unfold isV; omega), if_neg (by omega), if_pos (by omega)]

theorem whole_ref (g c all : Int) (ha : Width all) (h0 : -1 ≤ g) (h1 : g ≤ 9007199254740991) (c0 : 0 ≤ c) (c1 : c < all) : refV g c all = wholeV g c all := by
  have hall : 0 < all := by unfold Width at ha; omega
  have hdm : (g + 1) / all * all + (g + 1) % all = g + 1 := by have := Int.mul_ediv_add_emod (g + 1) all; rw [Int.mul_comm] at this; exact this
  have hr0 : 0 ≤ (g + 1) % all := Int.emod_nonneg _ (by omega)
  have hr1 : (g + 1) % all < all := Int.emod_lt_of_pos _ hall
  have hq0 : 0 ≤ (g + 1) / all * all := Int.mul_nonneg (Int.ediv_nonneg (by omega) (by omega)) (by omega)
  have key := step_ref ((g + 1) / all * all + c) (g + 1) all (by omega) (by omega) (by omega) (by omega) hall (by unfold Width at ha; omega) (by
    rcases ha with rfl | rfl | rfl | rfl <;> omega) (by unfold Width at ha; omega)
  have e1 : ((g + 1) / all + 1) * all + c = (g + 1) / all * all + c + all := by rw [Int.add_mul]; omega
  have e0 : ((g + 1) / all + 0) * all + c = (g + 1) / all * all + c := by simp
  have em : ((g + 1) / all + -1) * all + c = (g + 1) / all * all + c - all := by rw [Int.add_mul]; omega
  unfold refV
  show pick (g + 1) (((g + 1) / all + 1) * all + c) (pick (g + 1) (((g + 1) / all + 0) * all + c) (pick (g + 1) (((g + 1) / all + -1) * all + c) (-1))) = _
  rw [e1, e0, em]
  exact key

theorem back (full acked g all : Int) (ha : Width all) (hf : 0 ≤ full) (hf1 : full ≤ 9007199254740991) (h0 : -1 ≤ acked) (h1 : acked < full) (h2 : full - acked ≤ all / 2) (hg : acked ≤ g) (hg1 : g ≤ full + all / 2 - 2) (hg2 : g ≤ 9007199254740991) :
    wholeV g (full % all) all = full := by
  rcases ha with rfl | rfl | rfl | rfl <;>
  · unfold wholeV
    split
    · omega
    · split <;> omega

theorem back_self (full acked all : Int) (ha : Width all) (hf : 0 ≤ full) (hf1 : full ≤ 9007199254740991) (h0 : -1 ≤ acked) (h1 : acked < full) (h2 : full - acked ≤ all / 2) :
    wholeV acked (full % all) all = full := by
  refine back full acked acked all ha hf hf1 h0 h1 h2 (by omega) ?_ (by omega)
  rcases ha with rfl | rfl | rfl | rfl <;> omega

theorem least (full acked all : Int) (ha : Width all) (hf : 0 ≤ full) (hf1 : full ≤ 9007199254740991) (h0 : -1 ≤ acked) (h1 : acked < full) (h2 : all / 2 < full - acked) (h3 : full - acked ≤ 2147483648) :
    wholeV acked (full % all) all < full ∨ full - acked - 1 = all / 2 ∨ full < all := by
  rcases ha with rfl | rfl | rfl | rfl <;>
  · unfold wholeV
    split
    · omega
    · split <;> omega

theorem whole_is (g c all : Int) (ha : Width all) (h0 : -1 ≤ g) (h1 : g ≤ 9007199254740991) (c0 : 0 ≤ c) (c1 : c < all) : 0 ≤ wholeV g c all ∧ wholeV g c all ≤ 9007199254740991 ∧ wholeV g c all % all = c := by
  rcases ha with rfl | rfl | rfl | rfl <;>
  · unfold wholeV
    split
    · omega
    · split <;> omega

theorem near (g c all : Int) (ha : Width all) (h0 : -1 ≤ g) (h1 : g ≤ 9007199254740991) (c0 : 0 ≤ c) (c1 : c < all) :
    ¬ (wholeV g c all + all ≤ 9007199254740991 ∧ farV (wholeV g c all + all) (g + 1) ≤ farV (wholeV g c all) (g + 1)) ∧
    ¬ (0 ≤ wholeV g c all - all ∧ farV (wholeV g c all - all) (g + 1) < farV (wholeV g c all) (g + 1)) := by
  rcases ha with rfl | rfl | rfl | rfl <;>
  · have hh := whole_is g c _ (by unfold Width; omega) h0 h1 c0 c1
    unfold farV
    constructor <;>
    · rintro ⟨a, b⟩
      unfold wholeV at a b hh
      split at a
      · omega
      · split at a <;> omega
/-- The best of the candidates of the places before i. -/
def BestV (g c all : Int) (i r : Int) : Prop :=
  (i = -1 ∧ r = -1) ∨ (i = 0 ∧ r = stepV g c all (-1) (-1)) ∨ (i = 1 ∧ r = stepV g c all 0 (stepV g c all (-1) (-1))) ∨ (i = 2 ∧ r = refV g c all) ∨ 3 ≤ i
theorem bestV_start (g c all : Int) : BestV g c all (-1) (-1) := Or.inl ⟨rfl, rfl⟩
theorem bestV_step {g c all i v : Int} (h : BestV g c all i v) : BestV g c all (i + 1) (pick (g + 1) (((g + 1) / all + i) * all + c) v) := by
  rcases h with ⟨rfl, rfl⟩ | ⟨rfl, rfl⟩ | ⟨rfl, rfl⟩ | ⟨rfl, rfl⟩ | h
  · exact Or.inr (Or.inl ⟨by omega, rfl⟩)
  · exact Or.inr (Or.inr (Or.inl ⟨by omega, rfl⟩))
  · exact Or.inr (Or.inr (Or.inr (Or.inl ⟨by omega, rfl⟩)))
  · exact Or.inr (Or.inr (Or.inr (Or.inr (by omega))))
  · exact Or.inr (Or.inr (Or.inr (Or.inr (by omega))))
theorem bestV_end {g c all r : Int} (h : BestV g c all 2 r) : r = refV g c all := by
  rcases h with ⟨h, _⟩ | ⟨h, _⟩ | ⟨h, _⟩ | ⟨_, h⟩ | h
  · omega
  · omega
  · omega
  · exact h
  · omega

/-- Which of the three it is: N, or one step of 'all' beside it. -/
def pickV (N want all : Int) : Int := if N ≤ want - all / 2 ∧ N + all ≤ 9007199254740991 then N + all else if (N > want + all / 2 ∨ N > 9007199254740991) ∧ N ≥ all then N - all else N
theorem whole_pick (g c all : Int) : wholeV g c all = pickV ((g + 1) / all * all + c) (g + 1) all := rfl
theorem pickV_up {N want all : Int} (h1 : N ≤ want - all / 2) (h2 : N + all ≤ 9007199254740991) : pickV N want all = N + all := if_pos ⟨h1, h2⟩
theorem pickV_down {N want all : Int} (h : ¬ (N ≤ want - all / 2 ∧ N + all ≤ 9007199254740991)) (h1 : N > want + all / 2 ∨ N > 9007199254740991) (h2 : N ≥ all) : pickV N want all = N - all := by
  unfold pickV; rw [if_neg h, if_pos ⟨h1, h2⟩]
theorem pickV_stay {N want all : Int} (h : ¬ (N ≤ want - all / 2 ∧ N + all ≤ 9007199254740991)) (h1 : ¬ ((N > want + all / 2 ∨ N > 9007199254740991) ∧ N ≥ all)) : pickV N want all = N := by
  unfold pickV; rw [if_neg h, if_neg h1]
end Go.Proofs.Ytgmgbhpecnmfeaa
