/-
  Plain laws of a window: what may be, what becomes of one.
-/
import Derived.Test.YtcjhankepchioaaRows
namespace Go.Proofs.Ytcjhankepchioaa
def mn (a b : Int) : Int := if a ≤ b then a else b
def mx (a b : Int) : Int := if a ≤ b then b else a

/-- a window: its six numbers -/
structure Win where
  d : Int
  m : Int
  c : Int
  t : Int
  s : Int
  g : Int
deriving DecidableEq

def zero : Win := ⟨0, 0, 0, 0, 0, 0⟩

/-- may it be? -/
structure Ok (w : Win) : Prop where
  d0 : 1200 ≤ w.d
  d1 : w.d ≤ 65527
  m1 : w.m ≤ 1099511627776
  c0 : 2 * w.d ≤ w.c
  c1 : w.c ≤ w.m
  t0 : w.t = -1 ∨ (w.d ≤ w.t ∧ w.t ≤ w.m)
  s0 : w.s = -1 ∨ (0 ≤ w.s ∧ w.s ≤ 9007199254740991)
  g0 : 0 ≤ w.g
  g1 : w.g < w.c

def Time (n : Int) : Prop := 0 ≤ n ∧ n ≤ 9007199254740991

def slowN (d m : Int) : Nat → Int → Int → Int × Int
  | 0, g, c => (g, c)
  | n + 1, g, c => if c ≤ g then slowN d m n (g - c) (mn (c + d) m) else (g, c)
def slowly (d m g c : Int) : Int × Int := slowN d m g.toNat g c

theorem slowN_more (d m : Int) (hd : 0 < d) (hm : 0 < m) : ∀ (n k : Nat) (g c : Int), 0 < c → g.toNat ≤ n → g.toNat ≤ k → slowN d m n g c = slowN d m k g c := by
  intro n
  induction n with
  | zero =>
    intro k g c hc hn hk
    cases k with
    | zero => rfl
    | succ k => simp only [slowN]; rw [if_neg (by omega)]
  | succ n ih =>
    intro k g c hc hn hk
    cases k with
    | zero => simp only [slowN]; rw [if_neg (by omega)]
    | succ k =>
      simp only [slowN]
      by_cases h : c ≤ g
      · rw [if_pos h, if_pos h]
        exact ih k (g - c) (mn (c + d) m) (by unfold mn; split <;> omega) (by omega) (by omega)
      · rw [if_neg h, if_neg h]

theorem slowly_yes (d m g c : Int) (hd : 0 < d) (hm : 0 < m) (hc : 0 < c) (h : c ≤ g) : slowly d m g c = slowly d m (g - c) (mn (c + d) m) := by
  unfold slowly
  obtain ⟨n, hn⟩ : ∃ n, g.toNat = n + 1 := ⟨g.toNat - 1, by omega⟩
  rw [hn]
  simp only [slowN]
  rw [if_pos h]
  exact slowN_more d m hd hm _ _ _ _ (by unfold mn; split <;> omega) (by omega) (by omega)
theorem slowly_no (d m g c : Int) (h : g < c) : slowly d m g c = (g, c) := by
  unfold slowly
  cases g.toNat with
  | zero => rfl
  | succ n => simp only [slowN]; rw [if_neg (by omega)]

theorem slowN_ok (d m : Int) (hd : 0 < d) : ∀ (n : Nat) (g c : Int), g.toNat ≤ n → 2 * d ≤ c → c ≤ m → 0 ≤ g →
    2 * d ≤ (slowN d m n g c).2 ∧ (slowN d m n g c).2 ≤ m ∧ 0 ≤ (slowN d m n g c).1 ∧ (slowN d m n g c).1 < (slowN d m n g c).2 ∧ c ≤ (slowN d m n g c).2 := by
  intro n
  induction n with
  | zero => intro g c hn h0 h1 h2; simp only [slowN]; omega
  | succ n ih =>
    intro g c hn h0 h1 h2
    simp only [slowN]
    by_cases h : c ≤ g
    · rw [if_pos h]
      have := ih (g - c) (mn (c + d) m) (by omega) (by unfold mn; split <;> omega) (by unfold mn; split <;> omega) (by omega)
      have e : c ≤ mn (c + d) m := by unfold mn; split <;> omega
      omega
    · rw [if_neg h]; simp only; omega

/-- is a time behind it? -/
def Behind (w : Win) (sent : Int) : Prop := w.s = -1 ∨ w.s < sent
def Slow (w : Win) : Prop := w.t = -1 ∨ w.c < w.t
instance (w : Win) (n : Int) : Decidable (Behind w n) := by unfold Behind; infer_instance
instance (w : Win) : Decidable (Slow w) := by unfold Slow; infer_instance

def acked (w : Win) (time size : Int) (full : Bool) : Win :=
  if full = true ∧ Behind w time then
    if Slow w then { w with c := mn (w.c + size) w.m }
    else { w with c := (slowly w.d w.m (w.g + size) w.c).2, g := (slowly w.d w.m (w.g + size) w.c).1 }
  else w
def bad (w : Win) (sent now : Int) : Win :=
  if Behind w sent then { w with s := now, t := w.c / 2, c := mx (w.c / 2) (2 * w.d), g := 0 } else w
def collapse (w : Win) : Win := { w with c := 2 * w.d, s := -1, g := 0 }

theorem acked_ok {w : Win} (h : Ok w) (time size : Int) (full : Bool) (h0 : 0 ≤ size) : Ok (acked w time size full) := by
  obtain ⟨d0, d1, m1, c0, c1, t0, s0, g0, g1⟩ := h
  unfold acked
  split
  · split
    · refine ⟨d0, d1, m1, ?_, ?_, t0, s0, g0, ?_⟩ <;> (simp only [mn]; split <;> omega)
    · have := slowN_ok w.d w.m (by omega) (w.g + size).toNat (w.g + size) w.c (Nat.le_refl _) c0 c1 (by omega)
      exact ⟨d0, d1, m1, this.1, this.2.1, t0, s0, this.2.2.1, this.2.2.2.1⟩
  · exact ⟨d0, d1, m1, c0, c1, t0, s0, g0, g1⟩
theorem bad_ok {w : Win} (h : Ok w) (sent now : Int) (hn : Time now) : Ok (bad w sent now) := by
  obtain ⟨d0, d1, m1, c0, c1, t0, s0, g0, g1⟩ := h
  unfold Time at hn
  unfold bad
  split
  · refine ⟨d0, d1, m1, ?_, ?_, ?_, Or.inr hn, by simp, ?_⟩ <;> simp only [mx] <;> (first | omega | (split <;> omega))
  · exact ⟨d0, d1, m1, c0, c1, t0, s0, g0, g1⟩
theorem collapse_ok {w : Win} (h : Ok w) : Ok (collapse w) := by
  obtain ⟨d0, d1, m1, c0, c1, t0, s0, g0, g1⟩ := h
  exact ⟨d0, d1, m1, by simp [collapse], by simp [collapse]; omega, t0, Or.inl rfl, by simp [collapse], by simp [collapse]; omega⟩

theorem acked_d (w : Win) (time size : Int) (full : Bool) : (acked w time size full).d = w.d ∧ (acked w time size full).m = w.m ∧ (acked w time size full).t = w.t ∧ (acked w time size full).s = w.s := by
  unfold acked
  split
  · split <;> exact ⟨rfl, rfl, rfl, rfl⟩
  · exact ⟨rfl, rfl, rfl, rfl⟩
theorem bad_d (w : Win) (sent now : Int) : (bad w sent now).d = w.d ∧ (bad w sent now).m = w.m := by
  unfold bad
  split <;> exact ⟨rfl, rfl⟩
theorem acked_grows {w : Win} (h : Ok w) (time size : Int) (full : Bool) (h0 : 0 ≤ size) : w.c ≤ (acked w time size full).c := by
  obtain ⟨d0, d1, m1, c0, c1, t0, s0, g0, g1⟩ := h
  unfold acked
  split
  · split
    · simp only [mn]; split <;> omega
    · exact (slowN_ok w.d w.m (by omega) (w.g + size).toNat (w.g + size) w.c (Nat.le_refl _) c0 c1 (by omega)).2.2.2.2
  · exact Int.le_refl _
theorem acked_idle (w : Win) (time size : Int) : acked w time size false = w := by unfold acked; rw [if_neg (by simp)]
theorem acked_past (w : Win) (time size : Int) (full : Bool) (h : ¬ Behind w time) : acked w time size full = w := by unfold acked; rw [if_neg (fun x => h x.2)]
theorem bad_past (w : Win) (sent now : Int) (h : ¬ Behind w sent) : bad w sent now = w := by unfold bad; rw [if_neg h]
end Go.Proofs.Ytcjhankepchioaa
