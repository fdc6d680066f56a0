/-
  The walk of EcnKnown.
-/
import Derived.Test.YtiocifmebnaabaaV
namespace Go.Proofs.Ytiocifmebnaabaa
open Go.RowKit (wrap32 wrap64)
open Go.RowKit
set_option linter.unusedVariables false
set_option linter.unusedSimpArgs false

/-- The row of ends lies in the call's first block; all older is as it was. -/
structure Kn (w W : World) : Prop where
  below : Below w.heap.size w W
  lt : w.heap.size < W.heap.size
  end_ : ∀ i, i < 9 → ∃ v : Int, W.cell? ⟨w.heap.size, i, none⟩ = some (.int .i64 v)
theorem Kn.kept {w W w' : World} (h : Kn w W) (hb : Below W.heap.size W w') : Kn w w' :=
  ⟨h.below.trans (hb.mono h.below.size), Nat.lt_of_lt_of_le h.lt hb.size, fun i hi => by obtain ⟨v, hv⟩ := h.end_ i hi; exact ⟨v, ((bcell hb).1 _ _ h.lt).trans hv⟩⟩
theorem Kn.keptB {w W w' : World} {n : Nat} (h : Kn w W) (hb : Below n W w') (hn : w.heap.size < n) : Kn w w' :=
  ⟨h.below.trans (hb.mono (Nat.le_of_lt hn)), Nat.lt_of_lt_of_le h.lt hb.size, fun i hi => by obtain ⟨v, hv⟩ := h.end_ i hi; exact ⟨v, (hb.cell (p := ⟨w.heap.size, i, none⟩) hn).trans hv⟩⟩
theorem kn_start (w : World) (v0 v1 v2 v3 v4 v5 v6 v7 v8 : Int) : Kn w (w.alloc (.cells #[.int .i64 v0, .int .i64 v1, .int .i64 v2, .int .i64 v3, .int .i64 v4, .int .i64 v5, .int .i64 v6, .int .i64 v7, .int .i64 v8] 3)) :=
  ⟨(Below.refl _ _).alloc (Nat.le_refl _) _, by simp, fun i hi => by
    have h : i = 0 ∨ i = 1 ∨ i = 2 ∨ i = 3 ∨ i = 4 ∨ i = 5 ∨ i = 6 ∨ i = 7 ∨ i = 8 := by omega
    rcases h with rfl | rfl | rfl | rfl | rfl | rfl | rfl | rfl | rfl
    · exact ⟨v0, by simp⟩
    · exact ⟨v1, by simp⟩
    · exact ⟨v2, by simp⟩
    · exact ⟨v3, by simp⟩
    · exact ⟨v4, by simp⟩
    · exact ⟨v5, by simp⟩
    · exact ⟨v6, by simp⟩
    · exact ⟨v7, by simp⟩
    · exact ⟨v8, by simp⟩⟩
/-- One number of a count, or of a frame, is turned. -/
theorem At.set1 {W : World} {g : Nat} {n a b c : Int} {f : Bool} (h : At W g n a b c f) (j : Nat) (hj : j < 3) (x : Int) : ∃ a' b' c' : Int, At (W.setCell ⟨g, 1 + j, none⟩ (.int .i64 x)) g n a' b' c' f := by
  obtain ⟨l, k0, k1, k2, k3, k4, kf⟩ := h
  have hj : j = 0 ∨ j = 1 ∨ j = 2 := by omega
  rcases hj with rfl | rfl | rfl
  · exact ⟨x, b, c, by simpa using l, by simp [go_sem, k0], by simp [go_sem, k1], by simp [go_sem, k2], by simp [go_sem, k3], by simp [go_sem, k4], fun o => by simp [go_sem, kf]⟩
  · exact ⟨a, x, c, by simpa using l, by simp [go_sem, k0], by simp [go_sem, k1], by simp [go_sem, k2], by simp [go_sem, k3], by simp [go_sem, k4], fun o => by simp [go_sem, kf]⟩
  · exact ⟨a, b, x, by simpa using l, by simp [go_sem, k0], by simp [go_sem, k1], by simp [go_sem, k2], by simp [go_sem, k3], by simp [go_sem, k4], fun o => by simp [go_sem, kf]⟩
theorem Fr.set1 {W : World} {g : Nat} {d : Int} {A : Option Addr} {l k : Nat} {m : Bool} {e0 e1 e2 : Int} (h : Fr W g d A l k m e0 e1 e2) (j : Nat) (hj : j < 3) (x : Int) : ∃ a' b' c' : Int, Fr (W.setCell ⟨g, 3 + j, none⟩ (.int .i64 x)) g d A l k m a' b' c' := by
  obtain ⟨l, k0, k1, k2, k3, k4, k5⟩ := h
  have hj : j = 0 ∨ j = 1 ∨ j = 2 := by omega
  rcases hj with rfl | rfl | rfl
  · exact ⟨x, e1, e2, by simpa using l, by simp [go_sem, k0], by simp [go_sem, k1], by simp [go_sem, k2], by simp [go_sem, k3], by simp [go_sem, k4], by simp [go_sem, k5]⟩
  · exact ⟨e0, x, e2, by simpa using l, by simp [go_sem, k0], by simp [go_sem, k1], by simp [go_sem, k2], by simp [go_sem, k3], by simp [go_sem, k4], by simp [go_sem, k5]⟩
  · exact ⟨e0, e1, x, by simpa using l, by simp [go_sem, k0], by simp [go_sem, k1], by simp [go_sem, k2], by simp [go_sem, k3], by simp [go_sem, k4], by simp [go_sem, k5]⟩
theorem At.far1 {W : World} {g : Nat} {n a b c : Int} {f : Bool} (h : At W g n a b c f) (p o : Nat) (hp : p ≠ g) (v : Value) : At (W.setCell ⟨p, o, none⟩ v) g n a b c f := by
  obtain ⟨l, k0, k1, k2, k3, k4, kf⟩ := h
  have far : ∀ (W : World) (o q : Nat) (v : Value), (W.setCell ⟨p, o, none⟩ v).cell? ⟨g, q, none⟩ = W.cell? ⟨g, q, none⟩ := fun W o q v => World.cell?_setCell_far W _ _ v hp
  exact ⟨by simpa using l, by simp only [far, k0], by simp only [far, k1], by simp only [far, k2], by simp only [far, k3], by simp only [far, k4], fun o => by simp [go_sem, kf]⟩
theorem Fr.far1 {W : World} {g : Nat} {d : Int} {A : Option Addr} {l k : Nat} {m : Bool} {e0 e1 e2 : Int} (h : Fr W g d A l k m e0 e1 e2) (p o : Nat) (hp : p ≠ g) (v : Value) : Fr (W.setCell ⟨p, o, none⟩ v) g d A l k m e0 e1 e2 := by
  obtain ⟨l, k0, k1, k2, k3, k4, k5⟩ := h
  have far : ∀ (W : World) (o q : Nat) (v : Value), (W.setCell ⟨p, o, none⟩ v).cell? ⟨g, q, none⟩ = W.cell? ⟨g, q, none⟩ := fun W o q v => World.cell?_setCell_far W _ _ v hp
  exact ⟨by simpa using l, by simp only [far, k0], by simp only [far, k1], by simp only [far, k2], by simp only [far, k3], by simp only [far, k4], by simp only [far, k5]⟩
theorem Fr.drew {W : World} {g : Nat} {d : Int} {A : Option Addr} {l k : Nat} {m : Bool} {e0 e1 e2 : Int} (h : Fr W g d A l k m e0 e1 e2) : Fr W.drew g d A l k m e0 e1 e2 := ⟨h.lt, h.c0, h.c1, h.c2, h.c3, h.c4, h.c5⟩
/-- Both stores, in either order. -/
def Both (wx : World) (g5 g6 : Nat) : Prop := ∃ (cn ca cb cc : Int) (cf : Bool) (e0 e1 e2 : Int), At wx g5 cn ca cb cc cf ∧ Fr wx g6 0 none 0 0 true e0 e1 e2
theorem Both.drew {W : World} {g5 g6 : Nat} (h : Both W g5 g6) : Both W.drew g5 g6 := by
  obtain ⟨a, b, c, d, e, f, g, i, h1, h2⟩ := h
  exact ⟨a, b, c, d, e, f, g, i, h1.drew, h2.drew⟩
theorem fz_new (W : World) (cs : Array Value) (ty n : Nat) (h : W.heap.size = n) : ∀ o, (W.alloc (.cells cs ty)).frozen? ⟨n, o, none⟩ = false := by
  subst h; intro o; simp
theorem both_56 {W : World} {g5 g6 : Nat} {n a b c : Int} {f : Bool} {e0 e1 e2 : Int} (hA : At W g5 n a b c f) (hF : Fr W g6 0 none 0 0 true e0 e1 e2) (hne : g5 ≠ g6) (j : Nat) (hj : j < 3) (x y : Int) :
    Both ((W.setCell ⟨g5, 1 + j, none⟩ (.int .i64 x)).setCell ⟨g6, 3 + j, none⟩ (.int .i64 y)) g5 g6 := by
  obtain ⟨a', b', c', h1⟩ := hA.set1 j hj x
  obtain ⟨a2, b2, c2, h2⟩ := (hF.far1 g5 (1 + j) hne (.int .i64 x)).set1 j hj y
  exact ⟨n, a', b', c', f, a2, b2, c2, h1.far1 g6 _ (Ne.symm hne) _, h2⟩
theorem both_65 {W : World} {g5 g6 : Nat} {n a b c : Int} {f : Bool} {e0 e1 e2 : Int} (hA : At W g5 n a b c f) (hF : Fr W g6 0 none 0 0 true e0 e1 e2) (hne : g5 ≠ g6) (j : Nat) (hj : j < 3) (x y : Int) :
    Both ((W.setCell ⟨g6, 3 + j, none⟩ (.int .i64 y)).setCell ⟨g5, 1 + j, none⟩ (.int .i64 x)) g5 g6 := by
  obtain ⟨a', b', c', h1⟩ := (hA.far1 g6 (3 + j) (Ne.symm hne) (.int .i64 y)).set1 j hj x
  obtain ⟨a2, b2, c2, h2⟩ := hF.set1 j hj y
  exact ⟨n, a', b', c', f, a2, b2, c2, h1, h2.far1 g5 _ hne _⟩

set_option maxRecDepth 100000 in
set_option maxHeartbeats 40000000 in
theorem known_walk (w : World) : Calls Try.prog 7 #[] w fun e w' => e = .returned (.bool true) ∧ Below w.heap.size w w' := by
  go_enter Try.func7, Try.ntmps7
  go_wp2_with fail
  go_loopw [2] (fun s wr => ∃ i : Nat, i ≤ 9 ∧ s = .int .i64 i ∧ Kn w wr) (fun s _ => 10 - (intOf s).toNat)
  case atStart => exact ⟨0, by omega, rfl, kn_start w _ _ _ _ _ _ _ _ _⟩
  case round =>
    obtain ⟨i, hi, rfl, hK⟩ := hrel
    have HK := Lib.hid hK
    clear hK
    by_cases hlt : i < 9
    · have d1 : decide ((i : Int) < 9) = true := by rw [decide_eq_true_eq]; omega
      go_wp2_with fail
      obtain ⟨wo, rfl⟩ : ∃ wo : World, wo = wr := ⟨_, rfl⟩
      go_loopw [3] (fun s wr => ∃ k : Nat, k ≤ 9 ∧ s = .int .i64 k ∧ Kn w wr) (fun s _ => 10 - (intOf s).toNat)
      case atStart => exact ⟨0, by omega, rfl, HK.out⟩
      case round =>
        obtain ⟨k, hk, rfl, hK⟩ := hrel
        have HK := Lib.hid hK
        clear hK
        by_cases hlk : k < 9
        · have d2 : decide ((k : Int) < 9) = true := by rw [decide_eq_true_eq]; omega
          go_wp2_with fail
          obtain ⟨wo', rfl⟩ : ∃ wo : World, wo = wr := ⟨_, rfl⟩
          go_loopw [4] (fun s wr => ∃ j : Nat, j ≤ 3 ∧ s = .int .i64 j ∧ Kn w wr) (fun s _ => 4 - (intOf s).toNat)
          case atStart => exact ⟨0, by omega, rfl, HK.out⟩
          case round =>
            obtain ⟨j, hj, rfl, hK⟩ := hrel
            obtain ⟨wq, rfl⟩ : ∃ wo : World, wo = wr := ⟨_, rfl⟩
            by_cases hlj : j < 3
            · have h6 : j = 0 ∨ j = 1 ∨ j = 2 := by omega
              have HKK := Lib.hid hK
              clear hlj hj HK hK
              have i0 : (0 : Int) ≤ (i : Int) := by omega
              have i1 : (i : Int) < 9 := by omega
              have k0 : (0 : Int) ≤ (k : Int) := by omega
              have k1 : (k : Int) < 9 := by omega
              rcases h6 with rfl | rfl | rfl
              · go_wp2_with fail
                refine (frame_any _ _ _ _).mono ?_
                rintro e w1 ⟨rfl, rfl⟩
                go_wp2_with fail
                obtain ⟨W5, hW5⟩ : ∃ W, (((wq.alloc (.cells #[.int .i64 0, .slice none 0 0, .bool true, .int .i64 1, .int .i64 0, .int .i64 2] 27)).alloc (.cells #[.int .i64 3, .int .i64 1, .int .i64 0, .int .i64 1, .bool false] 24)).alloc (.cells #[.int .i64 0, .slice none 0 0, .bool true, .int .i64 1, .int .i64 0, .int .i64 2] 27)) = W := ⟨_, rfl⟩
                rw [hW5]
                have hA5 : At W5 (wq.heap.size + 1) 3 1 0 1 false := hW5 ▸ (At.new1 wq _ 3 1 0 1 false 24).alloc _
                have hF5 : Fr W5 (wq.heap.size + 1 + 1) 0 none 0 0 true 1 0 2 := by rw [← hW5]; simpa using Fr.new1 (wq.alloc (.cells #[.int .i64 0, .slice none 0 0, .bool true, .int .i64 1, .int .i64 0, .int .i64 2] 27)) (.cells #[.int .i64 3, .int .i64 1, .int .i64 0, .int .i64 1, .bool false] 24) 0 none 0 0 true 1 0 2 27
                have hK5 : Kn w W5 := hW5 ▸ HKK.out.kept ((((Below.refl wq.heap.size wq).alloc (Nat.le_refl _) _).alloc (by simp) _).alloc (by simp <;> omega) _)
                have hwq : w.heap.size < wq.heap.size := HKK.out.lt
                have HFZ : Hid (∀ o, W5.frozen? ⟨wq.heap.size + 1 + 1, o, none⟩ = false) := Lib.hid (show ∀ o, W5.frozen? ⟨wq.heap.size + 1 + 1, o, none⟩ = false from hW5 ▸ fz_new _ _ _ _ (by simp))
                clear hW5 HKK
                obtain ⟨vi, hvi⟩ := hK5.end_ i hlt
                obtain ⟨vk, hvk⟩ := hK5.end_ k hlk
                go_cut [] from 20 to 66 (fun wx => Both wx (wq.heap.size + 1) (wq.heap.size + 1 + 1) ∧ Kn w wx)
                case first =>
                  have HA5 := Lib.hid hA5
                  have HF5 := Lib.hid hF5
                  have HK5 := Lib.hid hK5
                  obtain ⟨lA, a0, a1, a2, a3, a4, af⟩ := hA5
                  obtain ⟨lF, f0, f1, f2, f3, f4, f5⟩ := hF5
                  have HVI := Lib.hid hvi
                  have HVK := Lib.hid hvk
                  have ff := HFZ.out
                  have HS : ∀ w', Below (wq.heap.size + 1) W5 w' → (w'.cell? ⟨w.heap.size, i, none⟩ = some (.int .i64 vi)) ∧ (w'.cell? ⟨w.heap.size, k, none⟩ = some (.int .i64 vk)) ∧ Below (wq.heap.size + 1) W5 w' := fun w' hb => ⟨(hb.cell (p := ⟨w.heap.size, i, none⟩) (by show w.heap.size < _; omega)).trans HVI.out, (hb.cell (p := ⟨w.heap.size, k, none⟩) (by show w.heap.size < _; omega)).trans HVK.out, hb⟩
                  have hbR := Below.refl (wq.heap.size + 1) W5
                  clear hK5 hvi hvk
                  go_region_held3 (fun w' => (w'.cell? ⟨w.heap.size, i, none⟩ = some (.int .i64 vi)) ∧ (w'.cell? ⟨w.heap.size, k, none⟩ = some (.int .i64 vk)) ∧ Below (wq.heap.size + 1) W5 w')
                    ((refine HS _ ?_; (repeat (first | (with_reducible refine Below.drew ?_) | (with_reducible refine Below.setCell ?_ (by first | exact Nat.le_refl _ | exact Nat.le_succ _ | (show _ ≤ _; omega)) _))); with_reducible assumption))
                    (fail)
                  all_goals
                    go_wp2_with fail
                    go_meet
                    rename_i hH
                    refine ⟨?_, HK5.out.keptB hH.2.2 (by omega)⟩
                    first
                      | exact Both.drew (both_56 HA5.out HF5.out (by omega) 0 (by omega) vi vk)
                      | exact Both.drew (both_65 HA5.out HF5.out (by omega) 0 (by omega) vi vk)
                case rest =>
                  obtain ⟨⟨cn, ca, cb, cc, cf, e0, e1, e2, hA6, hF6⟩, hK6⟩ := hcut
                  obtain ⟨W6, rfl⟩ : ∃ w6 : World, w6 = wc := ⟨_, rfl⟩
                  obtain ⟨ui, hui⟩ := hK6.end_ i hlt
                  obtain ⟨uk, huk⟩ := hK6.end_ k hlk
                  clear hA5 hF5 hK5 hvi hvk
                  have HUI := Lib.hid hui
                  have HUK := Lib.hid huk
                  clear hui huk
                  have hl6 := hK6.lt
                  have HK6 := Lib.hid hK6
                  have HS : ∀ w', Below W6.heap.size W6 w' → (w'.cell? ⟨wq.heap.size + 1, 0, none⟩ = some (.int .i64 cn) ∧ w'.cell? ⟨wq.heap.size + 1, 1, none⟩ = some (.int .i64 ca) ∧ w'.cell? ⟨wq.heap.size + 1, 2, none⟩ = some (.int .i64 cb) ∧ w'.cell? ⟨wq.heap.size + 1, 3, none⟩ = some (.int .i64 cc) ∧ w'.cell? ⟨wq.heap.size + 1, 4, none⟩ = some (.bool cf)) ∧ (w'.cell? ⟨wq.heap.size + 1 + 1, 0, none⟩ = some (.int .i64 0) ∧ w'.cell? ⟨wq.heap.size + 1 + 1, 1, none⟩ = some (.slice none 0 0) ∧ w'.cell? ⟨wq.heap.size + 1 + 1, 2, none⟩ = some (.bool true) ∧ w'.cell? ⟨wq.heap.size + 1 + 1, 3, none⟩ = some (.int .i64 e0) ∧ w'.cell? ⟨wq.heap.size + 1 + 1, 4, none⟩ = some (.int .i64 e1) ∧ w'.cell? ⟨wq.heap.size + 1 + 1, 5, none⟩ = some (.int .i64 e2)) ∧ ((w'.cell? ⟨w.heap.size, i, none⟩ = some (.int .i64 ui)) ∧ (w'.cell? ⟨w.heap.size, k, none⟩ = some (.int .i64 uk))) ∧ Below W6.heap.size W6 w' := fun w' hb => by
                    obtain ⟨_, kC0, kC1, kC2, kC3, kC4, kfC⟩ := hA6.kept hb
                    obtain ⟨_, kF0, kF1, kF2, kF3, kF4, kF5⟩ := hF6.kept hb
                    exact ⟨⟨kC0, kC1, kC2, kC3, kC4⟩, ⟨kF0, kF1, kF2, kF3, kF4, kF5⟩, ⟨((bcell hb).1 _ _ hl6).trans HUI.out, ((bcell hb).1 _ _ hl6).trans HUK.out⟩, hb⟩
                  have hbR := Below.refl W6.heap.size W6
                  clear hK6
                  go_wp2_with fail
                  go_region_held3 (fun w' => (w'.cell? ⟨wq.heap.size + 1, 0, none⟩ = some (.int .i64 cn) ∧ w'.cell? ⟨wq.heap.size + 1, 1, none⟩ = some (.int .i64 ca) ∧ w'.cell? ⟨wq.heap.size + 1, 2, none⟩ = some (.int .i64 cb) ∧ w'.cell? ⟨wq.heap.size + 1, 3, none⟩ = some (.int .i64 cc) ∧ w'.cell? ⟨wq.heap.size + 1, 4, none⟩ = some (.bool cf)) ∧ (w'.cell? ⟨wq.heap.size + 1 + 1, 0, none⟩ = some (.int .i64 0) ∧ w'.cell? ⟨wq.heap.size + 1 + 1, 1, none⟩ = some (.slice none 0 0) ∧ w'.cell? ⟨wq.heap.size + 1 + 1, 2, none⟩ = some (.bool true) ∧ w'.cell? ⟨wq.heap.size + 1 + 1, 3, none⟩ = some (.int .i64 e0) ∧ w'.cell? ⟨wq.heap.size + 1 + 1, 4, none⟩ = some (.int .i64 e1) ∧ w'.cell? ⟨wq.heap.size + 1 + 1, 5, none⟩ = some (.int .i64 e2)) ∧ ((w'.cell? ⟨w.heap.size, i, none⟩ = some (.int .i64 ui)) ∧ (w'.cell? ⟨w.heap.size, k, none⟩ = some (.int .i64 uk))) ∧ Below W6.heap.size W6 w')
                    ((refine HS _ ?_; (first | (with_reducible assumption) | (with_reducible exact Below.drew (by assumption)))))
                    ((go_at_call 3; refine (tells_any _ _ _ _ _ _ _ _ _ _ _ _ _ _ _).mono ?_; rintro e w7 ⟨rfl, hbb7⟩; have hb7 : Below W6.heap.size W6 w7 := Below.trans (b := _) (by (first | (with_reducible assumption) | (with_reducible exact Below.drew (by assumption)) | (with_reducible exact bAlloc (by assumption) _) | (with_reducible exact Below.drew (bAlloc (by assumption) _)))) (hbb7.mono (by first | exact Nat.le_refl _ | (have hzz := Below.size (by assumption : Below W6.heap.size W6 _); exact hzz))); clear hbb7))
                  all_goals
                    go_wp2_with fail
                    rename_i hH
                    exact ⟨⟨1, by omega, rfl, HK6.out.kept hH.2.2.2⟩, by simp [intOf]⟩
              · go_wp2_with fail
                refine (frame_any _ _ _ _).mono ?_
                rintro e w1 ⟨rfl, rfl⟩
                go_wp2_with fail
                obtain ⟨W5, hW5⟩ : ∃ W, (((wq.alloc (.cells #[.int .i64 0, .slice none 0 0, .bool true, .int .i64 1, .int .i64 0, .int .i64 2] 27)).alloc (.cells #[.int .i64 3, .int .i64 1, .int .i64 0, .int .i64 1, .bool false] 24)).alloc (.cells #[.int .i64 0, .slice none 0 0, .bool true, .int .i64 1, .int .i64 0, .int .i64 2] 27)) = W := ⟨_, rfl⟩
                rw [hW5]
                have hA5 : At W5 (wq.heap.size + 1) 3 1 0 1 false := hW5 ▸ (At.new1 wq _ 3 1 0 1 false 24).alloc _
                have hF5 : Fr W5 (wq.heap.size + 1 + 1) 0 none 0 0 true 1 0 2 := by rw [← hW5]; simpa using Fr.new1 (wq.alloc (.cells #[.int .i64 0, .slice none 0 0, .bool true, .int .i64 1, .int .i64 0, .int .i64 2] 27)) (.cells #[.int .i64 3, .int .i64 1, .int .i64 0, .int .i64 1, .bool false] 24) 0 none 0 0 true 1 0 2 27
                have hK5 : Kn w W5 := hW5 ▸ HKK.out.kept ((((Below.refl wq.heap.size wq).alloc (Nat.le_refl _) _).alloc (by simp) _).alloc (by simp <;> omega) _)
                have hwq : w.heap.size < wq.heap.size := HKK.out.lt
                have HFZ : Hid (∀ o, W5.frozen? ⟨wq.heap.size + 1 + 1, o, none⟩ = false) := Lib.hid (show ∀ o, W5.frozen? ⟨wq.heap.size + 1 + 1, o, none⟩ = false from hW5 ▸ fz_new _ _ _ _ (by simp))
                clear hW5 HKK
                obtain ⟨vi, hvi⟩ := hK5.end_ i hlt
                obtain ⟨vk, hvk⟩ := hK5.end_ k hlk
                go_cut [] from 20 to 66 (fun wx => Both wx (wq.heap.size + 1) (wq.heap.size + 1 + 1) ∧ Kn w wx)
                case first =>
                  have HA5 := Lib.hid hA5
                  have HF5 := Lib.hid hF5
                  have HK5 := Lib.hid hK5
                  obtain ⟨lA, a0, a1, a2, a3, a4, af⟩ := hA5
                  obtain ⟨lF, f0, f1, f2, f3, f4, f5⟩ := hF5
                  have HVI := Lib.hid hvi
                  have HVK := Lib.hid hvk
                  have ff := HFZ.out
                  have HS : ∀ w', Below (wq.heap.size + 1) W5 w' → (w'.cell? ⟨w.heap.size, i, none⟩ = some (.int .i64 vi)) ∧ (w'.cell? ⟨w.heap.size, k, none⟩ = some (.int .i64 vk)) ∧ Below (wq.heap.size + 1) W5 w' := fun w' hb => ⟨(hb.cell (p := ⟨w.heap.size, i, none⟩) (by show w.heap.size < _; omega)).trans HVI.out, (hb.cell (p := ⟨w.heap.size, k, none⟩) (by show w.heap.size < _; omega)).trans HVK.out, hb⟩
                  have hbR := Below.refl (wq.heap.size + 1) W5
                  clear hK5 hvi hvk
                  go_region_held3 (fun w' => (w'.cell? ⟨w.heap.size, i, none⟩ = some (.int .i64 vi)) ∧ (w'.cell? ⟨w.heap.size, k, none⟩ = some (.int .i64 vk)) ∧ Below (wq.heap.size + 1) W5 w')
                    ((refine HS _ ?_; (repeat (first | (with_reducible refine Below.drew ?_) | (with_reducible refine Below.setCell ?_ (by first | exact Nat.le_refl _ | exact Nat.le_succ _ | (show _ ≤ _; omega)) _))); with_reducible assumption))
                    (fail)
                  all_goals
                    go_wp2_with fail
                    go_meet
                    rename_i hH
                    refine ⟨?_, HK5.out.keptB hH.2.2 (by omega)⟩
                    first
                      | exact Both.drew (both_56 HA5.out HF5.out (by omega) 1 (by omega) vi vk)
                      | exact Both.drew (both_65 HA5.out HF5.out (by omega) 1 (by omega) vi vk)
                case rest =>
                  obtain ⟨⟨cn, ca, cb, cc, cf, e0, e1, e2, hA6, hF6⟩, hK6⟩ := hcut
                  obtain ⟨W6, rfl⟩ : ∃ w6 : World, w6 = wc := ⟨_, rfl⟩
                  obtain ⟨ui, hui⟩ := hK6.end_ i hlt
                  obtain ⟨uk, huk⟩ := hK6.end_ k hlk
                  clear hA5 hF5 hK5 hvi hvk
                  have HUI := Lib.hid hui
                  have HUK := Lib.hid huk
                  clear hui huk
                  have hl6 := hK6.lt
                  have HK6 := Lib.hid hK6
                  have HS : ∀ w', Below W6.heap.size W6 w' → (w'.cell? ⟨wq.heap.size + 1, 0, none⟩ = some (.int .i64 cn) ∧ w'.cell? ⟨wq.heap.size + 1, 1, none⟩ = some (.int .i64 ca) ∧ w'.cell? ⟨wq.heap.size + 1, 2, none⟩ = some (.int .i64 cb) ∧ w'.cell? ⟨wq.heap.size + 1, 3, none⟩ = some (.int .i64 cc) ∧ w'.cell? ⟨wq.heap.size + 1, 4, none⟩ = some (.bool cf)) ∧ (w'.cell? ⟨wq.heap.size + 1 + 1, 0, none⟩ = some (.int .i64 0) ∧ w'.cell? ⟨wq.heap.size + 1 + 1, 1, none⟩ = some (.slice none 0 0) ∧ w'.cell? ⟨wq.heap.size + 1 + 1, 2, none⟩ = some (.bool true) ∧ w'.cell? ⟨wq.heap.size + 1 + 1, 3, none⟩ = some (.int .i64 e0) ∧ w'.cell? ⟨wq.heap.size + 1 + 1, 4, none⟩ = some (.int .i64 e1) ∧ w'.cell? ⟨wq.heap.size + 1 + 1, 5, none⟩ = some (.int .i64 e2)) ∧ ((w'.cell? ⟨w.heap.size, i, none⟩ = some (.int .i64 ui)) ∧ (w'.cell? ⟨w.heap.size, k, none⟩ = some (.int .i64 uk))) ∧ Below W6.heap.size W6 w' := fun w' hb => by
                    obtain ⟨_, kC0, kC1, kC2, kC3, kC4, kfC⟩ := hA6.kept hb
                    obtain ⟨_, kF0, kF1, kF2, kF3, kF4, kF5⟩ := hF6.kept hb
                    exact ⟨⟨kC0, kC1, kC2, kC3, kC4⟩, ⟨kF0, kF1, kF2, kF3, kF4, kF5⟩, ⟨((bcell hb).1 _ _ hl6).trans HUI.out, ((bcell hb).1 _ _ hl6).trans HUK.out⟩, hb⟩
                  have hbR := Below.refl W6.heap.size W6
                  clear hK6
                  go_wp2_with fail
                  go_region_held3 (fun w' => (w'.cell? ⟨wq.heap.size + 1, 0, none⟩ = some (.int .i64 cn) ∧ w'.cell? ⟨wq.heap.size + 1, 1, none⟩ = some (.int .i64 ca) ∧ w'.cell? ⟨wq.heap.size + 1, 2, none⟩ = some (.int .i64 cb) ∧ w'.cell? ⟨wq.heap.size + 1, 3, none⟩ = some (.int .i64 cc) ∧ w'.cell? ⟨wq.heap.size + 1, 4, none⟩ = some (.bool cf)) ∧ (w'.cell? ⟨wq.heap.size + 1 + 1, 0, none⟩ = some (.int .i64 0) ∧ w'.cell? ⟨wq.heap.size + 1 + 1, 1, none⟩ = some (.slice none 0 0) ∧ w'.cell? ⟨wq.heap.size + 1 + 1, 2, none⟩ = some (.bool true) ∧ w'.cell? ⟨wq.heap.size + 1 + 1, 3, none⟩ = some (.int .i64 e0) ∧ w'.cell? ⟨wq.heap.size + 1 + 1, 4, none⟩ = some (.int .i64 e1) ∧ w'.cell? ⟨wq.heap.size + 1 + 1, 5, none⟩ = some (.int .i64 e2)) ∧ ((w'.cell? ⟨w.heap.size, i, none⟩ = some (.int .i64 ui)) ∧ (w'.cell? ⟨w.heap.size, k, none⟩ = some (.int .i64 uk))) ∧ Below W6.heap.size W6 w')
                    ((refine HS _ ?_; (first | (with_reducible assumption) | (with_reducible exact Below.drew (by assumption)))))
                    ((go_at_call 3; refine (tells_any _ _ _ _ _ _ _ _ _ _ _ _ _ _ _).mono ?_; rintro e w7 ⟨rfl, hbb7⟩; have hb7 : Below W6.heap.size W6 w7 := Below.trans (b := _) (by (first | (with_reducible assumption) | (with_reducible exact Below.drew (by assumption)) | (with_reducible exact bAlloc (by assumption) _) | (with_reducible exact Below.drew (bAlloc (by assumption) _)))) (hbb7.mono (by first | exact Nat.le_refl _ | (have hzz := Below.size (by assumption : Below W6.heap.size W6 _); exact hzz))); clear hbb7))
                  all_goals
                    go_wp2_with fail
                    rename_i hH
                    exact ⟨⟨2, by omega, rfl, HK6.out.kept hH.2.2.2⟩, by simp [intOf]⟩
              · go_wp2_with fail
                refine (frame_any _ _ _ _).mono ?_
                rintro e w1 ⟨rfl, rfl⟩
                go_wp2_with fail
                obtain ⟨W5, hW5⟩ : ∃ W, (((wq.alloc (.cells #[.int .i64 0, .slice none 0 0, .bool true, .int .i64 1, .int .i64 0, .int .i64 2] 27)).alloc (.cells #[.int .i64 3, .int .i64 1, .int .i64 0, .int .i64 1, .bool false] 24)).alloc (.cells #[.int .i64 0, .slice none 0 0, .bool true, .int .i64 1, .int .i64 0, .int .i64 2] 27)) = W := ⟨_, rfl⟩
                rw [hW5]
                have hA5 : At W5 (wq.heap.size + 1) 3 1 0 1 false := hW5 ▸ (At.new1 wq _ 3 1 0 1 false 24).alloc _
                have hF5 : Fr W5 (wq.heap.size + 1 + 1) 0 none 0 0 true 1 0 2 := by rw [← hW5]; simpa using Fr.new1 (wq.alloc (.cells #[.int .i64 0, .slice none 0 0, .bool true, .int .i64 1, .int .i64 0, .int .i64 2] 27)) (.cells #[.int .i64 3, .int .i64 1, .int .i64 0, .int .i64 1, .bool false] 24) 0 none 0 0 true 1 0 2 27
                have hK5 : Kn w W5 := hW5 ▸ HKK.out.kept ((((Below.refl wq.heap.size wq).alloc (Nat.le_refl _) _).alloc (by simp) _).alloc (by simp <;> omega) _)
                have hwq : w.heap.size < wq.heap.size := HKK.out.lt
                have HFZ : Hid (∀ o, W5.frozen? ⟨wq.heap.size + 1 + 1, o, none⟩ = false) := Lib.hid (show ∀ o, W5.frozen? ⟨wq.heap.size + 1 + 1, o, none⟩ = false from hW5 ▸ fz_new _ _ _ _ (by simp))
                clear hW5 HKK
                obtain ⟨vi, hvi⟩ := hK5.end_ i hlt
                obtain ⟨vk, hvk⟩ := hK5.end_ k hlk
                go_cut [] from 20 to 66 (fun wx => Both wx (wq.heap.size + 1) (wq.heap.size + 1 + 1) ∧ Kn w wx)
                case first =>
                  have HA5 := Lib.hid hA5
                  have HF5 := Lib.hid hF5
                  have HK5 := Lib.hid hK5
                  obtain ⟨lA, a0, a1, a2, a3, a4, af⟩ := hA5
                  obtain ⟨lF, f0, f1, f2, f3, f4, f5⟩ := hF5
                  have HVI := Lib.hid hvi
                  have HVK := Lib.hid hvk
                  have ff := HFZ.out
                  have HS : ∀ w', Below (wq.heap.size + 1) W5 w' → (w'.cell? ⟨w.heap.size, i, none⟩ = some (.int .i64 vi)) ∧ (w'.cell? ⟨w.heap.size, k, none⟩ = some (.int .i64 vk)) ∧ Below (wq.heap.size + 1) W5 w' := fun w' hb => ⟨(hb.cell (p := ⟨w.heap.size, i, none⟩) (by show w.heap.size < _; omega)).trans HVI.out, (hb.cell (p := ⟨w.heap.size, k, none⟩) (by show w.heap.size < _; omega)).trans HVK.out, hb⟩
                  have hbR := Below.refl (wq.heap.size + 1) W5
                  clear hK5 hvi hvk
                  go_region_held3 (fun w' => (w'.cell? ⟨w.heap.size, i, none⟩ = some (.int .i64 vi)) ∧ (w'.cell? ⟨w.heap.size, k, none⟩ = some (.int .i64 vk)) ∧ Below (wq.heap.size + 1) W5 w')
                    ((refine HS _ ?_; (repeat (first | (with_reducible refine Below.drew ?_) | (with_reducible refine Below.setCell ?_ (by first | exact Nat.le_refl _ | exact Nat.le_succ _ | (show _ ≤ _; omega)) _))); with_reducible assumption))
                    (fail)
                  all_goals
                    go_wp2_with fail
                    go_meet
                    rename_i hH
                    refine ⟨?_, HK5.out.keptB hH.2.2 (by omega)⟩
                    first
                      | exact Both.drew (both_56 HA5.out HF5.out (by omega) 2 (by omega) vi vk)
                      | exact Both.drew (both_65 HA5.out HF5.out (by omega) 2 (by omega) vi vk)
                case rest =>
                  obtain ⟨⟨cn, ca, cb, cc, cf, e0, e1, e2, hA6, hF6⟩, hK6⟩ := hcut
                  obtain ⟨W6, rfl⟩ : ∃ w6 : World, w6 = wc := ⟨_, rfl⟩
                  obtain ⟨ui, hui⟩ := hK6.end_ i hlt
                  obtain ⟨uk, huk⟩ := hK6.end_ k hlk
                  clear hA5 hF5 hK5 hvi hvk
                  have HUI := Lib.hid hui
                  have HUK := Lib.hid huk
                  clear hui huk
                  have hl6 := hK6.lt
                  have HK6 := Lib.hid hK6
                  have HS : ∀ w', Below W6.heap.size W6 w' → (w'.cell? ⟨wq.heap.size + 1, 0, none⟩ = some (.int .i64 cn) ∧ w'.cell? ⟨wq.heap.size + 1, 1, none⟩ = some (.int .i64 ca) ∧ w'.cell? ⟨wq.heap.size + 1, 2, none⟩ = some (.int .i64 cb) ∧ w'.cell? ⟨wq.heap.size + 1, 3, none⟩ = some (.int .i64 cc) ∧ w'.cell? ⟨wq.heap.size + 1, 4, none⟩ = some (.bool cf)) ∧ (w'.cell? ⟨wq.heap.size + 1 + 1, 0, none⟩ = some (.int .i64 0) ∧ w'.cell? ⟨wq.heap.size + 1 + 1, 1, none⟩ = some (.slice none 0 0) ∧ w'.cell? ⟨wq.heap.size + 1 + 1, 2, none⟩ = some (.bool true) ∧ w'.cell? ⟨wq.heap.size + 1 + 1, 3, none⟩ = some (.int .i64 e0) ∧ w'.cell? ⟨wq.heap.size + 1 + 1, 4, none⟩ = some (.int .i64 e1) ∧ w'.cell? ⟨wq.heap.size + 1 + 1, 5, none⟩ = some (.int .i64 e2)) ∧ ((w'.cell? ⟨w.heap.size, i, none⟩ = some (.int .i64 ui)) ∧ (w'.cell? ⟨w.heap.size, k, none⟩ = some (.int .i64 uk))) ∧ Below W6.heap.size W6 w' := fun w' hb => by
                    obtain ⟨_, kC0, kC1, kC2, kC3, kC4, kfC⟩ := hA6.kept hb
                    obtain ⟨_, kF0, kF1, kF2, kF3, kF4, kF5⟩ := hF6.kept hb
                    exact ⟨⟨kC0, kC1, kC2, kC3, kC4⟩, ⟨kF0, kF1, kF2, kF3, kF4, kF5⟩, ⟨((bcell hb).1 _ _ hl6).trans HUI.out, ((bcell hb).1 _ _ hl6).trans HUK.out⟩, hb⟩
                  have hbR := Below.refl W6.heap.size W6
                  clear hK6
                  go_wp2_with fail
                  go_region_held3 (fun w' => (w'.cell? ⟨wq.heap.size + 1, 0, none⟩ = some (.int .i64 cn) ∧ w'.cell? ⟨wq.heap.size + 1, 1, none⟩ = some (.int .i64 ca) ∧ w'.cell? ⟨wq.heap.size + 1, 2, none⟩ = some (.int .i64 cb) ∧ w'.cell? ⟨wq.heap.size + 1, 3, none⟩ = some (.int .i64 cc) ∧ w'.cell? ⟨wq.heap.size + 1, 4, none⟩ = some (.bool cf)) ∧ (w'.cell? ⟨wq.heap.size + 1 + 1, 0, none⟩ = some (.int .i64 0) ∧ w'.cell? ⟨wq.heap.size + 1 + 1, 1, none⟩ = some (.slice none 0 0) ∧ w'.cell? ⟨wq.heap.size + 1 + 1, 2, none⟩ = some (.bool true) ∧ w'.cell? ⟨wq.heap.size + 1 + 1, 3, none⟩ = some (.int .i64 e0) ∧ w'.cell? ⟨wq.heap.size + 1 + 1, 4, none⟩ = some (.int .i64 e1) ∧ w'.cell? ⟨wq.heap.size + 1 + 1, 5, none⟩ = some (.int .i64 e2)) ∧ ((w'.cell? ⟨w.heap.size, i, none⟩ = some (.int .i64 ui)) ∧ (w'.cell? ⟨w.heap.size, k, none⟩ = some (.int .i64 uk))) ∧ Below W6.heap.size W6 w')
                    ((refine HS _ ?_; (first | (with_reducible assumption) | (with_reducible exact Below.drew (by assumption)))))
                    ((go_at_call 3; refine (tells_any _ _ _ _ _ _ _ _ _ _ _ _ _ _ _).mono ?_; rintro e w7 ⟨rfl, hbb7⟩; have hb7 : Below W6.heap.size W6 w7 := Below.trans (b := _) (by (first | (with_reducible assumption) | (with_reducible exact Below.drew (by assumption)) | (with_reducible exact bAlloc (by assumption) _) | (with_reducible exact Below.drew (bAlloc (by assumption) _)))) (hbb7.mono (by first | exact Nat.le_refl _ | (have hzz := Below.size (by assumption : Below W6.heap.size W6 _); exact hzz))); clear hbb7))
                  all_goals
                    go_wp2_with fail
                    rename_i hH
                    exact ⟨⟨3, by omega, rfl, HK6.out.kept hH.2.2.2⟩, by simp [intOf]⟩
            · have HKK := Lib.hid hK
              clear hK
              obtain rfl : j = 3 := by omega
              go_wp2_with fail
              go_roundw
              case rel => exact ⟨k + 1, by omega, by go_num, HKK.out⟩
              case measure => simp [intOf]; omega
        · obtain rfl : k = 9 := by omega
          go_wp2_with fail
          go_roundw
          case rel => exact ⟨i + 1, by omega, by go_num, HK.out⟩
          case measure => simp [intOf]; omega
    · obtain rfl : i = 9 := by omega
      go_wp2_with fail
      refine (works_ok _).mono ?_
      rintro e w8 ⟨rfl, hb8⟩
      have H8 := Lib.hid ((HK.out.kept hb8).below)
      clear hb8
      go_wp2_with fail
      refine (tells_any _ _ _ _ _ _ _ _ _ _ _ _ _ _ _).mono ?_
      rintro e w9 ⟨rfl, hb9⟩
      have H9 := Lib.hid (H8.out.trans (hb9.mono H8.out.size))
      clear hb9
      go_wp2_with fail
      go_ret
      exact ⟨rfl, H9.out⟩
end Go.Proofs.Ytiocifmebnaabaa
