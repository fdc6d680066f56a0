/-
  A count in its box; Acked called with literals.
-/
import Derived.Test.YtiocifmebnaabaaH
import Derived.Test.YtiocifmebnaabaaK
import Derived.Deep.DeepCutAuto
namespace Go.Proofs.Ytiocifmebnaabaa
open Go.RowKit (wrap32 wrap64)
open Go.RowKit
set_option linter.unusedVariables false
set_option linter.unusedSimpArgs false

/-- A count lies in its box. -/
structure At (W : World) (g : Nat) (n a b c : Int) (f : Bool) : Prop where
  lt : g < W.heap.size
  c0 : W.cell? ⟨g, 0, none⟩ = some (.int .i64 n)
  c1 : W.cell? ⟨g, 1, none⟩ = some (.int .i64 a)
  c2 : W.cell? ⟨g, 2, none⟩ = some (.int .i64 b)
  c3 : W.cell? ⟨g, 3, none⟩ = some (.int .i64 c)
  c4 : W.cell? ⟨g, 4, none⟩ = some (.bool f)
  fz : ∀ o, W.frozen? ⟨g, o, none⟩ = false
theorem At.kept {W w' : World} {g : Nat} {n a b c : Int} {f : Bool} (h : At W g n a b c f) (hb : Below W.heap.size W w') : At w' g n a b c f := by
  obtain ⟨x, y⟩ := bcell hb
  exact ⟨Nat.lt_of_lt_of_le h.lt hb.size, (x _ _ h.lt).trans h.c0, (x _ _ h.lt).trans h.c1, (x _ _ h.lt).trans h.c2, (x _ _ h.lt).trans h.c3, (x _ _ h.lt).trans h.c4, fun o => (y _ o h.lt).trans (h.fz o)⟩
theorem At.new (W : World) (n a b c : Int) (f : Bool) (t : Nat) : At (W.alloc (.cells #[.int .i64 n, .int .i64 a, .int .i64 b, .int .i64 c, .bool f] t)) W.heap.size n a b c f :=
  ⟨by simp, by simp, by simp, by simp, by simp, by simp, fun o => by simp⟩
theorem At.alloc {W : World} {g : Nat} {n a b c : Int} {f : Bool} (h : At W g n a b c f) (o : Obj) : At (W.alloc o) g n a b c f :=
  h.kept ((Below.refl _ _).alloc (Nat.le_refl _) _)
theorem At.drew {W : World} {g : Nat} {n a b c : Int} {f : Bool} (h : At W g n a b c f) : At W.drew g n a b c f := ⟨h.lt, h.c0, h.c1, h.c2, h.c3, h.c4, h.fz⟩

theorem At.set {W : World} {g : Nat} {n a b c : Int} {f : Bool} (h : At W g n a b c f) (n' a' b' c' : Int) (f' : Bool) :
    At (((((W.setCell ⟨g, 0, none⟩ (.int .i64 n')).setCell ⟨g, 1, none⟩ (.int .i64 a')).setCell ⟨g, 2, none⟩ (.int .i64 b')).setCell ⟨g, 3, none⟩ (.int .i64 c')).setCell ⟨g, 4, none⟩ (.bool f')) g n' a' b' c' f' := by
  obtain ⟨l, k0, k1, k2, k3, k4, kf⟩ := h
  exact ⟨by simpa using l, by simp [go_sem, k0, k1, k2, k3, k4], by simp [go_sem, k0, k1, k2, k3, k4], by simp [go_sem, k0, k1, k2, k3, k4], by simp [go_sem, k0, k1, k2, k3, k4], by simp [go_sem, k0, k1, k2, k3, k4], fun o => by simp [go_sem, kf]⟩

/-- Acked, called with literals: what it returns is reckoned. -/
theorem acked_lit (n a b c : Int) (f : Bool) (m : Bool) (e0 e1 e2 newly : Int) (rn ra rb rc : Int) (rf ce : Bool) (er : Int) (W : World) (H : Nat) (w0 : World) (hr : akR n a b c f m e0 e1 e2 newly = ⟨rn, ra, rb, rc, rf, ce, er⟩) (hB : Below H w0 W) (hH : H ≤ W.heap.size) :
    Calls Try.prog 11 #[.agg #[.int .i64 n, .int .i64 a, .int .i64 b, .int .i64 c, .bool f], .agg #[.int .i64 0, .slice none 0 0, .bool m, .int .i64 e0, .int .i64 e1, .int .i64 e2], .int .i64 newly] W fun e w' =>
      e = .returned (.tuple #[.agg #[.int .i64 rn, .int .i64 ra, .int .i64 rb, .int .i64 rc, .bool rf], .bool ce, .int .i64 er]) ∧ Below W.heap.size W w' ∧ Below H w0 w' := by
  refine (acked_any _ _ _ _ _ _ _ _ _ _ _ _ _ _ _).mono ?_
  rintro e w' ⟨rfl, hb⟩
  rw [hr]
  exact ⟨rfl, hb, hB.trans (hb.mono hH)⟩

set_option maxRecDepth 100000 in
theorem At.new1 (W : World) (o : Obj) (n a b c : Int) (f : Bool) (t : Nat) : At ((W.alloc o).alloc (.cells #[.int .i64 n, .int .i64 a, .int .i64 b, .int .i64 c, .bool f] t)) (W.heap.size + 1) n a b c f :=
  At.new (W.alloc o) n a b c f t |> (by simpa using ·)

set_option maxRecDepth 100000 in
theorem At.far {W : World} {g : Nat} {n a b c : Int} {f : Bool} (h : At W g n a b c f) (p : Nat) (hp : p ≠ g) (v0 v1 v2 v3 v4 : Value) :
    At (((((W.setCell ⟨p, 0, none⟩ v0).setCell ⟨p, 1, none⟩ v1).setCell ⟨p, 2, none⟩ v2).setCell ⟨p, 3, none⟩ v3).setCell ⟨p, 4, none⟩ v4) g n a b c f := by
  obtain ⟨l, k0, k1, k2, k3, k4, kf⟩ := h
  have far : ∀ (W : World) (o q : Nat) (v : Value), (W.setCell ⟨p, o, none⟩ v).cell? ⟨g, q, none⟩ = W.cell? ⟨g, q, none⟩ := fun W o q v => World.cell?_setCell_far W _ _ v hp
  exact ⟨by simpa using l, by simp only [far, k0], by simp only [far, k1], by simp only [far, k2], by simp only [far, k3], by simp only [far, k4], fun o => by simp [go_sem, kf]⟩

/-- The ways through a region are brought together behind it: what follows is walked once, from any state that PR lets in. -/
theorem cut {K : Act → World → Prop} {Q : Exit → Act → World → Prop} {c : Code} {a : Act} {w : World} (PR : Act → World → Prop)
    (h1 : c.wp Try.prog (Exit.then PR Q) a w) (h2 : ∀ a w', PR a w' → K a w') : c.wp Try.prog (Exit.then K Q) a w :=
  Code.wp_mono (fun e a w h => by cases e <;> first | exact h2 _ _ h | exact h) h1

end Go.Proofs.Ytiocifmebnaabaa
