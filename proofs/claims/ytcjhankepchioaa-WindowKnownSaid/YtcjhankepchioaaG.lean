/-
  The program's Acked, Bad, Collapse, Slow, New.
-/
import Derived.Test.YtcjhankepchioaaF
import Derived.StillTailTactics
namespace Go.Proofs.Ytcjhankepchioaa
open Go.RowKit (wrap32 wrap64)
open Go.RowKit
set_option linter.unusedVariables false
set_option linter.unusedSimpArgs false

theorem isTime_yes (n : Int) (w : World) (h : 0 ≤ n ∧ n ≤ 9007199254740991) : Calls Try.prog 30 #[.int .i64 n] w fun e w' => e = .returned (.bool true) ∧ w = w' := by
  have e : (decide (0 ≤ n) && decide (n ≤ 9007199254740991)) = true := by simp [h.1, h.2]
  rw [← e]; exact isTime_any n w
theorem isTime_no (n : Int) (w : World) (h : ¬ (0 ≤ n ∧ n ≤ 9007199254740991)) : Calls Try.prog 30 #[.int .i64 n] w fun e w' => e = .returned (.bool false) ∧ w = w' := by
  have e : (decide (0 ≤ n) && decide (n ≤ 9007199254740991)) = false := by
    cases hh : (decide (0 ≤ n) && decide (n ≤ 9007199254740991))
    · rfl
    · simp at hh; exact (h hh).elim
  rw [← e]; exact isTime_any n w
theorem isTime_is (n : Int) (b : Bool) (w : World) (h : Hid (decide (0 ≤ n ∧ n ≤ 9007199254740991) = b)) : Calls Try.prog 30 #[.int .i64 n] w fun e w' => e = .returned (.bool b) ∧ w = w' := by
  have h' := h.out
  cases b
  · exact isTime_no n w (of_decide_eq_false h')
  · exact isTime_yes n w (of_decide_eq_true h')

/-- The size is one, where the numbers are right. -/
def RI (right : Bool) (size : Int) : Prop := right = true → 1 ≤ size ∧ size ≤ 65535
theorem isTime_d (n : Int) (w : World) : Calls Try.prog 30 #[.int .i64 n] w fun e w' => e = .returned (.bool (decide (0 ≤ n ∧ n ≤ 9007199254740991))) ∧ w = w' := isTime_is n _ w rfl
def chW (x y : Win) (right : Bool) : Win := if Ok x ∧ right = true then y else zero
def chE (x : Win) (right : Bool) : Int := if Ok x then (if right = true then 0 else 9) else 2
theorem chR_eq (x y : Win) (right : Bool) : chR x y right = #[(chW x y right).v, .int .i64 (chE x right)] := by
  unfold chR chW chE
  by_cases h : Ok x <;> cases right <;> simp [h]
theorem cell_old {W : World} {o : Obj} {b j : Nat} {v : Value} (h : W.cell? ⟨b, j, none⟩ = some v) (hl : b < W.heap.size) : (W.alloc o).cell? ⟨b, j, none⟩ = some v := oldcell h ((Below.refl _ _).alloc (Nat.le_refl _) o) hl
theorem cell_new {W : World} {n ty : Nat} {v : Value} (h : W.heap.size = n) : (W.alloc (.cells #[v] ty)).cell? ⟨n, 0, none⟩ = some v := by subst h; simp
theorem oldcellB {w w1 : World} {b o n : Nat} {v : Value} (h : w.cell? ⟨b, o, none⟩ = some v) (hb : Below n w w1) (hl : b < n) : w1.cell? ⟨b, o, none⟩ = some v := (hb.cell (p := ⟨b, o, none⟩) hl).trans h
theorem bSet6 {B W : World} {n : Nat} (h : Below n B W) (q : Nat) (hq : n ≤ q) (v0 v1 v2 v3 v4 v5 : Value) :
    Below n B ((((((W.setCell ⟨q, 0, none⟩ v0).setCell ⟨q, 1, none⟩ v1).setCell ⟨q, 2, none⟩ v2).setCell ⟨q, 3, none⟩ v3).setCell ⟨q, 4, none⟩ v4).setCell ⟨q, 5, none⟩ v5) := by go_grown
theorem bAlloc {B W : World} (h : Below B.heap.size B W) (o : Obj) : Below B.heap.size B (W.alloc o) := h.alloc h.size o
theorem BW.kept {W w' : World} {q : Nat} {x : Win} (h : BW W q x) (hb : Below W.heap.size W w') : BW w' q x := Bx.kept h hb
theorem BW.alloc {W : World} {q : Nat} {x : Win} (h : BW W q x) (o : Obj) : BW (W.alloc o) q x := Bx.alloc h o
theorem BW.new (W : World) (x : Win) (ty : Nat) : BW (W.alloc (.cells #[.int .i64 x.d, .int .i64 x.m, .int .i64 x.c, .int .i64 x.t, .int .i64 x.s, .int .i64 x.g] ty)) W.heap.size x := Bx.new W x.d x.m x.c x.t x.s x.g ty
theorem changed31_B (x : Win) (right : Bool) (full : Bool) (time size : Int) (fb pb : Nat) (r : Win) (er : Int) (B W : World) (hf : B.cell? ⟨fb, 0, none⟩ = some (.bool full)) (ht : B.cell? ⟨pb, 1, none⟩ = some (.int .i64 time)) (hs : B.cell? ⟨pb, 2, none⟩ = some (.int .i64 size)) (hr : RI right size) (hfb : fb < B.heap.size) (hpb : pb < B.heap.size) (h1 : chW x (acked x time size full) right = r) (h2 : chE x right = er) (hB : Below B.heap.size B W) :
    Calls Try.prog 29 #[.agg #[.int .i64 x.d, .int .i64 x.m, .int .i64 x.c, .int .i64 x.t, .int .i64 x.s, .int .i64 x.g], .bool right, .func (.func 31) #[] #[.pointer (some ⟨fb, 0, none⟩), .pointer (some ⟨pb, 0, none⟩)]] W fun e w' =>
      e = .returned (.tuple #[.agg #[.int .i64 r.d, .int .i64 r.m, .int .i64 r.c, .int .i64 r.t, .int .i64 r.s, .int .i64 r.g], .int .i64 er]) ∧ Below W.heap.size W w' ∧ Below B.heap.size B w' := by
  refine (changed31_any x right full time size fb pb W (oldcell hf hB hfb) (oldcell ht hB hpb) (oldcell hs hB hpb) hr (Nat.lt_of_lt_of_le hfb hB.size) (Nat.lt_of_lt_of_le hpb hB.size)).mono ?_
  rintro e w' ⟨rfl, hb⟩
  rw [chR_eq, h1, h2]
  exact ⟨rfl, hb, hB.trans (hb.mono hB.size)⟩
theorem changed39_B (x : Win) (right : Bool) (sent now : Int) (sb nb : Nat) (r : Win) (er : Int) (B W : World) (hs : B.cell? ⟨sb, 0, none⟩ = some (.int .i64 sent)) (hn : B.cell? ⟨nb, 0, none⟩ = some (.int .i64 now)) (hsb : sb < B.heap.size) (hnb : nb < B.heap.size) (h1 : chW x (bad x sent now) right = r) (h2 : chE x right = er) (hB : Below B.heap.size B W) :
    Calls Try.prog 29 #[.agg #[.int .i64 x.d, .int .i64 x.m, .int .i64 x.c, .int .i64 x.t, .int .i64 x.s, .int .i64 x.g], .bool right, .func (.func 39) #[] #[.pointer (some ⟨sb, 0, none⟩), .pointer (some ⟨nb, 0, none⟩)]] W fun e w' =>
      e = .returned (.tuple #[.agg #[.int .i64 r.d, .int .i64 r.m, .int .i64 r.c, .int .i64 r.t, .int .i64 r.s, .int .i64 r.g], .int .i64 er]) ∧ Below W.heap.size W w' ∧ Below B.heap.size B w' := by
  refine (changed39_any x right sent now sb nb W (oldcell hs hB hsb) (oldcell hn hB hnb) (Nat.lt_of_lt_of_le hsb hB.size) (Nat.lt_of_lt_of_le hnb hB.size)).mono ?_
  rintro e w' ⟨rfl, hb⟩
  rw [chR_eq, h1, h2]
  exact ⟨rfl, hb, hB.trans (hb.mono hB.size)⟩
theorem changed41_B (x : Win) (right : Bool)  (r : Win) (er : Int) (B W : World)  (h1 : chW x (collapse x) right = r) (h2 : chE x right = er) (hB : Below B.heap.size B W) :
    Calls Try.prog 29 #[.agg #[.int .i64 x.d, .int .i64 x.m, .int .i64 x.c, .int .i64 x.t, .int .i64 x.s, .int .i64 x.g], .bool right, .func (.func 41) #[] #[]] W fun e w' =>
      e = .returned (.tuple #[.agg #[.int .i64 r.d, .int .i64 r.m, .int .i64 r.c, .int .i64 r.t, .int .i64 r.s, .int .i64 r.g], .int .i64 er]) ∧ Below W.heap.size W w' ∧ Below B.heap.size B w' := by
  refine (changed41_any x right  W ).mono ?_
  rintro e w' ⟨rfl, hb⟩
  rw [chR_eq, h1, h2]
  exact ⟨rfl, hb, hB.trans (hb.mono hB.size)⟩

set_option maxRecDepth 100000 in
set_option maxHeartbeats 4000000 in
theorem wacked_r (x : Win) (nu ti si : Int) (b1 b2 b3 full : Bool) (r : Win) (er : Int) (w : World) (ht : 0 ≤ ti ∧ ti ≤ 9007199254740991) (s1 : 1 ≤ si) (s2 : si ≤ 65535) (h1 : Hid (chW x (acked x ti si full) true = r)) (h2 : Hid (chE x true = er)) :
    Calls Try.prog 14 #[.agg #[.int .i64 x.d, .int .i64 x.m, .int .i64 x.c, .int .i64 x.t, .int .i64 x.s, .int .i64 x.g], .agg #[.int .i64 nu, .int .i64 ti, .int .i64 si, .bool b1, .bool b2, .bool b3], .bool full] w fun e w' => e = .returned (.tuple #[.agg #[.int .i64 r.d, .int .i64 r.m, .int .i64 r.c, .int .i64 r.t, .int .i64 r.s, .int .i64 r.g], .int .i64 er]) ∧ Below w.heap.size w w' := by
  have HTI : Hid (decide (0 ≤ ti ∧ ti ≤ 9007199254740991) = true) := decide_eq_true ht
  have HRI : RI true si := fun _ => ⟨s1, s2⟩
  clear ht
  go_enter Try.func14, Try.ntmps14
  go_wp2_with fail
  obtain ⟨W5, hW5⟩ : ∃ W, ((((w.alloc (.cells #[.int .i64 x.d, .int .i64 x.m, .int .i64 x.c, .int .i64 x.t, .int .i64 x.s, .int .i64 x.g] 26)).alloc (.cells #[.int .i64 nu, .int .i64 ti, .int .i64 si, .bool b1, .bool b2, .bool b3] 34)).alloc (.cells #[.bool full] 4)).alloc (.cells #[.int .i64 0, .int .i64 0, .int .i64 0, .int .i64 0, .int .i64 0, .int .i64 0] 26)) = W := ⟨_, rfl⟩
  rw [hW5]
  have hX : BW W5 w.heap.size x := hW5 ▸ (((BW.new w x 26).alloc _).alloc _).alloc _
  have hZ : BW W5 (w.heap.size + 1 + 1 + 1) zero := by
    rw [← hW5]
    have h0 := Bx.new (((w.alloc (.cells #[.int .i64 x.d, .int .i64 x.m, .int .i64 x.c, .int .i64 x.t, .int .i64 x.s, .int .i64 x.g] 26)).alloc (.cells #[.int .i64 nu, .int .i64 ti, .int .i64 si, .bool b1, .bool b2, .bool b3] 34)).alloc (.cells #[.bool full] 4)) 0 0 0 0 0 0 26
    show Bx _ _ 0 0 0 0 0 0
    simpa using h0
  have HT : Hid (W5.cell? ⟨w.heap.size + 1, 1, none⟩ = some (.int .i64 ti)) := Lib.hid (show W5.cell? ⟨w.heap.size + 1, 1, none⟩ = some (.int .i64 ti) by rw [← hW5]; exact cell_old (cell_old (by simp) (by simp)) (by simp <;> omega))
  have HSI : Hid (W5.cell? ⟨w.heap.size + 1, 2, none⟩ = some (.int .i64 si)) := Lib.hid (show W5.cell? ⟨w.heap.size + 1, 2, none⟩ = some (.int .i64 si) by rw [← hW5]; exact cell_old (cell_old (by simp) (by simp)) (by simp <;> omega))
  have HF : Hid (W5.cell? ⟨w.heap.size + 1 + 1, 0, none⟩ = some (.bool full)) := Lib.hid (show W5.cell? ⟨w.heap.size + 1 + 1, 0, none⟩ = some (.bool full) by rw [← hW5]; exact cell_old (cell_new (by simp)) (by simp))
  have hB5 : Below w.heap.size w W5 := hW5 ▸ (by go_grown)
  have hl : w.heap.size + 1 + 1 + 1 < W5.heap.size := by rw [← hW5]; simp only [World.size_alloc]; omega
  clear hW5
  have HS : ∀ w', Below (w.heap.size + 1 + 1 + 1) W5 w' → (w'.cell? ⟨w.heap.size, 0, none⟩ = some (.int .i64 x.d) ∧ w'.cell? ⟨w.heap.size, 1, none⟩ = some (.int .i64 x.m) ∧ w'.cell? ⟨w.heap.size, 2, none⟩ = some (.int .i64 x.c) ∧ w'.cell? ⟨w.heap.size, 3, none⟩ = some (.int .i64 x.t) ∧ w'.cell? ⟨w.heap.size, 4, none⟩ = some (.int .i64 x.s) ∧ w'.cell? ⟨w.heap.size, 5, none⟩ = some (.int .i64 x.g)) ∧ (w'.cell? ⟨w.heap.size + 1, 1, none⟩ = some (.int .i64 ti)) ∧ (w'.cell? ⟨w.heap.size + 1, 2, none⟩ = some (.int .i64 si)) ∧ Below (w.heap.size + 1 + 1 + 1) W5 w' := fun w' hb => by
    obtain ⟨_, k0, k1, k2, k3, k4, k5, kf⟩ := BW.keptB hX hb (by omega)
    exact ⟨⟨k0, k1, k2, k3, k4, k5⟩, oldcellB HT.out hb (by omega), oldcellB HSI.out hb (by omega), hb⟩
  have hbR := Below.refl W5.heap.size W5
  have HZ := Lib.hid hZ
  clear hZ
  go_region_held3 (fun w' => (w'.cell? ⟨w.heap.size, 0, none⟩ = some (.int .i64 x.d) ∧ w'.cell? ⟨w.heap.size, 1, none⟩ = some (.int .i64 x.m) ∧ w'.cell? ⟨w.heap.size, 2, none⟩ = some (.int .i64 x.c) ∧ w'.cell? ⟨w.heap.size, 3, none⟩ = some (.int .i64 x.t) ∧ w'.cell? ⟨w.heap.size, 4, none⟩ = some (.int .i64 x.s) ∧ w'.cell? ⟨w.heap.size, 5, none⟩ = some (.int .i64 x.g)) ∧ (w'.cell? ⟨w.heap.size + 1, 1, none⟩ = some (.int .i64 ti)) ∧ (w'.cell? ⟨w.heap.size + 1, 2, none⟩ = some (.int .i64 si)) ∧ Below (w.heap.size + 1 + 1 + 1) W5 w')
    ((refine HS _ ?_; (first | (with_reducible assumption) | (with_reducible exact Below.drew (by assumption)) | (with_reducible exact Below.mono (by assumption) (Nat.le_of_lt hl)) | (with_reducible exact Below.drew (Below.mono (by assumption) (Nat.le_of_lt hl))) | (with_reducible exact bSet6 (by assumption) _ (Nat.le_refl _) _ _ _ _ _ _) | (with_reducible exact bSet6 (Below.mono hb7 (Nat.le_of_lt hl)) _ (Nat.le_refl _) _ _ _ _ _ _))))
    (first | (go_at_call 30; refine (isTime_is _ _ _ HTI).mono ?_; rintro e w' ⟨rfl, rfl⟩) | (go_at_call 29; refine (changed31_B x true full ti si (w.heap.size + 1 + 1) (w.heap.size + 1) r er W5 _ HF.out HT.out HSI.out HRI (by omega) (by omega) h1.out h2.out ?_).mono ?_; (first | (with_reducible assumption) | (with_reducible exact Below.drew (by assumption)) | (with_reducible exact bAlloc (by assumption) _) | (with_reducible exact Below.drew (bAlloc (by assumption) _))); rintro e w7 ⟨rfl, hbb7, hb7⟩; clear hbb7; obtain ⟨zl, z0, z1, z2, z3, z4, z5, zf⟩ := BW.kept HZ.out hb7))
  all_goals
    go_wp2_with fail
    rename_i hH
    refine bodyPost_ret (by simp [results, Try.results14, go_sem, z0, z1, z2, z3, z4, z5]; rfl) rfl ?_
    exact ⟨rfl, hB5.trans (hH.2.2.2.mono (by omega))⟩

def rightP (ti si : Int) : Bool := decide ((0 ≤ ti ∧ ti ≤ 9007199254740991) ∧ 1 ≤ si ∧ si ≤ 65535)

set_option maxRecDepth 100000 in
set_option maxHeartbeats 4000000 in
theorem wbad_r (x : Win) (se no : Int) (r : Win) (er : Int) (w : World) (HT1 : Hid (decide (0 ≤ se ∧ se ≤ 9007199254740991) = true)) (HT2 : Hid (decide (0 ≤ no ∧ no ≤ 9007199254740991) = true)) (h1 : Hid (chW x (bad x se no) true = r)) (h2 : Hid (chE x true = er)) :
    Calls Try.prog 17 #[.agg #[.int .i64 x.d, .int .i64 x.m, .int .i64 x.c, .int .i64 x.t, .int .i64 x.s, .int .i64 x.g], .int .i64 se, .int .i64 no] w fun e w' => e = .returned (.tuple #[.agg #[.int .i64 r.d, .int .i64 r.m, .int .i64 r.c, .int .i64 r.t, .int .i64 r.s, .int .i64 r.g], .int .i64 er]) ∧ Below w.heap.size w w' := by
  skip
  go_enter Try.func17, Try.ntmps17
  go_wp2_with fail
  obtain ⟨W5, hW5⟩ : ∃ W, ((((w.alloc (.cells #[.int .i64 x.d, .int .i64 x.m, .int .i64 x.c, .int .i64 x.t, .int .i64 x.s, .int .i64 x.g] 26)).alloc (.cells #[.int .i64 se] 3)).alloc (.cells #[.int .i64 no] 3)).alloc (.cells #[.int .i64 0, .int .i64 0, .int .i64 0, .int .i64 0, .int .i64 0, .int .i64 0] 26)) = W := ⟨_, rfl⟩
  rw [hW5]
  have hX : BW W5 w.heap.size x := hW5 ▸ (((BW.new w x 26).alloc _).alloc _).alloc _
  have hZ : BW W5 (w.heap.size + 1 + 1 + 1) zero := by
    rw [← hW5]
    have h0 := Bx.new (((w.alloc (.cells #[.int .i64 x.d, .int .i64 x.m, .int .i64 x.c, .int .i64 x.t, .int .i64 x.s, .int .i64 x.g] 26)).alloc (.cells #[.int .i64 se] 3)).alloc (.cells #[.int .i64 no] 3)) 0 0 0 0 0 0 26
    show Bx _ _ 0 0 0 0 0 0
    simpa using h0
  have HSE : Hid (W5.cell? ⟨w.heap.size + 1, 0, none⟩ = some (.int .i64 se)) := Lib.hid (show W5.cell? ⟨w.heap.size + 1, 0, none⟩ = some (.int .i64 se) by rw [← hW5]; exact cell_old (cell_old (by simp) (by simp)) (by simp <;> omega))
  have HNO : Hid (W5.cell? ⟨w.heap.size + 1 + 1, 0, none⟩ = some (.int .i64 no)) := Lib.hid (show W5.cell? ⟨w.heap.size + 1 + 1, 0, none⟩ = some (.int .i64 no) by rw [← hW5]; exact cell_old (cell_new (by simp)) (by simp))
  have hB5 : Below w.heap.size w W5 := hW5 ▸ (by go_grown)
  have hl : w.heap.size + 1 + 1 + 1 < W5.heap.size := by rw [← hW5]; simp only [World.size_alloc]; omega
  clear hW5
  have HS : ∀ w', Below (w.heap.size + 1 + 1 + 1) W5 w' → (w'.cell? ⟨w.heap.size, 0, none⟩ = some (.int .i64 x.d) ∧ w'.cell? ⟨w.heap.size, 1, none⟩ = some (.int .i64 x.m) ∧ w'.cell? ⟨w.heap.size, 2, none⟩ = some (.int .i64 x.c) ∧ w'.cell? ⟨w.heap.size, 3, none⟩ = some (.int .i64 x.t) ∧ w'.cell? ⟨w.heap.size, 4, none⟩ = some (.int .i64 x.s) ∧ w'.cell? ⟨w.heap.size, 5, none⟩ = some (.int .i64 x.g)) ∧ (w'.cell? ⟨w.heap.size + 1, 0, none⟩ = some (.int .i64 se)) ∧ (w'.cell? ⟨w.heap.size + 1 + 1, 0, none⟩ = some (.int .i64 no)) ∧ Below (w.heap.size + 1 + 1 + 1) W5 w' := fun w' hb => by
    obtain ⟨_, k0, k1, k2, k3, k4, k5, kf⟩ := BW.keptB hX hb (by omega)
    exact ⟨⟨k0, k1, k2, k3, k4, k5⟩, oldcellB HSE.out hb (by omega), oldcellB HNO.out hb (by omega), hb⟩
  have hbR := Below.refl W5.heap.size W5
  have HZ := Lib.hid hZ
  clear hZ
  go_region_held3 (fun w' => (w'.cell? ⟨w.heap.size, 0, none⟩ = some (.int .i64 x.d) ∧ w'.cell? ⟨w.heap.size, 1, none⟩ = some (.int .i64 x.m) ∧ w'.cell? ⟨w.heap.size, 2, none⟩ = some (.int .i64 x.c) ∧ w'.cell? ⟨w.heap.size, 3, none⟩ = some (.int .i64 x.t) ∧ w'.cell? ⟨w.heap.size, 4, none⟩ = some (.int .i64 x.s) ∧ w'.cell? ⟨w.heap.size, 5, none⟩ = some (.int .i64 x.g)) ∧ (w'.cell? ⟨w.heap.size + 1, 0, none⟩ = some (.int .i64 se)) ∧ (w'.cell? ⟨w.heap.size + 1 + 1, 0, none⟩ = some (.int .i64 no)) ∧ Below (w.heap.size + 1 + 1 + 1) W5 w')
    ((refine HS _ ?_; (first | (with_reducible assumption) | (with_reducible exact Below.drew (by assumption)) | (with_reducible exact Below.mono (by assumption) (Nat.le_of_lt hl)) | (with_reducible exact Below.drew (Below.mono (by assumption) (Nat.le_of_lt hl))) | (with_reducible exact bSet6 (by assumption) _ (Nat.le_refl _) _ _ _ _ _ _) | (with_reducible exact bSet6 (Below.mono hb7 (Nat.le_of_lt hl)) _ (Nat.le_refl _) _ _ _ _ _ _))))
    (first | (go_at_call 30; refine (isTime_d _ _).mono ?_; rintro e w' ⟨rfl, rfl⟩; (first | rw [HT1.out] | rw [HT2.out])) | (go_at_call 29; refine (changed39_B x true se no (w.heap.size + 1) (w.heap.size + 1 + 1) r er W5 _ HSE.out HNO.out (by omega) (by omega) h1.out h2.out ?_).mono ?_; (first | (with_reducible assumption) | (with_reducible exact Below.drew (by assumption)) | (with_reducible exact bAlloc (by assumption) _) | (with_reducible exact Below.drew (bAlloc (by assumption) _))); rintro e w7 ⟨rfl, hbb7, hb7⟩; clear hbb7; obtain ⟨zl, z0, z1, z2, z3, z4, z5, zf⟩ := BW.kept HZ.out hb7))
  all_goals
    go_wp2_with fail
    rename_i hH
    refine bodyPost_ret (by simp [results, Try.results17, go_sem, z0, z1, z2, z3, z4, z5]; rfl) rfl ?_
    exact ⟨rfl, hB5.trans (hH.2.2.2.mono (by omega))⟩

def timeB (n : Int) : Bool := decide (0 ≤ n ∧ n ≤ 9007199254740991)

set_option maxRecDepth 100000 in
set_option maxHeartbeats 4000000 in
theorem wcollapse_any (x : Win) (r : Win) (er : Int) (w : World) (h1 : Hid (chW x (collapse x) true = r)) (h2 : Hid (chE x true = er)) :
    Calls Try.prog 19 #[.agg #[.int .i64 x.d, .int .i64 x.m, .int .i64 x.c, .int .i64 x.t, .int .i64 x.s, .int .i64 x.g]] w fun e w' => e = .returned (.tuple #[.agg #[.int .i64 r.d, .int .i64 r.m, .int .i64 r.c, .int .i64 r.t, .int .i64 r.s, .int .i64 r.g], .int .i64 er]) ∧ Below w.heap.size w w' := by
  go_enter Try.func19, Try.ntmps19
  go_wp2_with fail
  refine (changed41_B x true r er _ _ h1.out h2.out (Below.refl _ _)).mono ?_
  rintro e w7 ⟨rfl, hb7, hb7'⟩
  obtain ⟨zl, z0, z1, z2, z3, z4, z5, zf⟩ := BW.kept (BW.new1 w _ zero 26) hb7
  have HB7 := Lib.hid (((Below.refl w.heap.size w).alloc (Nat.le_refl _) _ |>.alloc (by simp) _).trans (hb7.mono (by simp only [World.size_alloc]; omega)))
  clear hb7 hb7'
  go_wp2_with fail
  refine bodyPost_ret (by simp [results, Try.results19, go_sem, z0, z1, z2, z3, z4, z5]; rfl) rfl ?_
  exact ⟨rfl, by have := HB7.out; go_grown⟩

/-- Slow. -/
def slowB (x : Win) : Bool := decide (Ok x) && decide (Slow x)
theorem wslow_any (x : Win) (w : World) :
    Calls Try.prog 25 #[.agg #[.int .i64 x.d, .int .i64 x.m, .int .i64 x.c, .int .i64 x.t, .int .i64 x.s, .int .i64 x.g]] w fun e w' => e = .returned (.bool (slowB x)) ∧ Below w.heap.size w w' := by
  unfold slowB
  cases hd : decide (Ok x)
  · go_enter Try.func25, Try.ntmps25
    go_wp2_with (first | (go_at_call 42; refine (may_any x _ _ (BW.new1 _ _ x 61)).mono ?_; rintro e w1 ⟨rfl, hX, hB⟩; rw [hd]))
    go_ret
    exact ⟨by simp, below1 _ _ _ hB⟩
  · go_enter Try.func25, Try.ntmps25
    go_wp2_with (first | (go_at_call 42; refine (may_any x _ _ (BW.new1 _ _ x 61)).mono ?_; rintro e w1 ⟨rfl, hX, hB⟩; rw [hd]; have HB := Lib.hid (below1 _ _ _ hB); clear hB) | (go_at_call 34; refine (slow_any _ x.d x.m x.c x.t x.s x.g _ hX).mono ?_; rintro e w2 ⟨rfl, hX2, hB2⟩; rw [slow_iff]))
    go_ret
    exact ⟨by simp, HB.out.trans (hB2.mono (by omega))⟩

/-- New. -/
def first (da fi mo : Int) : Win := ⟨da, mo, fi, -1, -1, 0⟩
def newW (da fi mo : Int) : Win := if Ok (first da fi mo) then first da fi mo else zero
def newE (da fi mo : Int) : Int := if Ok (first da fi mo) then 0 else 2
theorem check_B (x : Win) (er : Int) (w : World) (h : Hid ((if Ok x then (0 : Int) else 2) = er)) :
    Calls Try.prog 23 #[.agg #[.int .i64 x.d, .int .i64 x.m, .int .i64 x.c, .int .i64 x.t, .int .i64 x.s, .int .i64 x.g]] w fun e w' => e = .returned (.int .i64 er) ∧ Below w.heap.size w w' := by
  have h' := h.out
  subst h'
  exact check_any x w
set_option maxRecDepth 100000 in
set_option maxHeartbeats 4000000 in
theorem wnew_any (da fi mo : Int) (w : World) :
    Calls Try.prog 21 #[.int .i64 da, .int .i64 fi, .int .i64 mo] w fun e w' => e = .returned (.tuple #[.agg #[.int .i64 (newW da fi mo).d, .int .i64 (newW da fi mo).m, .int .i64 (newW da fi mo).c, .int .i64 (newW da fi mo).t, .int .i64 (newW da fi mo).s, .int .i64 (newW da fi mo).g], .int .i64 (newE da fi mo)]) ∧ Below w.heap.size w w' := by
  unfold newW newE
  by_cases h : Ok (first da fi mo)
  · simp only [h, if_true]
    have HC : Hid ((if Ok (first da fi mo) then (0 : Int) else 2) = 0) := if_pos h
    clear h
    go_enter Try.func21, Try.ntmps21
    go_wp2_with fail
    refine (check_B (first da fi mo) 0 _ HC).mono ?_
    rintro e w7 ⟨rfl, hb7⟩
    obtain ⟨zl, z0, z1, z2, z3, z4, z5, zf⟩ := BW.kept (BW.alloc (BW.new w zero 26) _) hb7
    obtain ⟨xl, x0, x1, x2, x3, x4, x5, xf⟩ := BW.kept (BW.new1 w _ (first da fi mo) 26) hb7
    have HB7 := Lib.hid (((Below.refl w.heap.size w).alloc (Nat.le_refl _) _ |>.alloc (by simp) _).trans (hb7.mono (by simp only [World.size_alloc]; omega)))
    clear hb7
    go_wp2_with fail
    refine bodyPost_ret (by simp [results, Try.results21, go_sem, z0, z1, z2, z3, z4, z5]; rfl) rfl ?_
    exact ⟨rfl, by have := HB7.out; go_grown⟩
  · simp only [h, if_false]
    have HC : Hid ((if Ok (first da fi mo) then (0 : Int) else 2) = 2) := if_neg h
    clear h
    go_enter Try.func21, Try.ntmps21
    go_wp2_with fail
    refine (check_B (first da fi mo) 2 _ HC).mono ?_
    rintro e w7 ⟨rfl, hb7⟩
    obtain ⟨zl, z0, z1, z2, z3, z4, z5, zf⟩ := BW.kept (BW.alloc (BW.new w zero 26) _) hb7
    obtain ⟨xl, x0, x1, x2, x3, x4, x5, xf⟩ := BW.kept (BW.new1 w _ (first da fi mo) 26) hb7
    have HB7 := Lib.hid (((Below.refl w.heap.size w).alloc (Nat.le_refl _) _ |>.alloc (by simp) _).trans (hb7.mono (by simp only [World.size_alloc]; omega)))
    clear hb7
    go_wp2_with fail
    refine bodyPost_ret (by simp [results, Try.results21, go_sem, z0, z1, z2, z3, z4, z5]; rfl) rfl ?_
    exact ⟨rfl, by have := HB7.out; go_grown⟩
end Go.Proofs.Ytcjhankepchioaa
