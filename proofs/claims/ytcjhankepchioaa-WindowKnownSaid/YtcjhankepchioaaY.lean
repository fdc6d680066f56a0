/-
  The program's Acked and Bad, of whatever arguments.
-/
import Derived.Test.YtcjhankepchioaaG
import Derived.StillTailTactics
namespace Go.Proofs.Ytcjhankepchioaa
open Go.RowKit (wrap32 wrap64)
open Go.RowKit
set_option linter.unusedVariables false
set_option linter.unusedSimpArgs false


set_option maxRecDepth 100000 in
set_option maxHeartbeats 4000000 in
theorem wacked_t (x : Win) (nu ti si : Int) (b1 b2 b3 full : Bool) (r : Win) (er : Int) (w : World) (ht : ¬ (0 ≤ ti ∧ ti ≤ 9007199254740991)) (h1 : Hid (chW x (acked x ti si full) false = r)) (h2 : Hid (chE x false = er)) :
    Calls Try.prog 14 #[.agg #[.int .i64 x.d, .int .i64 x.m, .int .i64 x.c, .int .i64 x.t, .int .i64 x.s, .int .i64 x.g], .agg #[.int .i64 nu, .int .i64 ti, .int .i64 si, .bool b1, .bool b2, .bool b3], .bool full] w fun e w' => e = .returned (.tuple #[.agg #[.int .i64 r.d, .int .i64 r.m, .int .i64 r.c, .int .i64 r.t, .int .i64 r.s, .int .i64 r.g], .int .i64 er]) ∧ Below w.heap.size w w' := by
  have HTI : Hid (decide (0 ≤ ti ∧ ti ≤ 9007199254740991) = false) := decide_eq_false ht
  have HRI : RI false si := fun h => by cases h
  clear ht
  go_enter Try.func14, Try.ntmps14
  go_wp2_with fail
  obtain ⟨W5, hW5⟩ : ∃ W, ((((w.alloc (.cells #[.int .i64 x.d, .int .i64 x.m, .int .i64 x.c, .int .i64 x.t, .int .i64 x.s, .int .i64 x.g] 26)).alloc (.cells #[.int .i64 nu, .int .i64 ti, .int .i64 si, .bool b1, .bool b2, .bool b3] 34)).alloc (.cells #[.bool full] 4)).alloc (.cells #[.int .i64 0, .int .i64 0, .int .i64 0, .int .i64 0, .int .i64 0, .int .i64 0] 26)) = W := ⟨_, rfl⟩
  rw [hW5]
  have hX : BW W5 w.heap.size x := hW5 ▸ (((BW.new w x 26).alloc _).alloc _).alloc _
  have hZ : BW W5 (w.heap.size + 1 + 1 + 1) zero := by
    rw [← hW5]
    have h0 := Bx.new (((w.alloc (.cells #[.int .i64 x.d, .int .i64 x.m, .int .i64 x.c, .int .i64 x.t, .int .i64 x.s, .int .i64 x.g] 26)).alloc (.cells #[.int .i64 nu, .int .i64 ti, .int .i64 si, .bool b1, .bool b2, .bool b3] 34)).alloc (.cells #[.bool full] 4)) 0 0 0 0 0 0 26
    show Bx _ _ 0 0 0 0 0 0
    simpa using h0
  have HT : Hid (W5.cell? ⟨w.heap.size + 1, 1, none⟩ = some (.int .i64 ti)) := Lib.hid (show W5.cell? ⟨w.heap.size + 1, 1, none⟩ = some (.int .i64 ti) by rw [← hW5]; exact cell_old (cell_old (by simp) (by simp)) (by simp <;> omega))
  have HSI : Hid (W5.cell? ⟨w.heap.size + 1, 2, none⟩ = some (.int .i64 si)) := Lib.hid (show W5.cell? ⟨w.heap.size + 1, 2, none⟩ = some (.int .i64 si) by rw [← hW5]; exact cell_old (cell_old (by simp) (by simp)) (by simp <;> omega))
  have HF : Hid (W5.cell? ⟨w.heap.size + 1 + 1, 0, none⟩ = some (.bool full)) := Lib.hid (show W5.cell? ⟨w.heap.size + 1 + 1, 0, none⟩ = some (.bool full) by rw [← hW5]; exact cell_old (cell_new (by simp)) (by simp))
  have hB5 : Below w.heap.size w W5 := hW5 ▸ (by go_grown)
  have hl : w.heap.size + 1 + 1 + 1 < W5.heap.size := by rw [← hW5]; simp only [World.size_alloc]; omega
  clear hW5
  have HS : ∀ w', Below (w.heap.size + 1 + 1 + 1) W5 w' → (w'.cell? ⟨w.heap.size, 0, none⟩ = some (.int .i64 x.d) ∧ w'.cell? ⟨w.heap.size, 1, none⟩ = some (.int .i64 x.m) ∧ w'.cell? ⟨w.heap.size, 2, none⟩ = some (.int .i64 x.c) ∧ w'.cell? ⟨w.heap.size, 3, none⟩ = some (.int .i64 x.t) ∧ w'.cell? ⟨w.heap.size, 4, none⟩ = some (.int .i64 x.s) ∧ w'.cell? ⟨w.heap.size, 5, none⟩ = some (.int .i64 x.g)) ∧ (w'.cell? ⟨w.heap.size + 1, 1, none⟩ = some (.int .i64 ti)) ∧ (w'.cell? ⟨w.heap.size + 1, 2, none⟩ = some (.int .i64 si)) ∧ Below (w.heap.size + 1 + 1 + 1) W5 w' := fun w' hb => by
    obtain ⟨_, k0, k1, k2, k3, k4, k5, kf⟩ := BW.keptB hX hb (by omega)
    exact ⟨⟨k0, k1, k2, k3, k4, k5⟩, oldcellB HT.out hb (by omega), oldcellB HSI.out hb (by omega), hb⟩
  have hbR := Below.refl W5.heap.size W5
  have HZ := Lib.hid hZ
  clear hZ
  refine wp_region_noPanic ?_
  refine wp_region_held_drew (S := (fun w' => (w'.cell? ⟨w.heap.size, 0, none⟩ = some (.int .i64 x.d) ∧ w'.cell? ⟨w.heap.size, 1, none⟩ = some (.int .i64 x.m) ∧ w'.cell? ⟨w.heap.size, 2, none⟩ = some (.int .i64 x.c) ∧ w'.cell? ⟨w.heap.size, 3, none⟩ = some (.int .i64 x.t) ∧ w'.cell? ⟨w.heap.size, 4, none⟩ = some (.int .i64 x.s) ∧ w'.cell? ⟨w.heap.size, 5, none⟩ = some (.int .i64 x.g)) ∧ (w'.cell? ⟨w.heap.size + 1, 1, none⟩ = some (.int .i64 ti)) ∧ (w'.cell? ⟨w.heap.size + 1, 2, none⟩ = some (.int .i64 si)) ∧ Below (w.heap.size + 1 + 1 + 1) W5 w')) (by kernel_rfl) ?_ (fun hHeld => ?_)
  · (try dsimp only); refine HS _ ?_; (first | (with_reducible assumption) | (with_reducible exact Below.drew (by assumption)) | (with_reducible exact Below.mono (by assumption) (Nat.le_of_lt hl)) | (with_reducible exact Below.drew (Below.mono (by assumption) (Nat.le_of_lt hl))) | (with_reducible exact bSet6 (by assumption) _ (Nat.le_refl _) _ _ _ _ _ _) | (with_reducible exact bSet6 (Below.mono hb7 (Nat.le_of_lt hl)) _ (Nat.le_refl _) _ _ _ _ _ _))
  refine wpAnyH_take (i := 0) (oi := ?oi1) (v := ?v1) ?hi1 (by kernel_rfl) (by kernel_rfl) (by kernel_rfl) (fun _ _ _ h => h) ?hy1 (by assumption) ?rest1
  case hi1 => (simp only [List.getElem?_toArray, List.getElem?_cons_succ, List.getElem?_cons_zero]; rfl)
  case hy1 => exact Or.inl ⟨by rfl, by intro w hSw; (try dsimp only at hSw); (first | (go_simp; done) | (go_simp; with_reducible rfl))⟩
  (try simp only [Act.put, List.setIfInBounds_toArray, List.set_cons_zero, List.set_cons_succ])
  refine wpAnyH_take (i := 1) (oi := ?oi2) (v := ?v2) ?hi2 (by kernel_rfl) (by kernel_rfl) (by kernel_rfl) (fun _ _ _ h => h) ?hy2 (by assumption) ?rest2
  case hi2 => (simp only [List.getElem?_toArray, List.getElem?_cons_succ, List.getElem?_cons_zero]; rfl)
  case hy2 => exact Or.inl ⟨by rfl, by intro w hSw; (try dsimp only at hSw); (first | (go_simp; done) | (go_simp; with_reducible rfl))⟩
  (try simp only [Act.put, List.setIfInBounds_toArray, List.set_cons_zero, List.set_cons_succ])
  refine wpAnyH_take (i := 2) (oi := ?oi3) (v := ?v3) ?hi3 (by kernel_rfl) (by kernel_rfl) (by kernel_rfl) (fun _ _ _ h => h) ?hy3 (by assumption) ?rest3
  case hi3 => (simp only [List.getElem?_toArray, List.getElem?_cons_succ, List.getElem?_cons_zero]; rfl)
  case hy3 => exact Or.inl ⟨by rfl, by intro w hSw; (try dsimp only at hSw); (first | (go_simp; done) | (go_simp; with_reducible rfl))⟩
  (try simp only [Act.put, List.setIfInBounds_toArray, List.set_cons_zero, List.set_cons_succ])
  refine wpAnyH_ready (rs := [3, 14]) (by kernel_rfl) (by simp) ?_
  refine AllReadyH.cons rfl (fun K hK => ?_) (AllReadyH.cons rfl (fun K hK => ?_) AllReadyH.nil)
  · ((go_simp); (go_at_call 30; refine (isTime_is _ _ _ HTI).mono ?_; rintro e w' ⟨rfl, rfl⟩))
    refine hK.out _ _ ?_ (fun hNew => ?_)
    · (try dsimp only); refine HS _ ?_; (first | (with_reducible assumption) | (with_reducible exact Below.drew (by assumption)) | (with_reducible exact Below.mono (by assumption) (Nat.le_of_lt hl)) | (with_reducible exact Below.drew (Below.mono (by assumption) (Nat.le_of_lt hl))) | (with_reducible exact bSet6 (by assumption) _ (Nat.le_refl _) _ _ _ _ _ _) | (with_reducible exact bSet6 (Below.mono hb7 (Nat.le_of_lt hl)) _ (Nat.le_refl _) _ _ _ _ _ _))
    clear hHeld hK K
    have hHeld := hNew
    clear hNew
    (try simp only [Act.put, List.setIfInBounds_toArray, List.set_cons_zero, List.set_cons_succ])
    refine wpAnyH_take (i := 4) (oi := ?oi4) (v := ?v4) ?hi4 (by kernel_rfl) (by kernel_rfl) (by kernel_rfl) (fun _ _ _ h => h) ?hy4 (by assumption) ?rest4
    case hi4 => (simp only [List.getElem?_toArray, List.getElem?_cons_succ, List.getElem?_cons_zero]; rfl)
    case hy4 => exact Or.inl ⟨by rfl, by intro w hSw; (try dsimp only at hSw); (first | (go_simp; done) | (go_simp; with_reducible rfl))⟩
    (try simp only [Act.put, List.setIfInBounds_toArray, List.set_cons_zero, List.set_cons_succ])
    refine wpAnyH_take (i := 5) (oi := ?oi5) (v := undef) ?hi5 (by kernel_rfl) (by kernel_rfl) (by kernel_rfl) (fun _ _ _ h => h) ?hy5 (by assumption) ?rest5
    case hi5 => (simp only [List.getElem?_toArray, List.getElem?_cons_succ, List.getElem?_cons_zero]; rfl)
    case hy5 => exact Or.inr ⟨by rfl, rfl⟩
    (try simp only [Act.put, List.setIfInBounds_toArray, List.set_cons_zero, List.set_cons_succ])
    refine wpAnyH_take (i := 6) (oi := ?oi6) (v := undef) ?hi6 (by kernel_rfl) (by kernel_rfl) (by kernel_rfl) (fun _ _ _ h => h) ?hy6 (by assumption) ?rest6
    case hi6 => (simp only [List.getElem?_toArray, List.getElem?_cons_succ, List.getElem?_cons_zero]; rfl)
    case hy6 => exact Or.inr ⟨by rfl, rfl⟩
    (try simp only [Act.put, List.setIfInBounds_toArray, List.set_cons_zero, List.set_cons_succ])
    refine wpAnyH_take (i := 7) (oi := ?oi7) (v := undef) ?hi7 (by kernel_rfl) (by kernel_rfl) (by kernel_rfl) (fun _ _ _ h => h) ?hy7 (by assumption) ?rest7
    case hi7 => (simp only [List.getElem?_toArray, List.getElem?_cons_succ, List.getElem?_cons_zero]; rfl)
    case hy7 => exact Or.inr ⟨by rfl, rfl⟩
    (try simp only [Act.put, List.setIfInBounds_toArray, List.set_cons_zero, List.set_cons_succ])
    refine wpAnyH_take (i := 8) (oi := ?oi8) (v := ?v8) ?hi8 (by kernel_rfl) (by kernel_rfl) (by kernel_rfl) (fun _ _ _ h => h) ?hy8 (by assumption) ?rest8
    case hi8 => (simp only [List.getElem?_toArray, List.getElem?_cons_succ, List.getElem?_cons_zero]; rfl)
    case hy8 => exact Or.inl ⟨by rfl, by intro w hSw; (try dsimp only at hSw); (first | (go_simp; done) | (go_simp; with_reducible rfl))⟩
    (try simp only [Act.put, List.setIfInBounds_toArray, List.set_cons_zero, List.set_cons_succ])
    refine wpAnyH_take (i := 9) (oi := ?oi9) (v := ?v9) ?hi9 (by kernel_rfl) (by kernel_rfl) (by kernel_rfl) (fun _ _ _ h => h) ?hy9 (by assumption) ?rest9
    case hi9 => (simp only [List.getElem?_toArray, List.getElem?_cons_succ, List.getElem?_cons_zero]; rfl)
    case hy9 => exact Or.inl ⟨by rfl, by intro w hSw; (try dsimp only at hSw); (first | (go_simp; done) | (go_simp; with_reducible rfl))⟩
    (try simp only [Act.put, List.setIfInBounds_toArray, List.set_cons_zero, List.set_cons_succ])
    refine wpAnyH_take (i := 10) (oi := ?oi10) (v := undef) ?hi10 (by kernel_rfl) (by kernel_rfl) (by kernel_rfl) (fun _ _ _ h => h) ?hy10 (by assumption) ?rest10
    case hi10 => (simp only [List.getElem?_toArray, List.getElem?_cons_succ, List.getElem?_cons_zero]; rfl)
    case hy10 => exact Or.inr ⟨by rfl, rfl⟩
    (try simp only [Act.put, List.setIfInBounds_toArray, List.set_cons_zero, List.set_cons_succ])
    refine wpAnyH_take (i := 11) (oi := ?oi11) (v := undef) ?hi11 (by kernel_rfl) (by kernel_rfl) (by kernel_rfl) (fun _ _ _ h => h) ?hy11 (by assumption) ?rest11
    case hi11 => (simp only [List.getElem?_toArray, List.getElem?_cons_succ, List.getElem?_cons_zero]; rfl)
    case hy11 => exact Or.inr ⟨by rfl, rfl⟩
    (try simp only [Act.put, List.setIfInBounds_toArray, List.set_cons_zero, List.set_cons_succ])
    refine wpAnyH_take (i := 12) (oi := ?oi12) (v := undef) ?hi12 (by kernel_rfl) (by kernel_rfl) (by kernel_rfl) (fun _ _ _ h => h) ?hy12 (by assumption) ?rest12
    case hi12 => (simp only [List.getElem?_toArray, List.getElem?_cons_succ, List.getElem?_cons_zero]; rfl)
    case hy12 => exact Or.inr ⟨by rfl, rfl⟩
    (try simp only [Act.put, List.setIfInBounds_toArray, List.set_cons_zero, List.set_cons_succ])
    refine wpAnyH_take (i := 13) (oi := ?oi13) (v := ?v13) ?hi13 (by kernel_rfl) (by kernel_rfl) (by kernel_rfl) (fun _ _ _ h => h) ?hy13 (by assumption) ?rest13
    case hi13 => (simp only [List.getElem?_toArray, List.getElem?_cons_succ, List.getElem?_cons_zero]; rfl)
    case hy13 => exact Or.inl ⟨by rfl, by intro w hSw; (try dsimp only at hSw); (first | (go_simp; done) | (go_simp; with_reducible rfl))⟩
    (try simp only [Act.put, List.setIfInBounds_toArray, List.set_cons_zero, List.set_cons_succ])
    refine wpAnyH_ready (rs := [14]) (by kernel_rfl) (by simp) ?_
    refine AllReadyH.cons rfl (fun K hK => ?_) AllReadyH.nil
    go_simp
    refine hK.out _ _ ?_ (fun hNew => ?_)
    · (try dsimp only); refine HS _ ?_; (first | (with_reducible assumption) | (with_reducible exact Below.drew (by assumption)) | (with_reducible exact Below.mono (by assumption) (Nat.le_of_lt hl)) | (with_reducible exact Below.drew (Below.mono (by assumption) (Nat.le_of_lt hl))) | (with_reducible exact bSet6 (by assumption) _ (Nat.le_refl _) _ _ _ _ _ _) | (with_reducible exact bSet6 (Below.mono hb7 (Nat.le_of_lt hl)) _ (Nat.le_refl _) _ _ _ _ _ _))
    clear hHeld hK K
    have hHeld := hNew
    clear hNew
    (try simp only [Act.put, List.setIfInBounds_toArray, List.set_cons_zero, List.set_cons_succ])
    refine wpAnyH_ready (rs := [15]) (by kernel_rfl) (by simp) ?_
    refine AllReadyH.cons rfl (fun K hK => ?_) AllReadyH.nil
    ((go_simp); (go_at_call 29; refine (changed31_B x false full ti si (w.heap.size + 1 + 1) (w.heap.size + 1) r er W5 _ HF.out HT.out HSI.out HRI (by omega) (by omega) h1.out h2.out ?_).mono ?_; (first | (with_reducible assumption) | (with_reducible exact Below.drew (by assumption)) | (with_reducible exact bAlloc (by assumption) _) | (with_reducible exact Below.drew (bAlloc (by assumption) _))); rintro e w7 ⟨rfl, hbb7, hb7⟩; clear hbb7; obtain ⟨zl, z0, z1, z2, z3, z4, z5, zf⟩ := BW.kept HZ.out hb7); (try go_wp2_with fail))
    refine hK.out _ _ ?_ (fun hNew => ?_)
    · (try dsimp only); refine HS _ ?_; (first | (with_reducible assumption) | (with_reducible exact Below.drew (by assumption)) | (with_reducible exact Below.mono (by assumption) (Nat.le_of_lt hl)) | (with_reducible exact Below.drew (Below.mono (by assumption) (Nat.le_of_lt hl))) | (with_reducible exact bSet6 (by assumption) _ (Nat.le_refl _) _ _ _ _ _ _) | (with_reducible exact bSet6 (Below.mono hb7 (Nat.le_of_lt hl)) _ (Nat.le_refl _) _ _ _ _ _ _))
    clear hHeld hK K
    have hHeld := hNew
    clear hNew
    (try simp only [Act.put, List.setIfInBounds_toArray, List.set_cons_zero, List.set_cons_succ])
    refine wpAnyH_take (i := 16) (oi := ?oi14) (v := ?v14) ?hi14 (by kernel_rfl) (by kernel_rfl) (by kernel_rfl) (fun _ _ _ h => h) ?hy14 (by assumption) ?rest14
    case hi14 => (simp only [List.getElem?_toArray, List.getElem?_cons_succ, List.getElem?_cons_zero]; rfl)
    case hy14 => exact Or.inl ⟨by rfl, by intro w hSw; (try dsimp only at hSw); (first | (go_simp; done) | (go_simp; with_reducible rfl))⟩
    (try simp only [Act.put, List.setIfInBounds_toArray, List.set_cons_zero, List.set_cons_succ])
    refine wpAnyH_take (i := 17) (oi := ?oi15) (v := ?v15) ?hi15 (by kernel_rfl) (by kernel_rfl) (by kernel_rfl) (fun _ _ _ h => h) ?hy15 (by assumption) ?rest15
    case hi15 => (simp only [List.getElem?_toArray, List.getElem?_cons_succ, List.getElem?_cons_zero]; rfl)
    case hy15 => exact Or.inl ⟨by rfl, by intro w hSw; (try dsimp only at hSw); (first | (go_simp; done) | (go_simp; with_reducible rfl))⟩
    (try simp only [Act.put, List.setIfInBounds_toArray, List.set_cons_zero, List.set_cons_succ])
    refine wpAnyH_ready (rs := [18]) (by kernel_rfl) (by simp) ?_
    refine AllReadyH.cons rfl (fun K hK => ?_) AllReadyH.nil
    go_simp
    refine hK.out _ _ ?_ (fun hNew => ?_)
    · (try dsimp only); refine HS _ ?_; (first | (with_reducible assumption) | (with_reducible exact Below.drew (by assumption)) | (with_reducible exact Below.mono (by assumption) (Nat.le_of_lt hl)) | (with_reducible exact Below.drew (Below.mono (by assumption) (Nat.le_of_lt hl))) | (with_reducible exact bSet6 (by assumption) _ (Nat.le_refl _) _ _ _ _ _ _) | (with_reducible exact bSet6 (Below.mono hb7 (Nat.le_of_lt hl)) _ (Nat.le_refl _) _ _ _ _ _ _))
    clear hHeld hK K
    have hHeld := hNew
    clear hNew
    (try simp only [Act.put, List.setIfInBounds_toArray, List.set_cons_zero, List.set_cons_succ])
    refine wpAnyH_take (i := 19) (oi := ?oi16) (v := ?v16) ?hi16 (by kernel_rfl) (by kernel_rfl) (by kernel_rfl) (fun _ _ _ h => h) ?hy16 (by assumption) ?rest16
    case hi16 => (simp only [List.getElem?_toArray, List.getElem?_cons_succ, List.getElem?_cons_zero]; rfl)
    case hy16 => exact Or.inl ⟨by rfl, by intro w hSw; (try dsimp only at hSw); (first | (go_simp; done) | (go_simp; with_reducible rfl))⟩
    (try simp only [Act.put, List.setIfInBounds_toArray, List.set_cons_zero, List.set_cons_succ])
    refine wpAnyH_done (by kernel_rfl) ?_ _
    refine NoPanic.normal ?_
    all_goals (skip)
    have hH := hHeld
    have HH := Lib.hid hH
    clear hH hHeld
    go_wp2_with fail
    refine bodyPost_ret (by simp [results, Try.results14, go_sem, z0, z1, z2, z3, z4, z5]; rfl) rfl ?_
    exact ⟨rfl, hB5.trans (HH.out.2.2.2.mono (by omega))⟩
  · go_simp
    refine hK.out _ _ ?_ (fun hNew => ?_)
    · (try dsimp only); refine HS _ ?_; (first | (with_reducible assumption) | (with_reducible exact Below.drew (by assumption)) | (with_reducible exact Below.mono (by assumption) (Nat.le_of_lt hl)) | (with_reducible exact Below.drew (Below.mono (by assumption) (Nat.le_of_lt hl))) | (with_reducible exact bSet6 (by assumption) _ (Nat.le_refl _) _ _ _ _ _ _) | (with_reducible exact bSet6 (Below.mono hb7 (Nat.le_of_lt hl)) _ (Nat.le_refl _) _ _ _ _ _ _))
    clear hHeld hK K
    have hHeld := hNew
    clear hNew
    (try simp only [Act.put, List.setIfInBounds_toArray, List.set_cons_zero, List.set_cons_succ])
    refine wpAnyH_ready (rs := [3]) (by kernel_rfl) (by simp) ?_
    refine AllReadyH.cons rfl (fun K hK => ?_) AllReadyH.nil
    ((go_simp); (go_at_call 30; refine (isTime_is _ _ _ HTI).mono ?_; rintro e w' ⟨rfl, rfl⟩))
    refine hK.out _ _ ?_ (fun hNew => ?_)
    · (try dsimp only); refine HS _ ?_; (first | (with_reducible assumption) | (with_reducible exact Below.drew (by assumption)) | (with_reducible exact Below.mono (by assumption) (Nat.le_of_lt hl)) | (with_reducible exact Below.drew (Below.mono (by assumption) (Nat.le_of_lt hl))) | (with_reducible exact bSet6 (by assumption) _ (Nat.le_refl _) _ _ _ _ _ _) | (with_reducible exact bSet6 (Below.mono hb7 (Nat.le_of_lt hl)) _ (Nat.le_refl _) _ _ _ _ _ _))
    clear hHeld hK K
    have hHeld := hNew
    clear hNew
    (try simp only [Act.put, List.setIfInBounds_toArray, List.set_cons_zero, List.set_cons_succ])
    refine wpAnyH_take (i := 4) (oi := ?oi17) (v := ?v17) ?hi17 (by kernel_rfl) (by kernel_rfl) (by kernel_rfl) (fun _ _ _ h => h) ?hy17 (by assumption) ?rest17
    case hi17 => (simp only [List.getElem?_toArray, List.getElem?_cons_succ, List.getElem?_cons_zero]; rfl)
    case hy17 => exact Or.inl ⟨by rfl, by intro w hSw; (try dsimp only at hSw); (first | (go_simp; done) | (go_simp; with_reducible rfl))⟩
    (try simp only [Act.put, List.setIfInBounds_toArray, List.set_cons_zero, List.set_cons_succ])
    refine wpAnyH_take (i := 5) (oi := ?oi18) (v := undef) ?hi18 (by kernel_rfl) (by kernel_rfl) (by kernel_rfl) (fun _ _ _ h => h) ?hy18 (by assumption) ?rest18
    case hi18 => (simp only [List.getElem?_toArray, List.getElem?_cons_succ, List.getElem?_cons_zero]; rfl)
    case hy18 => exact Or.inr ⟨by rfl, rfl⟩
    (try simp only [Act.put, List.setIfInBounds_toArray, List.set_cons_zero, List.set_cons_succ])
    refine wpAnyH_take (i := 6) (oi := ?oi19) (v := undef) ?hi19 (by kernel_rfl) (by kernel_rfl) (by kernel_rfl) (fun _ _ _ h => h) ?hy19 (by assumption) ?rest19
    case hi19 => (simp only [List.getElem?_toArray, List.getElem?_cons_succ, List.getElem?_cons_zero]; rfl)
    case hy19 => exact Or.inr ⟨by rfl, rfl⟩
    (try simp only [Act.put, List.setIfInBounds_toArray, List.set_cons_zero, List.set_cons_succ])
    refine wpAnyH_take (i := 7) (oi := ?oi20) (v := undef) ?hi20 (by kernel_rfl) (by kernel_rfl) (by kernel_rfl) (fun _ _ _ h => h) ?hy20 (by assumption) ?rest20
    case hi20 => (simp only [List.getElem?_toArray, List.getElem?_cons_succ, List.getElem?_cons_zero]; rfl)
    case hy20 => exact Or.inr ⟨by rfl, rfl⟩
    (try simp only [Act.put, List.setIfInBounds_toArray, List.set_cons_zero, List.set_cons_succ])
    refine wpAnyH_take (i := 8) (oi := ?oi21) (v := ?v21) ?hi21 (by kernel_rfl) (by kernel_rfl) (by kernel_rfl) (fun _ _ _ h => h) ?hy21 (by assumption) ?rest21
    case hi21 => (simp only [List.getElem?_toArray, List.getElem?_cons_succ, List.getElem?_cons_zero]; rfl)
    case hy21 => exact Or.inl ⟨by rfl, by intro w hSw; (try dsimp only at hSw); (first | (go_simp; done) | (go_simp; with_reducible rfl))⟩
    (try simp only [Act.put, List.setIfInBounds_toArray, List.set_cons_zero, List.set_cons_succ])
    refine wpAnyH_take (i := 9) (oi := ?oi22) (v := ?v22) ?hi22 (by kernel_rfl) (by kernel_rfl) (by kernel_rfl) (fun _ _ _ h => h) ?hy22 (by assumption) ?rest22
    case hi22 => (simp only [List.getElem?_toArray, List.getElem?_cons_succ, List.getElem?_cons_zero]; rfl)
    case hy22 => exact Or.inl ⟨by rfl, by intro w hSw; (try dsimp only at hSw); (first | (go_simp; done) | (go_simp; with_reducible rfl))⟩
    (try simp only [Act.put, List.setIfInBounds_toArray, List.set_cons_zero, List.set_cons_succ])
    refine wpAnyH_take (i := 10) (oi := ?oi23) (v := undef) ?hi23 (by kernel_rfl) (by kernel_rfl) (by kernel_rfl) (fun _ _ _ h => h) ?hy23 (by assumption) ?rest23
    case hi23 => (simp only [List.getElem?_toArray, List.getElem?_cons_succ, List.getElem?_cons_zero]; rfl)
    case hy23 => exact Or.inr ⟨by rfl, rfl⟩
    (try simp only [Act.put, List.setIfInBounds_toArray, List.set_cons_zero, List.set_cons_succ])
    refine wpAnyH_take (i := 11) (oi := ?oi24) (v := undef) ?hi24 (by kernel_rfl) (by kernel_rfl) (by kernel_rfl) (fun _ _ _ h => h) ?hy24 (by assumption) ?rest24
    case hi24 => (simp only [List.getElem?_toArray, List.getElem?_cons_succ, List.getElem?_cons_zero]; rfl)
    case hy24 => exact Or.inr ⟨by rfl, rfl⟩
    (try simp only [Act.put, List.setIfInBounds_toArray, List.set_cons_zero, List.set_cons_succ])
    refine wpAnyH_take (i := 12) (oi := ?oi25) (v := undef) ?hi25 (by kernel_rfl) (by kernel_rfl) (by kernel_rfl) (fun _ _ _ h => h) ?hy25 (by assumption) ?rest25
    case hi25 => (simp only [List.getElem?_toArray, List.getElem?_cons_succ, List.getElem?_cons_zero]; rfl)
    case hy25 => exact Or.inr ⟨by rfl, rfl⟩
    (try simp only [Act.put, List.setIfInBounds_toArray, List.set_cons_zero, List.set_cons_succ])
    refine wpAnyH_take (i := 13) (oi := ?oi26) (v := ?v26) ?hi26 (by kernel_rfl) (by kernel_rfl) (by kernel_rfl) (fun _ _ _ h => h) ?hy26 (by assumption) ?rest26
    case hi26 => (simp only [List.getElem?_toArray, List.getElem?_cons_succ, List.getElem?_cons_zero]; rfl)
    case hy26 => exact Or.inl ⟨by rfl, by intro w hSw; (try dsimp only at hSw); (first | (go_simp; done) | (go_simp; with_reducible rfl))⟩
    (try simp only [Act.put, List.setIfInBounds_toArray, List.set_cons_zero, List.set_cons_succ])
    refine wpAnyH_ready (rs := [15]) (by kernel_rfl) (by simp) ?_
    refine AllReadyH.cons rfl (fun K hK => ?_) AllReadyH.nil
    ((go_simp); (go_at_call 29; refine (changed31_B x false full ti si (w.heap.size + 1 + 1) (w.heap.size + 1) r er W5 _ HF.out HT.out HSI.out HRI (by omega) (by omega) h1.out h2.out ?_).mono ?_; (first | (with_reducible assumption) | (with_reducible exact Below.drew (by assumption)) | (with_reducible exact bAlloc (by assumption) _) | (with_reducible exact Below.drew (bAlloc (by assumption) _))); rintro e w7 ⟨rfl, hbb7, hb7⟩; clear hbb7; obtain ⟨zl, z0, z1, z2, z3, z4, z5, zf⟩ := BW.kept HZ.out hb7); (try go_wp2_with fail))
    refine hK.out _ _ ?_ (fun hNew => ?_)
    · (try dsimp only); refine HS _ ?_; (first | (with_reducible assumption) | (with_reducible exact Below.drew (by assumption)) | (with_reducible exact Below.mono (by assumption) (Nat.le_of_lt hl)) | (with_reducible exact Below.drew (Below.mono (by assumption) (Nat.le_of_lt hl))) | (with_reducible exact bSet6 (by assumption) _ (Nat.le_refl _) _ _ _ _ _ _) | (with_reducible exact bSet6 (Below.mono hb7 (Nat.le_of_lt hl)) _ (Nat.le_refl _) _ _ _ _ _ _))
    clear hHeld hK K
    have hHeld := hNew
    clear hNew
    (try simp only [Act.put, List.setIfInBounds_toArray, List.set_cons_zero, List.set_cons_succ])
    refine wpAnyH_take (i := 16) (oi := ?oi27) (v := ?v27) ?hi27 (by kernel_rfl) (by kernel_rfl) (by kernel_rfl) (fun _ _ _ h => h) ?hy27 (by assumption) ?rest27
    case hi27 => (simp only [List.getElem?_toArray, List.getElem?_cons_succ, List.getElem?_cons_zero]; rfl)
    case hy27 => exact Or.inl ⟨by rfl, by intro w hSw; (try dsimp only at hSw); (first | (go_simp; done) | (go_simp; with_reducible rfl))⟩
    (try simp only [Act.put, List.setIfInBounds_toArray, List.set_cons_zero, List.set_cons_succ])
    refine wpAnyH_take (i := 17) (oi := ?oi28) (v := ?v28) ?hi28 (by kernel_rfl) (by kernel_rfl) (by kernel_rfl) (fun _ _ _ h => h) ?hy28 (by assumption) ?rest28
    case hi28 => (simp only [List.getElem?_toArray, List.getElem?_cons_succ, List.getElem?_cons_zero]; rfl)
    case hy28 => exact Or.inl ⟨by rfl, by intro w hSw; (try dsimp only at hSw); (first | (go_simp; done) | (go_simp; with_reducible rfl))⟩
    (try simp only [Act.put, List.setIfInBounds_toArray, List.set_cons_zero, List.set_cons_succ])
    refine wpAnyH_ready (rs := [18]) (by kernel_rfl) (by simp) ?_
    refine AllReadyH.cons rfl (fun K hK => ?_) AllReadyH.nil
    go_simp
    refine hK.out _ _ ?_ (fun hNew => ?_)
    · (try dsimp only); refine HS _ ?_; (first | (with_reducible assumption) | (with_reducible exact Below.drew (by assumption)) | (with_reducible exact Below.mono (by assumption) (Nat.le_of_lt hl)) | (with_reducible exact Below.drew (Below.mono (by assumption) (Nat.le_of_lt hl))) | (with_reducible exact bSet6 (by assumption) _ (Nat.le_refl _) _ _ _ _ _ _) | (with_reducible exact bSet6 (Below.mono hb7 (Nat.le_of_lt hl)) _ (Nat.le_refl _) _ _ _ _ _ _))
    clear hHeld hK K
    have hHeld := hNew
    clear hNew
    (try simp only [Act.put, List.setIfInBounds_toArray, List.set_cons_zero, List.set_cons_succ])
    refine wpAnyH_take (i := 19) (oi := ?oi29) (v := ?v29) ?hi29 (by kernel_rfl) (by kernel_rfl) (by kernel_rfl) (fun _ _ _ h => h) ?hy29 (by assumption) ?rest29
    case hi29 => (simp only [List.getElem?_toArray, List.getElem?_cons_succ, List.getElem?_cons_zero]; rfl)
    case hy29 => exact Or.inl ⟨by rfl, by intro w hSw; (try dsimp only at hSw); (first | (go_simp; done) | (go_simp; with_reducible rfl))⟩
    (try simp only [Act.put, List.setIfInBounds_toArray, List.set_cons_zero, List.set_cons_succ])
    refine wpAnyH_done (by kernel_rfl) ?_ _
    refine NoPanic.normal ?_
    all_goals (skip)
    have hH := hHeld
    have HH := Lib.hid hH
    clear hH hHeld
    go_wp2_with fail
    refine bodyPost_ret (by simp [results, Try.results14, go_sem, z0, z1, z2, z3, z4, z5]; rfl) rfl ?_
    exact ⟨rfl, hB5.trans (HH.out.2.2.2.mono (by omega))⟩
set_option maxRecDepth 100000 in
set_option maxHeartbeats 4000000 in
theorem wacked_s0 (x : Win) (nu ti si : Int) (b1 b2 b3 full : Bool) (r : Win) (er : Int) (w : World) (ht : 0 ≤ ti ∧ ti ≤ 9007199254740991) (s1 : si < 1) (h1 : Hid (chW x (acked x ti si full) false = r)) (h2 : Hid (chE x false = er)) :
    Calls Try.prog 14 #[.agg #[.int .i64 x.d, .int .i64 x.m, .int .i64 x.c, .int .i64 x.t, .int .i64 x.s, .int .i64 x.g], .agg #[.int .i64 nu, .int .i64 ti, .int .i64 si, .bool b1, .bool b2, .bool b3], .bool full] w fun e w' => e = .returned (.tuple #[.agg #[.int .i64 r.d, .int .i64 r.m, .int .i64 r.c, .int .i64 r.t, .int .i64 r.s, .int .i64 r.g], .int .i64 er]) ∧ Below w.heap.size w w' := by
  have s3 : decide (1 ≤ si) = false := by rw [decide_eq_false_iff_not]; omega
  have HTI : Hid (decide (0 ≤ ti ∧ ti ≤ 9007199254740991) = true) := decide_eq_true ht
  have HRI : RI false si := fun h => by cases h
  clear ht
  go_enter Try.func14, Try.ntmps14
  go_wp2_with fail
  obtain ⟨W5, hW5⟩ : ∃ W, ((((w.alloc (.cells #[.int .i64 x.d, .int .i64 x.m, .int .i64 x.c, .int .i64 x.t, .int .i64 x.s, .int .i64 x.g] 26)).alloc (.cells #[.int .i64 nu, .int .i64 ti, .int .i64 si, .bool b1, .bool b2, .bool b3] 34)).alloc (.cells #[.bool full] 4)).alloc (.cells #[.int .i64 0, .int .i64 0, .int .i64 0, .int .i64 0, .int .i64 0, .int .i64 0] 26)) = W := ⟨_, rfl⟩
  rw [hW5]
  have hX : BW W5 w.heap.size x := hW5 ▸ (((BW.new w x 26).alloc _).alloc _).alloc _
  have hZ : BW W5 (w.heap.size + 1 + 1 + 1) zero := by
    rw [← hW5]
    have h0 := Bx.new (((w.alloc (.cells #[.int .i64 x.d, .int .i64 x.m, .int .i64 x.c, .int .i64 x.t, .int .i64 x.s, .int .i64 x.g] 26)).alloc (.cells #[.int .i64 nu, .int .i64 ti, .int .i64 si, .bool b1, .bool b2, .bool b3] 34)).alloc (.cells #[.bool full] 4)) 0 0 0 0 0 0 26
    show Bx _ _ 0 0 0 0 0 0
    simpa using h0
  have HT : Hid (W5.cell? ⟨w.heap.size + 1, 1, none⟩ = some (.int .i64 ti)) := Lib.hid (show W5.cell? ⟨w.heap.size + 1, 1, none⟩ = some (.int .i64 ti) by rw [← hW5]; exact cell_old (cell_old (by simp) (by simp)) (by simp <;> omega))
  have HSI : Hid (W5.cell? ⟨w.heap.size + 1, 2, none⟩ = some (.int .i64 si)) := Lib.hid (show W5.cell? ⟨w.heap.size + 1, 2, none⟩ = some (.int .i64 si) by rw [← hW5]; exact cell_old (cell_old (by simp) (by simp)) (by simp <;> omega))
  have HF : Hid (W5.cell? ⟨w.heap.size + 1 + 1, 0, none⟩ = some (.bool full)) := Lib.hid (show W5.cell? ⟨w.heap.size + 1 + 1, 0, none⟩ = some (.bool full) by rw [← hW5]; exact cell_old (cell_new (by simp)) (by simp))
  have hB5 : Below w.heap.size w W5 := hW5 ▸ (by go_grown)
  have hl : w.heap.size + 1 + 1 + 1 < W5.heap.size := by rw [← hW5]; simp only [World.size_alloc]; omega
  clear hW5
  have HS : ∀ w', Below (w.heap.size + 1 + 1 + 1) W5 w' → (w'.cell? ⟨w.heap.size, 0, none⟩ = some (.int .i64 x.d) ∧ w'.cell? ⟨w.heap.size, 1, none⟩ = some (.int .i64 x.m) ∧ w'.cell? ⟨w.heap.size, 2, none⟩ = some (.int .i64 x.c) ∧ w'.cell? ⟨w.heap.size, 3, none⟩ = some (.int .i64 x.t) ∧ w'.cell? ⟨w.heap.size, 4, none⟩ = some (.int .i64 x.s) ∧ w'.cell? ⟨w.heap.size, 5, none⟩ = some (.int .i64 x.g)) ∧ (w'.cell? ⟨w.heap.size + 1, 1, none⟩ = some (.int .i64 ti)) ∧ (w'.cell? ⟨w.heap.size + 1, 2, none⟩ = some (.int .i64 si)) ∧ Below (w.heap.size + 1 + 1 + 1) W5 w' := fun w' hb => by
    obtain ⟨_, k0, k1, k2, k3, k4, k5, kf⟩ := BW.keptB hX hb (by omega)
    exact ⟨⟨k0, k1, k2, k3, k4, k5⟩, oldcellB HT.out hb (by omega), oldcellB HSI.out hb (by omega), hb⟩
  have hbR := Below.refl W5.heap.size W5
  have HZ := Lib.hid hZ
  clear hZ
  refine wp_region_noPanic ?_
  refine wp_region_held_drew (S := (fun w' => (w'.cell? ⟨w.heap.size, 0, none⟩ = some (.int .i64 x.d) ∧ w'.cell? ⟨w.heap.size, 1, none⟩ = some (.int .i64 x.m) ∧ w'.cell? ⟨w.heap.size, 2, none⟩ = some (.int .i64 x.c) ∧ w'.cell? ⟨w.heap.size, 3, none⟩ = some (.int .i64 x.t) ∧ w'.cell? ⟨w.heap.size, 4, none⟩ = some (.int .i64 x.s) ∧ w'.cell? ⟨w.heap.size, 5, none⟩ = some (.int .i64 x.g)) ∧ (w'.cell? ⟨w.heap.size + 1, 1, none⟩ = some (.int .i64 ti)) ∧ (w'.cell? ⟨w.heap.size + 1, 2, none⟩ = some (.int .i64 si)) ∧ Below (w.heap.size + 1 + 1 + 1) W5 w')) (by kernel_rfl) ?_ (fun hHeld => ?_)
  · (try dsimp only); refine HS _ ?_; (first | (with_reducible assumption) | (with_reducible exact Below.drew (by assumption)) | (with_reducible exact Below.mono (by assumption) (Nat.le_of_lt hl)) | (with_reducible exact Below.drew (Below.mono (by assumption) (Nat.le_of_lt hl))) | (with_reducible exact bSet6 (by assumption) _ (Nat.le_refl _) _ _ _ _ _ _) | (with_reducible exact bSet6 (Below.mono hb7 (Nat.le_of_lt hl)) _ (Nat.le_refl _) _ _ _ _ _ _))
  refine wpAnyH_take (i := 0) (oi := ?oi1) (v := ?v1) ?hi1 (by kernel_rfl) (by kernel_rfl) (by kernel_rfl) (fun _ _ _ h => h) ?hy1 (by assumption) ?rest1
  case hi1 => (simp only [List.getElem?_toArray, List.getElem?_cons_succ, List.getElem?_cons_zero]; rfl)
  case hy1 => exact Or.inl ⟨by rfl, by intro w hSw; (try dsimp only at hSw); (first | (go_simp; done) | (go_simp; with_reducible rfl))⟩
  (try simp only [Act.put, List.setIfInBounds_toArray, List.set_cons_zero, List.set_cons_succ])
  refine wpAnyH_take (i := 1) (oi := ?oi2) (v := ?v2) ?hi2 (by kernel_rfl) (by kernel_rfl) (by kernel_rfl) (fun _ _ _ h => h) ?hy2 (by assumption) ?rest2
  case hi2 => (simp only [List.getElem?_toArray, List.getElem?_cons_succ, List.getElem?_cons_zero]; rfl)
  case hy2 => exact Or.inl ⟨by rfl, by intro w hSw; (try dsimp only at hSw); (first | (go_simp; done) | (go_simp; with_reducible rfl))⟩
  (try simp only [Act.put, List.setIfInBounds_toArray, List.set_cons_zero, List.set_cons_succ])
  refine wpAnyH_take (i := 2) (oi := ?oi3) (v := ?v3) ?hi3 (by kernel_rfl) (by kernel_rfl) (by kernel_rfl) (fun _ _ _ h => h) ?hy3 (by assumption) ?rest3
  case hi3 => (simp only [List.getElem?_toArray, List.getElem?_cons_succ, List.getElem?_cons_zero]; rfl)
  case hy3 => exact Or.inl ⟨by rfl, by intro w hSw; (try dsimp only at hSw); (first | (go_simp; done) | (go_simp; with_reducible rfl))⟩
  (try simp only [Act.put, List.setIfInBounds_toArray, List.set_cons_zero, List.set_cons_succ])
  refine wpAnyH_ready (rs := [3, 14]) (by kernel_rfl) (by simp) ?_
  refine AllReadyH.cons rfl (fun K hK => ?_) (AllReadyH.cons rfl (fun K hK => ?_) AllReadyH.nil)
  · ((go_simp); (go_at_call 30; refine (isTime_is _ _ _ HTI).mono ?_; rintro e w' ⟨rfl, rfl⟩))
    refine hK.out _ _ ?_ (fun hNew => ?_)
    · (try dsimp only); refine HS _ ?_; (first | (with_reducible assumption) | (with_reducible exact Below.drew (by assumption)) | (with_reducible exact Below.mono (by assumption) (Nat.le_of_lt hl)) | (with_reducible exact Below.drew (Below.mono (by assumption) (Nat.le_of_lt hl))) | (with_reducible exact bSet6 (by assumption) _ (Nat.le_refl _) _ _ _ _ _ _) | (with_reducible exact bSet6 (Below.mono hb7 (Nat.le_of_lt hl)) _ (Nat.le_refl _) _ _ _ _ _ _))
    clear hHeld hK K
    have hHeld := hNew
    clear hNew
    (try simp only [Act.put, List.setIfInBounds_toArray, List.set_cons_zero, List.set_cons_succ])
    refine wpAnyH_take (i := 4) (oi := ?oi4) (v := ?v4) ?hi4 (by kernel_rfl) (by kernel_rfl) (by kernel_rfl) (fun _ _ _ h => h) ?hy4 (by assumption) ?rest4
    case hi4 => (simp only [List.getElem?_toArray, List.getElem?_cons_succ, List.getElem?_cons_zero]; rfl)
    case hy4 => exact Or.inl ⟨by rfl, by intro w hSw; (try dsimp only at hSw); (first | (go_simp; done) | (go_simp; with_reducible rfl))⟩
    (try simp only [Act.put, List.setIfInBounds_toArray, List.set_cons_zero, List.set_cons_succ])
    refine wpAnyH_take (i := 5) (oi := ?oi5) (v := ?v5) ?hi5 (by kernel_rfl) (by kernel_rfl) (by kernel_rfl) (fun _ _ _ h => h) ?hy5 (by assumption) ?rest5
    case hi5 => (simp only [List.getElem?_toArray, List.getElem?_cons_succ, List.getElem?_cons_zero]; rfl)
    case hy5 => exact Or.inl ⟨by rfl, by intro w hSw; (try dsimp only at hSw); (first | (go_simp; done) | (go_simp; with_reducible rfl))⟩
    (try simp only [Act.put, List.setIfInBounds_toArray, List.set_cons_zero, List.set_cons_succ])
    refine wpAnyH_take (i := 6) (oi := ?oi6) (v := ?v6) ?hi6 (by kernel_rfl) (by kernel_rfl) (by kernel_rfl) (fun _ _ _ h => h) ?hy6 (by assumption) ?rest6
    case hi6 => (simp only [List.getElem?_toArray, List.getElem?_cons_succ, List.getElem?_cons_zero]; rfl)
    case hy6 => exact Or.inl ⟨by rfl, by intro w hSw; (try dsimp only at hSw); (first | (go_simp; done) | (go_simp; with_reducible rfl))⟩
    (try simp only [Act.put, List.setIfInBounds_toArray, List.set_cons_zero, List.set_cons_succ])
    refine wpAnyH_take (i := 7) (oi := ?oi7) (v := ?v7) ?hi7 (by kernel_rfl) (by kernel_rfl) (by kernel_rfl) (fun _ _ _ h => h) ?hy7 (by assumption) ?rest7
    case hi7 => (simp only [List.getElem?_toArray, List.getElem?_cons_succ, List.getElem?_cons_zero]; rfl)
    case hy7 => exact Or.inl ⟨by rfl, by intro w hSw; (try dsimp only at hSw); (first | (go_simp; done) | (go_simp; with_reducible rfl))⟩
    (try simp only [Act.put, List.setIfInBounds_toArray, List.set_cons_zero, List.set_cons_succ])
    refine wpAnyH_take (i := 8) (oi := ?oi8) (v := ?v8) ?hi8 (by kernel_rfl) (by kernel_rfl) (by kernel_rfl) (fun _ _ _ h => h) ?hy8 (by assumption) ?rest8
    case hi8 => (simp only [List.getElem?_toArray, List.getElem?_cons_succ, List.getElem?_cons_zero]; rfl)
    case hy8 => exact Or.inl ⟨by rfl, by intro w hSw; (try dsimp only at hSw); (first | (go_simp; done) | (go_simp; with_reducible rfl))⟩
    (try simp only [Act.put, List.setIfInBounds_toArray, List.set_cons_zero, List.set_cons_succ])
    refine wpAnyH_take (i := 9) (oi := ?oi9) (v := ?v9) ?hi9 (by kernel_rfl) (by kernel_rfl) (by kernel_rfl) (fun _ _ _ h => h) ?hy9 (by assumption) ?rest9
    case hi9 => (simp only [List.getElem?_toArray, List.getElem?_cons_succ, List.getElem?_cons_zero]; rfl)
    case hy9 => exact Or.inl ⟨by rfl, by intro w hSw; (try dsimp only at hSw); (first | (go_simp; done) | (go_simp; with_reducible rfl))⟩
    (try simp only [Act.put, List.setIfInBounds_toArray, List.set_cons_zero, List.set_cons_succ])
    refine wpAnyH_take (i := 10) (oi := ?oi10) (v := undef) ?hi10 (by kernel_rfl) (by kernel_rfl) (by kernel_rfl) (fun _ _ _ h => h) ?hy10 (by assumption) ?rest10
    case hi10 => (simp only [List.getElem?_toArray, List.getElem?_cons_succ, List.getElem?_cons_zero]; rfl)
    case hy10 => exact Or.inr ⟨by rfl, rfl⟩
    (try simp only [Act.put, List.setIfInBounds_toArray, List.set_cons_zero, List.set_cons_succ])
    refine wpAnyH_take (i := 11) (oi := ?oi11) (v := undef) ?hi11 (by kernel_rfl) (by kernel_rfl) (by kernel_rfl) (fun _ _ _ h => h) ?hy11 (by assumption) ?rest11
    case hi11 => (simp only [List.getElem?_toArray, List.getElem?_cons_succ, List.getElem?_cons_zero]; rfl)
    case hy11 => exact Or.inr ⟨by rfl, rfl⟩
    (try simp only [Act.put, List.setIfInBounds_toArray, List.set_cons_zero, List.set_cons_succ])
    refine wpAnyH_take (i := 12) (oi := ?oi12) (v := undef) ?hi12 (by kernel_rfl) (by kernel_rfl) (by kernel_rfl) (fun _ _ _ h => h) ?hy12 (by assumption) ?rest12
    case hi12 => (simp only [List.getElem?_toArray, List.getElem?_cons_succ, List.getElem?_cons_zero]; rfl)
    case hy12 => exact Or.inr ⟨by rfl, rfl⟩
    (try simp only [Act.put, List.setIfInBounds_toArray, List.set_cons_zero, List.set_cons_succ])
    refine wpAnyH_take (i := 13) (oi := ?oi13) (v := ?v13) ?hi13 (by kernel_rfl) (by kernel_rfl) (by kernel_rfl) (fun _ _ _ h => h) ?hy13 (by assumption) ?rest13
    case hi13 => (simp only [List.getElem?_toArray, List.getElem?_cons_succ, List.getElem?_cons_zero]; rfl)
    case hy13 => exact Or.inl ⟨by rfl, by intro w hSw; (try dsimp only at hSw); (first | (go_simp; done) | (go_simp; with_reducible rfl))⟩
    (try simp only [Act.put, List.setIfInBounds_toArray, List.set_cons_zero, List.set_cons_succ])
    refine wpAnyH_ready (rs := [14]) (by kernel_rfl) (by simp) ?_
    refine AllReadyH.cons rfl (fun K hK => ?_) AllReadyH.nil
    go_simp
    refine hK.out _ _ ?_ (fun hNew => ?_)
    · (try dsimp only); refine HS _ ?_; (first | (with_reducible assumption) | (with_reducible exact Below.drew (by assumption)) | (with_reducible exact Below.mono (by assumption) (Nat.le_of_lt hl)) | (with_reducible exact Below.drew (Below.mono (by assumption) (Nat.le_of_lt hl))) | (with_reducible exact bSet6 (by assumption) _ (Nat.le_refl _) _ _ _ _ _ _) | (with_reducible exact bSet6 (Below.mono hb7 (Nat.le_of_lt hl)) _ (Nat.le_refl _) _ _ _ _ _ _))
    clear hHeld hK K
    have hHeld := hNew
    clear hNew
    (try simp only [Act.put, List.setIfInBounds_toArray, List.set_cons_zero, List.set_cons_succ])
    refine wpAnyH_ready (rs := [15]) (by kernel_rfl) (by simp) ?_
    refine AllReadyH.cons rfl (fun K hK => ?_) AllReadyH.nil
    ((go_simp); (go_at_call 29; refine (changed31_B x false full ti si (w.heap.size + 1 + 1) (w.heap.size + 1) r er W5 _ HF.out HT.out HSI.out HRI (by omega) (by omega) h1.out h2.out ?_).mono ?_; (first | (with_reducible assumption) | (with_reducible exact Below.drew (by assumption)) | (with_reducible exact bAlloc (by assumption) _) | (with_reducible exact Below.drew (bAlloc (by assumption) _))); rintro e w7 ⟨rfl, hbb7, hb7⟩; clear hbb7; obtain ⟨zl, z0, z1, z2, z3, z4, z5, zf⟩ := BW.kept HZ.out hb7); (try go_wp2_with fail))
    refine hK.out _ _ ?_ (fun hNew => ?_)
    · (try dsimp only); refine HS _ ?_; (first | (with_reducible assumption) | (with_reducible exact Below.drew (by assumption)) | (with_reducible exact Below.mono (by assumption) (Nat.le_of_lt hl)) | (with_reducible exact Below.drew (Below.mono (by assumption) (Nat.le_of_lt hl))) | (with_reducible exact bSet6 (by assumption) _ (Nat.le_refl _) _ _ _ _ _ _) | (with_reducible exact bSet6 (Below.mono hb7 (Nat.le_of_lt hl)) _ (Nat.le_refl _) _ _ _ _ _ _))
    clear hHeld hK K
    have hHeld := hNew
    clear hNew
    (try simp only [Act.put, List.setIfInBounds_toArray, List.set_cons_zero, List.set_cons_succ])
    refine wpAnyH_take (i := 16) (oi := ?oi14) (v := ?v14) ?hi14 (by kernel_rfl) (by kernel_rfl) (by kernel_rfl) (fun _ _ _ h => h) ?hy14 (by assumption) ?rest14
    case hi14 => (simp only [List.getElem?_toArray, List.getElem?_cons_succ, List.getElem?_cons_zero]; rfl)
    case hy14 => exact Or.inl ⟨by rfl, by intro w hSw; (try dsimp only at hSw); (first | (go_simp; done) | (go_simp; with_reducible rfl))⟩
    (try simp only [Act.put, List.setIfInBounds_toArray, List.set_cons_zero, List.set_cons_succ])
    refine wpAnyH_take (i := 17) (oi := ?oi15) (v := ?v15) ?hi15 (by kernel_rfl) (by kernel_rfl) (by kernel_rfl) (fun _ _ _ h => h) ?hy15 (by assumption) ?rest15
    case hi15 => (simp only [List.getElem?_toArray, List.getElem?_cons_succ, List.getElem?_cons_zero]; rfl)
    case hy15 => exact Or.inl ⟨by rfl, by intro w hSw; (try dsimp only at hSw); (first | (go_simp; done) | (go_simp; with_reducible rfl))⟩
    (try simp only [Act.put, List.setIfInBounds_toArray, List.set_cons_zero, List.set_cons_succ])
    refine wpAnyH_ready (rs := [18]) (by kernel_rfl) (by simp) ?_
    refine AllReadyH.cons rfl (fun K hK => ?_) AllReadyH.nil
    go_simp
    refine hK.out _ _ ?_ (fun hNew => ?_)
    · (try dsimp only); refine HS _ ?_; (first | (with_reducible assumption) | (with_reducible exact Below.drew (by assumption)) | (with_reducible exact Below.mono (by assumption) (Nat.le_of_lt hl)) | (with_reducible exact Below.drew (Below.mono (by assumption) (Nat.le_of_lt hl))) | (with_reducible exact bSet6 (by assumption) _ (Nat.le_refl _) _ _ _ _ _ _) | (with_reducible exact bSet6 (Below.mono hb7 (Nat.le_of_lt hl)) _ (Nat.le_refl _) _ _ _ _ _ _))
    clear hHeld hK K
    have hHeld := hNew
    clear hNew
    (try simp only [Act.put, List.setIfInBounds_toArray, List.set_cons_zero, List.set_cons_succ])
    refine wpAnyH_take (i := 19) (oi := ?oi16) (v := ?v16) ?hi16 (by kernel_rfl) (by kernel_rfl) (by kernel_rfl) (fun _ _ _ h => h) ?hy16 (by assumption) ?rest16
    case hi16 => (simp only [List.getElem?_toArray, List.getElem?_cons_succ, List.getElem?_cons_zero]; rfl)
    case hy16 => exact Or.inl ⟨by rfl, by intro w hSw; (try dsimp only at hSw); (first | (go_simp; done) | (go_simp; with_reducible rfl))⟩
    (try simp only [Act.put, List.setIfInBounds_toArray, List.set_cons_zero, List.set_cons_succ])
    refine wpAnyH_done (by kernel_rfl) ?_ _
    refine NoPanic.normal ?_
    all_goals (skip)
    have hH := hHeld
    have HH := Lib.hid hH
    clear hH hHeld
    go_wp2_with fail
    refine bodyPost_ret (by simp [results, Try.results14, go_sem, z0, z1, z2, z3, z4, z5]; rfl) rfl ?_
    exact ⟨rfl, hB5.trans (HH.out.2.2.2.mono (by omega))⟩
  · go_simp
    refine hK.out _ _ ?_ (fun hNew => ?_)
    · (try dsimp only); refine HS _ ?_; (first | (with_reducible assumption) | (with_reducible exact Below.drew (by assumption)) | (with_reducible exact Below.mono (by assumption) (Nat.le_of_lt hl)) | (with_reducible exact Below.drew (Below.mono (by assumption) (Nat.le_of_lt hl))) | (with_reducible exact bSet6 (by assumption) _ (Nat.le_refl _) _ _ _ _ _ _) | (with_reducible exact bSet6 (Below.mono hb7 (Nat.le_of_lt hl)) _ (Nat.le_refl _) _ _ _ _ _ _))
    clear hHeld hK K
    have hHeld := hNew
    clear hNew
    (try simp only [Act.put, List.setIfInBounds_toArray, List.set_cons_zero, List.set_cons_succ])
    refine wpAnyH_ready (rs := [3]) (by kernel_rfl) (by simp) ?_
    refine AllReadyH.cons rfl (fun K hK => ?_) AllReadyH.nil
    ((go_simp); (go_at_call 30; refine (isTime_is _ _ _ HTI).mono ?_; rintro e w' ⟨rfl, rfl⟩))
    refine hK.out _ _ ?_ (fun hNew => ?_)
    · (try dsimp only); refine HS _ ?_; (first | (with_reducible assumption) | (with_reducible exact Below.drew (by assumption)) | (with_reducible exact Below.mono (by assumption) (Nat.le_of_lt hl)) | (with_reducible exact Below.drew (Below.mono (by assumption) (Nat.le_of_lt hl))) | (with_reducible exact bSet6 (by assumption) _ (Nat.le_refl _) _ _ _ _ _ _) | (with_reducible exact bSet6 (Below.mono hb7 (Nat.le_of_lt hl)) _ (Nat.le_refl _) _ _ _ _ _ _))
    clear hHeld hK K
    have hHeld := hNew
    clear hNew
    (try simp only [Act.put, List.setIfInBounds_toArray, List.set_cons_zero, List.set_cons_succ])
    refine wpAnyH_take (i := 4) (oi := ?oi17) (v := ?v17) ?hi17 (by kernel_rfl) (by kernel_rfl) (by kernel_rfl) (fun _ _ _ h => h) ?hy17 (by assumption) ?rest17
    case hi17 => (simp only [List.getElem?_toArray, List.getElem?_cons_succ, List.getElem?_cons_zero]; rfl)
    case hy17 => exact Or.inl ⟨by rfl, by intro w hSw; (try dsimp only at hSw); (first | (go_simp; done) | (go_simp; with_reducible rfl))⟩
    (try simp only [Act.put, List.setIfInBounds_toArray, List.set_cons_zero, List.set_cons_succ])
    refine wpAnyH_take (i := 5) (oi := ?oi18) (v := ?v18) ?hi18 (by kernel_rfl) (by kernel_rfl) (by kernel_rfl) (fun _ _ _ h => h) ?hy18 (by assumption) ?rest18
    case hi18 => (simp only [List.getElem?_toArray, List.getElem?_cons_succ, List.getElem?_cons_zero]; rfl)
    case hy18 => exact Or.inl ⟨by rfl, by intro w hSw; (try dsimp only at hSw); (first | (go_simp; done) | (go_simp; with_reducible rfl))⟩
    (try simp only [Act.put, List.setIfInBounds_toArray, List.set_cons_zero, List.set_cons_succ])
    refine wpAnyH_take (i := 6) (oi := ?oi19) (v := ?v19) ?hi19 (by kernel_rfl) (by kernel_rfl) (by kernel_rfl) (fun _ _ _ h => h) ?hy19 (by assumption) ?rest19
    case hi19 => (simp only [List.getElem?_toArray, List.getElem?_cons_succ, List.getElem?_cons_zero]; rfl)
    case hy19 => exact Or.inl ⟨by rfl, by intro w hSw; (try dsimp only at hSw); (first | (go_simp; done) | (go_simp; with_reducible rfl))⟩
    (try simp only [Act.put, List.setIfInBounds_toArray, List.set_cons_zero, List.set_cons_succ])
    refine wpAnyH_take (i := 7) (oi := ?oi20) (v := ?v20) ?hi20 (by kernel_rfl) (by kernel_rfl) (by kernel_rfl) (fun _ _ _ h => h) ?hy20 (by assumption) ?rest20
    case hi20 => (simp only [List.getElem?_toArray, List.getElem?_cons_succ, List.getElem?_cons_zero]; rfl)
    case hy20 => exact Or.inl ⟨by rfl, by intro w hSw; (try dsimp only at hSw); (first | (go_simp; done) | (go_simp; with_reducible rfl))⟩
    (try simp only [Act.put, List.setIfInBounds_toArray, List.set_cons_zero, List.set_cons_succ])
    refine wpAnyH_take (i := 8) (oi := ?oi21) (v := ?v21) ?hi21 (by kernel_rfl) (by kernel_rfl) (by kernel_rfl) (fun _ _ _ h => h) ?hy21 (by assumption) ?rest21
    case hi21 => (simp only [List.getElem?_toArray, List.getElem?_cons_succ, List.getElem?_cons_zero]; rfl)
    case hy21 => exact Or.inl ⟨by rfl, by intro w hSw; (try dsimp only at hSw); (first | (go_simp; done) | (go_simp; with_reducible rfl))⟩
    (try simp only [Act.put, List.setIfInBounds_toArray, List.set_cons_zero, List.set_cons_succ])
    refine wpAnyH_take (i := 9) (oi := ?oi22) (v := ?v22) ?hi22 (by kernel_rfl) (by kernel_rfl) (by kernel_rfl) (fun _ _ _ h => h) ?hy22 (by assumption) ?rest22
    case hi22 => (simp only [List.getElem?_toArray, List.getElem?_cons_succ, List.getElem?_cons_zero]; rfl)
    case hy22 => exact Or.inl ⟨by rfl, by intro w hSw; (try dsimp only at hSw); (first | (go_simp; done) | (go_simp; with_reducible rfl))⟩
    (try simp only [Act.put, List.setIfInBounds_toArray, List.set_cons_zero, List.set_cons_succ])
    refine wpAnyH_take (i := 10) (oi := ?oi23) (v := undef) ?hi23 (by kernel_rfl) (by kernel_rfl) (by kernel_rfl) (fun _ _ _ h => h) ?hy23 (by assumption) ?rest23
    case hi23 => (simp only [List.getElem?_toArray, List.getElem?_cons_succ, List.getElem?_cons_zero]; rfl)
    case hy23 => exact Or.inr ⟨by rfl, rfl⟩
    (try simp only [Act.put, List.setIfInBounds_toArray, List.set_cons_zero, List.set_cons_succ])
    refine wpAnyH_take (i := 11) (oi := ?oi24) (v := undef) ?hi24 (by kernel_rfl) (by kernel_rfl) (by kernel_rfl) (fun _ _ _ h => h) ?hy24 (by assumption) ?rest24
    case hi24 => (simp only [List.getElem?_toArray, List.getElem?_cons_succ, List.getElem?_cons_zero]; rfl)
    case hy24 => exact Or.inr ⟨by rfl, rfl⟩
    (try simp only [Act.put, List.setIfInBounds_toArray, List.set_cons_zero, List.set_cons_succ])
    refine wpAnyH_take (i := 12) (oi := ?oi25) (v := undef) ?hi25 (by kernel_rfl) (by kernel_rfl) (by kernel_rfl) (fun _ _ _ h => h) ?hy25 (by assumption) ?rest25
    case hi25 => (simp only [List.getElem?_toArray, List.getElem?_cons_succ, List.getElem?_cons_zero]; rfl)
    case hy25 => exact Or.inr ⟨by rfl, rfl⟩
    (try simp only [Act.put, List.setIfInBounds_toArray, List.set_cons_zero, List.set_cons_succ])
    refine wpAnyH_take (i := 13) (oi := ?oi26) (v := ?v26) ?hi26 (by kernel_rfl) (by kernel_rfl) (by kernel_rfl) (fun _ _ _ h => h) ?hy26 (by assumption) ?rest26
    case hi26 => (simp only [List.getElem?_toArray, List.getElem?_cons_succ, List.getElem?_cons_zero]; rfl)
    case hy26 => exact Or.inl ⟨by rfl, by intro w hSw; (try dsimp only at hSw); (first | (go_simp; done) | (go_simp; with_reducible rfl))⟩
    (try simp only [Act.put, List.setIfInBounds_toArray, List.set_cons_zero, List.set_cons_succ])
    refine wpAnyH_ready (rs := [15]) (by kernel_rfl) (by simp) ?_
    refine AllReadyH.cons rfl (fun K hK => ?_) AllReadyH.nil
    ((go_simp); (go_at_call 29; refine (changed31_B x false full ti si (w.heap.size + 1 + 1) (w.heap.size + 1) r er W5 _ HF.out HT.out HSI.out HRI (by omega) (by omega) h1.out h2.out ?_).mono ?_; (first | (with_reducible assumption) | (with_reducible exact Below.drew (by assumption)) | (with_reducible exact bAlloc (by assumption) _) | (with_reducible exact Below.drew (bAlloc (by assumption) _))); rintro e w7 ⟨rfl, hbb7, hb7⟩; clear hbb7; obtain ⟨zl, z0, z1, z2, z3, z4, z5, zf⟩ := BW.kept HZ.out hb7); (try go_wp2_with fail))
    refine hK.out _ _ ?_ (fun hNew => ?_)
    · (try dsimp only); refine HS _ ?_; (first | (with_reducible assumption) | (with_reducible exact Below.drew (by assumption)) | (with_reducible exact Below.mono (by assumption) (Nat.le_of_lt hl)) | (with_reducible exact Below.drew (Below.mono (by assumption) (Nat.le_of_lt hl))) | (with_reducible exact bSet6 (by assumption) _ (Nat.le_refl _) _ _ _ _ _ _) | (with_reducible exact bSet6 (Below.mono hb7 (Nat.le_of_lt hl)) _ (Nat.le_refl _) _ _ _ _ _ _))
    clear hHeld hK K
    have hHeld := hNew
    clear hNew
    (try simp only [Act.put, List.setIfInBounds_toArray, List.set_cons_zero, List.set_cons_succ])
    refine wpAnyH_take (i := 16) (oi := ?oi27) (v := ?v27) ?hi27 (by kernel_rfl) (by kernel_rfl) (by kernel_rfl) (fun _ _ _ h => h) ?hy27 (by assumption) ?rest27
    case hi27 => (simp only [List.getElem?_toArray, List.getElem?_cons_succ, List.getElem?_cons_zero]; rfl)
    case hy27 => exact Or.inl ⟨by rfl, by intro w hSw; (try dsimp only at hSw); (first | (go_simp; done) | (go_simp; with_reducible rfl))⟩
    (try simp only [Act.put, List.setIfInBounds_toArray, List.set_cons_zero, List.set_cons_succ])
    refine wpAnyH_take (i := 17) (oi := ?oi28) (v := ?v28) ?hi28 (by kernel_rfl) (by kernel_rfl) (by kernel_rfl) (fun _ _ _ h => h) ?hy28 (by assumption) ?rest28
    case hi28 => (simp only [List.getElem?_toArray, List.getElem?_cons_succ, List.getElem?_cons_zero]; rfl)
    case hy28 => exact Or.inl ⟨by rfl, by intro w hSw; (try dsimp only at hSw); (first | (go_simp; done) | (go_simp; with_reducible rfl))⟩
    (try simp only [Act.put, List.setIfInBounds_toArray, List.set_cons_zero, List.set_cons_succ])
    refine wpAnyH_ready (rs := [18]) (by kernel_rfl) (by simp) ?_
    refine AllReadyH.cons rfl (fun K hK => ?_) AllReadyH.nil
    go_simp
    refine hK.out _ _ ?_ (fun hNew => ?_)
    · (try dsimp only); refine HS _ ?_; (first | (with_reducible assumption) | (with_reducible exact Below.drew (by assumption)) | (with_reducible exact Below.mono (by assumption) (Nat.le_of_lt hl)) | (with_reducible exact Below.drew (Below.mono (by assumption) (Nat.le_of_lt hl))) | (with_reducible exact bSet6 (by assumption) _ (Nat.le_refl _) _ _ _ _ _ _) | (with_reducible exact bSet6 (Below.mono hb7 (Nat.le_of_lt hl)) _ (Nat.le_refl _) _ _ _ _ _ _))
    clear hHeld hK K
    have hHeld := hNew
    clear hNew
    (try simp only [Act.put, List.setIfInBounds_toArray, List.set_cons_zero, List.set_cons_succ])
    refine wpAnyH_take (i := 19) (oi := ?oi29) (v := ?v29) ?hi29 (by kernel_rfl) (by kernel_rfl) (by kernel_rfl) (fun _ _ _ h => h) ?hy29 (by assumption) ?rest29
    case hi29 => (simp only [List.getElem?_toArray, List.getElem?_cons_succ, List.getElem?_cons_zero]; rfl)
    case hy29 => exact Or.inl ⟨by rfl, by intro w hSw; (try dsimp only at hSw); (first | (go_simp; done) | (go_simp; with_reducible rfl))⟩
    (try simp only [Act.put, List.setIfInBounds_toArray, List.set_cons_zero, List.set_cons_succ])
    refine wpAnyH_done (by kernel_rfl) ?_ _
    refine NoPanic.normal ?_
    all_goals (skip)
    have hH := hHeld
    have HH := Lib.hid hH
    clear hH hHeld
    go_wp2_with fail
    refine bodyPost_ret (by simp [results, Try.results14, go_sem, z0, z1, z2, z3, z4, z5]; rfl) rfl ?_
    exact ⟨rfl, hB5.trans (HH.out.2.2.2.mono (by omega))⟩
set_option maxRecDepth 100000 in
set_option maxHeartbeats 4000000 in
theorem wacked_s1 (x : Win) (nu ti si : Int) (b1 b2 b3 full : Bool) (r : Win) (er : Int) (w : World) (ht : 0 ≤ ti ∧ ti ≤ 9007199254740991) (s1 : 1 ≤ si) (s2 : 65535 < si) (h1 : Hid (chW x (acked x ti si full) false = r)) (h2 : Hid (chE x false = er)) :
    Calls Try.prog 14 #[.agg #[.int .i64 x.d, .int .i64 x.m, .int .i64 x.c, .int .i64 x.t, .int .i64 x.s, .int .i64 x.g], .agg #[.int .i64 nu, .int .i64 ti, .int .i64 si, .bool b1, .bool b2, .bool b3], .bool full] w fun e w' => e = .returned (.tuple #[.agg #[.int .i64 r.d, .int .i64 r.m, .int .i64 r.c, .int .i64 r.t, .int .i64 r.s, .int .i64 r.g], .int .i64 er]) ∧ Below w.heap.size w w' := by
  have s3 : decide (si ≤ 65535) = false := by rw [decide_eq_false_iff_not]; omega
  have HTI : Hid (decide (0 ≤ ti ∧ ti ≤ 9007199254740991) = true) := decide_eq_true ht
  have HRI : RI false si := fun h => by cases h
  clear ht
  go_enter Try.func14, Try.ntmps14
  go_wp2_with fail
  obtain ⟨W5, hW5⟩ : ∃ W, ((((w.alloc (.cells #[.int .i64 x.d, .int .i64 x.m, .int .i64 x.c, .int .i64 x.t, .int .i64 x.s, .int .i64 x.g] 26)).alloc (.cells #[.int .i64 nu, .int .i64 ti, .int .i64 si, .bool b1, .bool b2, .bool b3] 34)).alloc (.cells #[.bool full] 4)).alloc (.cells #[.int .i64 0, .int .i64 0, .int .i64 0, .int .i64 0, .int .i64 0, .int .i64 0] 26)) = W := ⟨_, rfl⟩
  rw [hW5]
  have hX : BW W5 w.heap.size x := hW5 ▸ (((BW.new w x 26).alloc _).alloc _).alloc _
  have hZ : BW W5 (w.heap.size + 1 + 1 + 1) zero := by
    rw [← hW5]
    have h0 := Bx.new (((w.alloc (.cells #[.int .i64 x.d, .int .i64 x.m, .int .i64 x.c, .int .i64 x.t, .int .i64 x.s, .int .i64 x.g] 26)).alloc (.cells #[.int .i64 nu, .int .i64 ti, .int .i64 si, .bool b1, .bool b2, .bool b3] 34)).alloc (.cells #[.bool full] 4)) 0 0 0 0 0 0 26
    show Bx _ _ 0 0 0 0 0 0
    simpa using h0
  have HT : Hid (W5.cell? ⟨w.heap.size + 1, 1, none⟩ = some (.int .i64 ti)) := Lib.hid (show W5.cell? ⟨w.heap.size + 1, 1, none⟩ = some (.int .i64 ti) by rw [← hW5]; exact cell_old (cell_old (by simp) (by simp)) (by simp <;> omega))
  have HSI : Hid (W5.cell? ⟨w.heap.size + 1, 2, none⟩ = some (.int .i64 si)) := Lib.hid (show W5.cell? ⟨w.heap.size + 1, 2, none⟩ = some (.int .i64 si) by rw [← hW5]; exact cell_old (cell_old (by simp) (by simp)) (by simp <;> omega))
  have HF : Hid (W5.cell? ⟨w.heap.size + 1 + 1, 0, none⟩ = some (.bool full)) := Lib.hid (show W5.cell? ⟨w.heap.size + 1 + 1, 0, none⟩ = some (.bool full) by rw [← hW5]; exact cell_old (cell_new (by simp)) (by simp))
  have hB5 : Below w.heap.size w W5 := hW5 ▸ (by go_grown)
  have hl : w.heap.size + 1 + 1 + 1 < W5.heap.size := by rw [← hW5]; simp only [World.size_alloc]; omega
  clear hW5
  have HS : ∀ w', Below (w.heap.size + 1 + 1 + 1) W5 w' → (w'.cell? ⟨w.heap.size, 0, none⟩ = some (.int .i64 x.d) ∧ w'.cell? ⟨w.heap.size, 1, none⟩ = some (.int .i64 x.m) ∧ w'.cell? ⟨w.heap.size, 2, none⟩ = some (.int .i64 x.c) ∧ w'.cell? ⟨w.heap.size, 3, none⟩ = some (.int .i64 x.t) ∧ w'.cell? ⟨w.heap.size, 4, none⟩ = some (.int .i64 x.s) ∧ w'.cell? ⟨w.heap.size, 5, none⟩ = some (.int .i64 x.g)) ∧ (w'.cell? ⟨w.heap.size + 1, 1, none⟩ = some (.int .i64 ti)) ∧ (w'.cell? ⟨w.heap.size + 1, 2, none⟩ = some (.int .i64 si)) ∧ Below (w.heap.size + 1 + 1 + 1) W5 w' := fun w' hb => by
    obtain ⟨_, k0, k1, k2, k3, k4, k5, kf⟩ := BW.keptB hX hb (by omega)
    exact ⟨⟨k0, k1, k2, k3, k4, k5⟩, oldcellB HT.out hb (by omega), oldcellB HSI.out hb (by omega), hb⟩
  have hbR := Below.refl W5.heap.size W5
  have HZ := Lib.hid hZ
  clear hZ
  go_region_held3 (fun w' => (w'.cell? ⟨w.heap.size, 0, none⟩ = some (.int .i64 x.d) ∧ w'.cell? ⟨w.heap.size, 1, none⟩ = some (.int .i64 x.m) ∧ w'.cell? ⟨w.heap.size, 2, none⟩ = some (.int .i64 x.c) ∧ w'.cell? ⟨w.heap.size, 3, none⟩ = some (.int .i64 x.t) ∧ w'.cell? ⟨w.heap.size, 4, none⟩ = some (.int .i64 x.s) ∧ w'.cell? ⟨w.heap.size, 5, none⟩ = some (.int .i64 x.g)) ∧ (w'.cell? ⟨w.heap.size + 1, 1, none⟩ = some (.int .i64 ti)) ∧ (w'.cell? ⟨w.heap.size + 1, 2, none⟩ = some (.int .i64 si)) ∧ Below (w.heap.size + 1 + 1 + 1) W5 w')
    ((refine HS _ ?_; (first | (with_reducible assumption) | (with_reducible exact Below.drew (by assumption)) | (with_reducible exact Below.mono (by assumption) (Nat.le_of_lt hl)) | (with_reducible exact Below.drew (Below.mono (by assumption) (Nat.le_of_lt hl))) | (with_reducible exact bSet6 (by assumption) _ (Nat.le_refl _) _ _ _ _ _ _) | (with_reducible exact bSet6 (Below.mono hb7 (Nat.le_of_lt hl)) _ (Nat.le_refl _) _ _ _ _ _ _))))
    (first | (go_at_call 30; refine (isTime_is _ _ _ HTI).mono ?_; rintro e w' ⟨rfl, rfl⟩) | (go_at_call 29; refine (changed31_B x false full ti si (w.heap.size + 1 + 1) (w.heap.size + 1) r er W5 _ HF.out HT.out HSI.out HRI (by omega) (by omega) h1.out h2.out ?_).mono ?_; (first | (with_reducible assumption) | (with_reducible exact Below.drew (by assumption)) | (with_reducible exact bAlloc (by assumption) _) | (with_reducible exact Below.drew (bAlloc (by assumption) _))); rintro e w7 ⟨rfl, hbb7, hb7⟩; clear hbb7; obtain ⟨zl, z0, z1, z2, z3, z4, z5, zf⟩ := BW.kept HZ.out hb7))
  all_goals
    go_wp2_with fail
    rename_i hH
    refine bodyPost_ret (by simp [results, Try.results14, go_sem, z0, z1, z2, z3, z4, z5]; rfl) rfl ?_
    exact ⟨rfl, hB5.trans (hH.2.2.2.mono (by omega))⟩

theorem wacked_any (x : Win) (nu ti si : Int) (b1 b2 b3 full : Bool) (r : Win) (er : Int) (w : World) (h1 : Hid (chW x (acked x ti si full) (rightP ti si) = r)) (h2 : Hid (chE x (rightP ti si) = er)) :
    Calls Try.prog 14 #[.agg #[.int .i64 x.d, .int .i64 x.m, .int .i64 x.c, .int .i64 x.t, .int .i64 x.s, .int .i64 x.g], .agg #[.int .i64 nu, .int .i64 ti, .int .i64 si, .bool b1, .bool b2, .bool b3], .bool full] w fun e w' => e = .returned (.tuple #[.agg #[.int .i64 r.d, .int .i64 r.m, .int .i64 r.c, .int .i64 r.t, .int .i64 r.s, .int .i64 r.g], .int .i64 er]) ∧ Below w.heap.size w w' := by
  have no : ¬ ((0 ≤ ti ∧ ti ≤ 9007199254740991) ∧ 1 ≤ si ∧ si ≤ 65535) → rightP ti si = false := fun h => decide_eq_false h
  by_cases ht : 0 ≤ ti ∧ ti ≤ 9007199254740991
  · by_cases s1 : 1 ≤ si
    · by_cases s2 : si ≤ 65535
      · rw [show rightP ti si = true from decide_eq_true ⟨ht, s1, s2⟩] at h1 h2
        exact wacked_r x nu ti si b1 b2 b3 full r er w ht s1 s2 h1 h2
      · rw [no (fun h => s2 h.2.2)] at h1 h2
        exact wacked_s1 x nu ti si b1 b2 b3 full r er w ht s1 (by omega) h1 h2
    · rw [no (fun h => s1 h.2.1)] at h1 h2
      exact wacked_s0 x nu ti si b1 b2 b3 full r er w ht (by omega) h1 h2
  · rw [no (fun h => ht h.1)] at h1 h2
    exact wacked_t x nu ti si b1 b2 b3 full r er w ht h1 h2

set_option maxRecDepth 100000 in
set_option maxHeartbeats 4000000 in
theorem wbad_n1 (x : Win) (se no : Int) (r : Win) (er : Int) (w : World) (HT1 : Hid (decide (0 ≤ se ∧ se ≤ 9007199254740991) = false)) (h1 : Hid (chW x (bad x se no) false = r)) (h2 : Hid (chE x false = er)) :
    Calls Try.prog 17 #[.agg #[.int .i64 x.d, .int .i64 x.m, .int .i64 x.c, .int .i64 x.t, .int .i64 x.s, .int .i64 x.g], .int .i64 se, .int .i64 no] w fun e w' => e = .returned (.tuple #[.agg #[.int .i64 r.d, .int .i64 r.m, .int .i64 r.c, .int .i64 r.t, .int .i64 r.s, .int .i64 r.g], .int .i64 er]) ∧ Below w.heap.size w w' := by
  skip
  go_enter Try.func17, Try.ntmps17
  go_wp2_with fail
  obtain ⟨W5, hW5⟩ : ∃ W, ((((w.alloc (.cells #[.int .i64 x.d, .int .i64 x.m, .int .i64 x.c, .int .i64 x.t, .int .i64 x.s, .int .i64 x.g] 26)).alloc (.cells #[.int .i64 se] 3)).alloc (.cells #[.int .i64 no] 3)).alloc (.cells #[.int .i64 0, .int .i64 0, .int .i64 0, .int .i64 0, .int .i64 0, .int .i64 0] 26)) = W := ⟨_, rfl⟩
  rw [hW5]
  have hX : BW W5 w.heap.size x := hW5 ▸ (((BW.new w x 26).alloc _).alloc _).alloc _
  have hZ : BW W5 (w.heap.size + 1 + 1 + 1) zero := by
    rw [← hW5]
    have h0 := Bx.new (((w.alloc (.cells #[.int .i64 x.d, .int .i64 x.m, .int .i64 x.c, .int .i64 x.t, .int .i64 x.s, .int .i64 x.g] 26)).alloc (.cells #[.int .i64 se] 3)).alloc (.cells #[.int .i64 no] 3)) 0 0 0 0 0 0 26
    show Bx _ _ 0 0 0 0 0 0
    simpa using h0
  have HSE : Hid (W5.cell? ⟨w.heap.size + 1, 0, none⟩ = some (.int .i64 se)) := Lib.hid (show W5.cell? ⟨w.heap.size + 1, 0, none⟩ = some (.int .i64 se) by rw [← hW5]; exact cell_old (cell_old (by simp) (by simp)) (by simp <;> omega))
  have HNO : Hid (W5.cell? ⟨w.heap.size + 1 + 1, 0, none⟩ = some (.int .i64 no)) := Lib.hid (show W5.cell? ⟨w.heap.size + 1 + 1, 0, none⟩ = some (.int .i64 no) by rw [← hW5]; exact cell_old (cell_new (by simp)) (by simp))
  have hB5 : Below w.heap.size w W5 := hW5 ▸ (by go_grown)
  have hl : w.heap.size + 1 + 1 + 1 < W5.heap.size := by rw [← hW5]; simp only [World.size_alloc]; omega
  clear hW5
  have HS : ∀ w', Below (w.heap.size + 1 + 1 + 1) W5 w' → (w'.cell? ⟨w.heap.size, 0, none⟩ = some (.int .i64 x.d) ∧ w'.cell? ⟨w.heap.size, 1, none⟩ = some (.int .i64 x.m) ∧ w'.cell? ⟨w.heap.size, 2, none⟩ = some (.int .i64 x.c) ∧ w'.cell? ⟨w.heap.size, 3, none⟩ = some (.int .i64 x.t) ∧ w'.cell? ⟨w.heap.size, 4, none⟩ = some (.int .i64 x.s) ∧ w'.cell? ⟨w.heap.size, 5, none⟩ = some (.int .i64 x.g)) ∧ (w'.cell? ⟨w.heap.size + 1, 0, none⟩ = some (.int .i64 se)) ∧ (w'.cell? ⟨w.heap.size + 1 + 1, 0, none⟩ = some (.int .i64 no)) ∧ Below (w.heap.size + 1 + 1 + 1) W5 w' := fun w' hb => by
    obtain ⟨_, k0, k1, k2, k3, k4, k5, kf⟩ := BW.keptB hX hb (by omega)
    exact ⟨⟨k0, k1, k2, k3, k4, k5⟩, oldcellB HSE.out hb (by omega), oldcellB HNO.out hb (by omega), hb⟩
  have hbR := Below.refl W5.heap.size W5
  have HZ := Lib.hid hZ
  clear hZ
  refine wp_region_noPanic ?_
  refine wp_region_held_drew (S := (fun w' => (w'.cell? ⟨w.heap.size, 0, none⟩ = some (.int .i64 x.d) ∧ w'.cell? ⟨w.heap.size, 1, none⟩ = some (.int .i64 x.m) ∧ w'.cell? ⟨w.heap.size, 2, none⟩ = some (.int .i64 x.c) ∧ w'.cell? ⟨w.heap.size, 3, none⟩ = some (.int .i64 x.t) ∧ w'.cell? ⟨w.heap.size, 4, none⟩ = some (.int .i64 x.s) ∧ w'.cell? ⟨w.heap.size, 5, none⟩ = some (.int .i64 x.g)) ∧ (w'.cell? ⟨w.heap.size + 1, 0, none⟩ = some (.int .i64 se)) ∧ (w'.cell? ⟨w.heap.size + 1 + 1, 0, none⟩ = some (.int .i64 no)) ∧ Below (w.heap.size + 1 + 1 + 1) W5 w')) (by kernel_rfl) ?_ (fun hHeld => ?_)
  · (try dsimp only); refine HS _ ?_; (first | (with_reducible assumption) | (with_reducible exact Below.drew (by assumption)) | (with_reducible exact Below.mono (by assumption) (Nat.le_of_lt hl)) | (with_reducible exact Below.drew (Below.mono (by assumption) (Nat.le_of_lt hl))) | (with_reducible exact bSet6 (by assumption) _ (Nat.le_refl _) _ _ _ _ _ _) | (with_reducible exact bSet6 (Below.mono hb7 (Nat.le_of_lt hl)) _ (Nat.le_refl _) _ _ _ _ _ _))
  refine wpAnyH_take (i := 0) (oi := ?oi1) (v := ?v1) ?hi1 (by kernel_rfl) (by kernel_rfl) (by kernel_rfl) (fun _ _ _ h => h) ?hy1 (by assumption) ?rest1
  case hi1 => (simp only [List.getElem?_toArray, List.getElem?_cons_succ, List.getElem?_cons_zero]; rfl)
  case hy1 => exact Or.inl ⟨by rfl, by intro w hSw; (try dsimp only at hSw); (first | (go_simp; done) | (go_simp; with_reducible rfl))⟩
  (try simp only [Act.put, List.setIfInBounds_toArray, List.set_cons_zero, List.set_cons_succ])
  refine wpAnyH_take (i := 1) (oi := ?oi2) (v := ?v2) ?hi2 (by kernel_rfl) (by kernel_rfl) (by kernel_rfl) (fun _ _ _ h => h) ?hy2 (by assumption) ?rest2
  case hi2 => (simp only [List.getElem?_toArray, List.getElem?_cons_succ, List.getElem?_cons_zero]; rfl)
  case hy2 => exact Or.inl ⟨by rfl, by intro w hSw; (try dsimp only at hSw); (first | (go_simp; done) | (go_simp; with_reducible rfl))⟩
  (try simp only [Act.put, List.setIfInBounds_toArray, List.set_cons_zero, List.set_cons_succ])
  refine wpAnyH_ready (rs := [2, 7]) (by kernel_rfl) (by simp) ?_
  refine AllReadyH.cons rfl (fun K hK => ?_) (AllReadyH.cons rfl (fun K hK => ?_) AllReadyH.nil)
  · ((go_simp); (go_at_call 30; refine (isTime_d _ _).mono ?_; rintro e w' ⟨rfl, rfl⟩; (first | rw [HT1.out] | rw [HT2.out])))
    refine hK.out _ _ ?_ (fun hNew => ?_)
    · (try dsimp only); refine HS _ ?_; (first | (with_reducible assumption) | (with_reducible exact Below.drew (by assumption)) | (with_reducible exact Below.mono (by assumption) (Nat.le_of_lt hl)) | (with_reducible exact Below.drew (Below.mono (by assumption) (Nat.le_of_lt hl))) | (with_reducible exact bSet6 (by assumption) _ (Nat.le_refl _) _ _ _ _ _ _) | (with_reducible exact bSet6 (Below.mono hb7 (Nat.le_of_lt hl)) _ (Nat.le_refl _) _ _ _ _ _ _))
    clear hHeld hK K
    have hHeld := hNew
    clear hNew
    (try simp only [Act.put, List.setIfInBounds_toArray, List.set_cons_zero, List.set_cons_succ])
    refine wpAnyH_take (i := 3) (oi := ?oi3) (v := ?v3) ?hi3 (by kernel_rfl) (by kernel_rfl) (by kernel_rfl) (fun _ _ _ h => h) ?hy3 (by assumption) ?rest3
    case hi3 => (simp only [List.getElem?_toArray, List.getElem?_cons_succ, List.getElem?_cons_zero]; rfl)
    case hy3 => exact Or.inl ⟨by rfl, by intro w hSw; (try dsimp only at hSw); (first | (go_simp; done) | (go_simp; with_reducible rfl))⟩
    (try simp only [Act.put, List.setIfInBounds_toArray, List.set_cons_zero, List.set_cons_succ])
    refine wpAnyH_take (i := 4) (oi := ?oi4) (v := undef) ?hi4 (by kernel_rfl) (by kernel_rfl) (by kernel_rfl) (fun _ _ _ h => h) ?hy4 (by assumption) ?rest4
    case hi4 => (simp only [List.getElem?_toArray, List.getElem?_cons_succ, List.getElem?_cons_zero]; rfl)
    case hy4 => exact Or.inr ⟨by rfl, rfl⟩
    (try simp only [Act.put, List.setIfInBounds_toArray, List.set_cons_zero, List.set_cons_succ])
    refine wpAnyH_take (i := 5) (oi := ?oi5) (v := undef) ?hi5 (by kernel_rfl) (by kernel_rfl) (by kernel_rfl) (fun _ _ _ h => h) ?hy5 (by assumption) ?rest5
    case hi5 => (simp only [List.getElem?_toArray, List.getElem?_cons_succ, List.getElem?_cons_zero]; rfl)
    case hy5 => exact Or.inr ⟨by rfl, rfl⟩
    (try simp only [Act.put, List.setIfInBounds_toArray, List.set_cons_zero, List.set_cons_succ])
    refine wpAnyH_take (i := 6) (oi := ?oi6) (v := ?v6) ?hi6 (by kernel_rfl) (by kernel_rfl) (by kernel_rfl) (fun _ _ _ h => h) ?hy6 (by assumption) ?rest6
    case hi6 => (simp only [List.getElem?_toArray, List.getElem?_cons_succ, List.getElem?_cons_zero]; rfl)
    case hy6 => exact Or.inl ⟨by rfl, by intro w hSw; (try dsimp only at hSw); (first | (go_simp; done) | (go_simp; with_reducible rfl))⟩
    (try simp only [Act.put, List.setIfInBounds_toArray, List.set_cons_zero, List.set_cons_succ])
    refine wpAnyH_ready (rs := [7]) (by kernel_rfl) (by simp) ?_
    refine AllReadyH.cons rfl (fun K hK => ?_) AllReadyH.nil
    go_simp
    refine hK.out _ _ ?_ (fun hNew => ?_)
    · (try dsimp only); refine HS _ ?_; (first | (with_reducible assumption) | (with_reducible exact Below.drew (by assumption)) | (with_reducible exact Below.mono (by assumption) (Nat.le_of_lt hl)) | (with_reducible exact Below.drew (Below.mono (by assumption) (Nat.le_of_lt hl))) | (with_reducible exact bSet6 (by assumption) _ (Nat.le_refl _) _ _ _ _ _ _) | (with_reducible exact bSet6 (Below.mono hb7 (Nat.le_of_lt hl)) _ (Nat.le_refl _) _ _ _ _ _ _))
    clear hHeld hK K
    have hHeld := hNew
    clear hNew
    (try simp only [Act.put, List.setIfInBounds_toArray, List.set_cons_zero, List.set_cons_succ])
    refine wpAnyH_ready (rs := [8]) (by kernel_rfl) (by simp) ?_
    refine AllReadyH.cons rfl (fun K hK => ?_) AllReadyH.nil
    ((go_simp); (go_at_call 29; refine (changed39_B x false se no (w.heap.size + 1) (w.heap.size + 1 + 1) r er W5 _ HSE.out HNO.out (by omega) (by omega) h1.out h2.out ?_).mono ?_; (first | (with_reducible assumption) | (with_reducible exact Below.drew (by assumption)) | (with_reducible exact bAlloc (by assumption) _) | (with_reducible exact Below.drew (bAlloc (by assumption) _))); rintro e w7 ⟨rfl, hbb7, hb7⟩; clear hbb7; obtain ⟨zl, z0, z1, z2, z3, z4, z5, zf⟩ := BW.kept HZ.out hb7); (try go_wp2_with fail))
    refine hK.out _ _ ?_ (fun hNew => ?_)
    · (try dsimp only); refine HS _ ?_; (first | (with_reducible assumption) | (with_reducible exact Below.drew (by assumption)) | (with_reducible exact Below.mono (by assumption) (Nat.le_of_lt hl)) | (with_reducible exact Below.drew (Below.mono (by assumption) (Nat.le_of_lt hl))) | (with_reducible exact bSet6 (by assumption) _ (Nat.le_refl _) _ _ _ _ _ _) | (with_reducible exact bSet6 (Below.mono hb7 (Nat.le_of_lt hl)) _ (Nat.le_refl _) _ _ _ _ _ _))
    clear hHeld hK K
    have hHeld := hNew
    clear hNew
    (try simp only [Act.put, List.setIfInBounds_toArray, List.set_cons_zero, List.set_cons_succ])
    refine wpAnyH_take (i := 9) (oi := ?oi7) (v := ?v7) ?hi7 (by kernel_rfl) (by kernel_rfl) (by kernel_rfl) (fun _ _ _ h => h) ?hy7 (by assumption) ?rest7
    case hi7 => (simp only [List.getElem?_toArray, List.getElem?_cons_succ, List.getElem?_cons_zero]; rfl)
    case hy7 => exact Or.inl ⟨by rfl, by intro w hSw; (try dsimp only at hSw); (first | (go_simp; done) | (go_simp; with_reducible rfl))⟩
    (try simp only [Act.put, List.setIfInBounds_toArray, List.set_cons_zero, List.set_cons_succ])
    refine wpAnyH_take (i := 10) (oi := ?oi8) (v := ?v8) ?hi8 (by kernel_rfl) (by kernel_rfl) (by kernel_rfl) (fun _ _ _ h => h) ?hy8 (by assumption) ?rest8
    case hi8 => (simp only [List.getElem?_toArray, List.getElem?_cons_succ, List.getElem?_cons_zero]; rfl)
    case hy8 => exact Or.inl ⟨by rfl, by intro w hSw; (try dsimp only at hSw); (first | (go_simp; done) | (go_simp; with_reducible rfl))⟩
    (try simp only [Act.put, List.setIfInBounds_toArray, List.set_cons_zero, List.set_cons_succ])
    refine wpAnyH_ready (rs := [11]) (by kernel_rfl) (by simp) ?_
    refine AllReadyH.cons rfl (fun K hK => ?_) AllReadyH.nil
    go_simp
    refine hK.out _ _ ?_ (fun hNew => ?_)
    · (try dsimp only); refine HS _ ?_; (first | (with_reducible assumption) | (with_reducible exact Below.drew (by assumption)) | (with_reducible exact Below.mono (by assumption) (Nat.le_of_lt hl)) | (with_reducible exact Below.drew (Below.mono (by assumption) (Nat.le_of_lt hl))) | (with_reducible exact bSet6 (by assumption) _ (Nat.le_refl _) _ _ _ _ _ _) | (with_reducible exact bSet6 (Below.mono hb7 (Nat.le_of_lt hl)) _ (Nat.le_refl _) _ _ _ _ _ _))
    clear hHeld hK K
    have hHeld := hNew
    clear hNew
    (try simp only [Act.put, List.setIfInBounds_toArray, List.set_cons_zero, List.set_cons_succ])
    refine wpAnyH_take (i := 12) (oi := ?oi9) (v := ?v9) ?hi9 (by kernel_rfl) (by kernel_rfl) (by kernel_rfl) (fun _ _ _ h => h) ?hy9 (by assumption) ?rest9
    case hi9 => (simp only [List.getElem?_toArray, List.getElem?_cons_succ, List.getElem?_cons_zero]; rfl)
    case hy9 => exact Or.inl ⟨by rfl, by intro w hSw; (try dsimp only at hSw); (first | (go_simp; done) | (go_simp; with_reducible rfl))⟩
    (try simp only [Act.put, List.setIfInBounds_toArray, List.set_cons_zero, List.set_cons_succ])
    refine wpAnyH_done (by kernel_rfl) ?_ _
    refine NoPanic.normal ?_
    all_goals (skip)
    have hH := hHeld
    have HH := Lib.hid hH
    clear hH hHeld
    go_wp2_with fail
    refine bodyPost_ret (by simp [results, Try.results17, go_sem, z0, z1, z2, z3, z4, z5]; rfl) rfl ?_
    exact ⟨rfl, hB5.trans (HH.out.2.2.2.mono (by omega))⟩
  · go_simp
    refine hK.out _ _ ?_ (fun hNew => ?_)
    · (try dsimp only); refine HS _ ?_; (first | (with_reducible assumption) | (with_reducible exact Below.drew (by assumption)) | (with_reducible exact Below.mono (by assumption) (Nat.le_of_lt hl)) | (with_reducible exact Below.drew (Below.mono (by assumption) (Nat.le_of_lt hl))) | (with_reducible exact bSet6 (by assumption) _ (Nat.le_refl _) _ _ _ _ _ _) | (with_reducible exact bSet6 (Below.mono hb7 (Nat.le_of_lt hl)) _ (Nat.le_refl _) _ _ _ _ _ _))
    clear hHeld hK K
    have hHeld := hNew
    clear hNew
    (try simp only [Act.put, List.setIfInBounds_toArray, List.set_cons_zero, List.set_cons_succ])
    refine wpAnyH_ready (rs := [2]) (by kernel_rfl) (by simp) ?_
    refine AllReadyH.cons rfl (fun K hK => ?_) AllReadyH.nil
    ((go_simp); (go_at_call 30; refine (isTime_d _ _).mono ?_; rintro e w' ⟨rfl, rfl⟩; (first | rw [HT1.out] | rw [HT2.out])))
    refine hK.out _ _ ?_ (fun hNew => ?_)
    · (try dsimp only); refine HS _ ?_; (first | (with_reducible assumption) | (with_reducible exact Below.drew (by assumption)) | (with_reducible exact Below.mono (by assumption) (Nat.le_of_lt hl)) | (with_reducible exact Below.drew (Below.mono (by assumption) (Nat.le_of_lt hl))) | (with_reducible exact bSet6 (by assumption) _ (Nat.le_refl _) _ _ _ _ _ _) | (with_reducible exact bSet6 (Below.mono hb7 (Nat.le_of_lt hl)) _ (Nat.le_refl _) _ _ _ _ _ _))
    clear hHeld hK K
    have hHeld := hNew
    clear hNew
    (try simp only [Act.put, List.setIfInBounds_toArray, List.set_cons_zero, List.set_cons_succ])
    refine wpAnyH_take (i := 3) (oi := ?oi10) (v := ?v10) ?hi10 (by kernel_rfl) (by kernel_rfl) (by kernel_rfl) (fun _ _ _ h => h) ?hy10 (by assumption) ?rest10
    case hi10 => (simp only [List.getElem?_toArray, List.getElem?_cons_succ, List.getElem?_cons_zero]; rfl)
    case hy10 => exact Or.inl ⟨by rfl, by intro w hSw; (try dsimp only at hSw); (first | (go_simp; done) | (go_simp; with_reducible rfl))⟩
    (try simp only [Act.put, List.setIfInBounds_toArray, List.set_cons_zero, List.set_cons_succ])
    refine wpAnyH_take (i := 4) (oi := ?oi11) (v := undef) ?hi11 (by kernel_rfl) (by kernel_rfl) (by kernel_rfl) (fun _ _ _ h => h) ?hy11 (by assumption) ?rest11
    case hi11 => (simp only [List.getElem?_toArray, List.getElem?_cons_succ, List.getElem?_cons_zero]; rfl)
    case hy11 => exact Or.inr ⟨by rfl, rfl⟩
    (try simp only [Act.put, List.setIfInBounds_toArray, List.set_cons_zero, List.set_cons_succ])
    refine wpAnyH_take (i := 5) (oi := ?oi12) (v := undef) ?hi12 (by kernel_rfl) (by kernel_rfl) (by kernel_rfl) (fun _ _ _ h => h) ?hy12 (by assumption) ?rest12
    case hi12 => (simp only [List.getElem?_toArray, List.getElem?_cons_succ, List.getElem?_cons_zero]; rfl)
    case hy12 => exact Or.inr ⟨by rfl, rfl⟩
    (try simp only [Act.put, List.setIfInBounds_toArray, List.set_cons_zero, List.set_cons_succ])
    refine wpAnyH_take (i := 6) (oi := ?oi13) (v := ?v13) ?hi13 (by kernel_rfl) (by kernel_rfl) (by kernel_rfl) (fun _ _ _ h => h) ?hy13 (by assumption) ?rest13
    case hi13 => (simp only [List.getElem?_toArray, List.getElem?_cons_succ, List.getElem?_cons_zero]; rfl)
    case hy13 => exact Or.inl ⟨by rfl, by intro w hSw; (try dsimp only at hSw); (first | (go_simp; done) | (go_simp; with_reducible rfl))⟩
    (try simp only [Act.put, List.setIfInBounds_toArray, List.set_cons_zero, List.set_cons_succ])
    refine wpAnyH_ready (rs := [8]) (by kernel_rfl) (by simp) ?_
    refine AllReadyH.cons rfl (fun K hK => ?_) AllReadyH.nil
    ((go_simp); (go_at_call 29; refine (changed39_B x false se no (w.heap.size + 1) (w.heap.size + 1 + 1) r er W5 _ HSE.out HNO.out (by omega) (by omega) h1.out h2.out ?_).mono ?_; (first | (with_reducible assumption) | (with_reducible exact Below.drew (by assumption)) | (with_reducible exact bAlloc (by assumption) _) | (with_reducible exact Below.drew (bAlloc (by assumption) _))); rintro e w7 ⟨rfl, hbb7, hb7⟩; clear hbb7; obtain ⟨zl, z0, z1, z2, z3, z4, z5, zf⟩ := BW.kept HZ.out hb7); (try go_wp2_with fail))
    refine hK.out _ _ ?_ (fun hNew => ?_)
    · (try dsimp only); refine HS _ ?_; (first | (with_reducible assumption) | (with_reducible exact Below.drew (by assumption)) | (with_reducible exact Below.mono (by assumption) (Nat.le_of_lt hl)) | (with_reducible exact Below.drew (Below.mono (by assumption) (Nat.le_of_lt hl))) | (with_reducible exact bSet6 (by assumption) _ (Nat.le_refl _) _ _ _ _ _ _) | (with_reducible exact bSet6 (Below.mono hb7 (Nat.le_of_lt hl)) _ (Nat.le_refl _) _ _ _ _ _ _))
    clear hHeld hK K
    have hHeld := hNew
    clear hNew
    (try simp only [Act.put, List.setIfInBounds_toArray, List.set_cons_zero, List.set_cons_succ])
    refine wpAnyH_take (i := 9) (oi := ?oi14) (v := ?v14) ?hi14 (by kernel_rfl) (by kernel_rfl) (by kernel_rfl) (fun _ _ _ h => h) ?hy14 (by assumption) ?rest14
    case hi14 => (simp only [List.getElem?_toArray, List.getElem?_cons_succ, List.getElem?_cons_zero]; rfl)
    case hy14 => exact Or.inl ⟨by rfl, by intro w hSw; (try dsimp only at hSw); (first | (go_simp; done) | (go_simp; with_reducible rfl))⟩
    (try simp only [Act.put, List.setIfInBounds_toArray, List.set_cons_zero, List.set_cons_succ])
    refine wpAnyH_take (i := 10) (oi := ?oi15) (v := ?v15) ?hi15 (by kernel_rfl) (by kernel_rfl) (by kernel_rfl) (fun _ _ _ h => h) ?hy15 (by assumption) ?rest15
    case hi15 => (simp only [List.getElem?_toArray, List.getElem?_cons_succ, List.getElem?_cons_zero]; rfl)
    case hy15 => exact Or.inl ⟨by rfl, by intro w hSw; (try dsimp only at hSw); (first | (go_simp; done) | (go_simp; with_reducible rfl))⟩
    (try simp only [Act.put, List.setIfInBounds_toArray, List.set_cons_zero, List.set_cons_succ])
    refine wpAnyH_ready (rs := [11]) (by kernel_rfl) (by simp) ?_
    refine AllReadyH.cons rfl (fun K hK => ?_) AllReadyH.nil
    go_simp
    refine hK.out _ _ ?_ (fun hNew => ?_)
    · (try dsimp only); refine HS _ ?_; (first | (with_reducible assumption) | (with_reducible exact Below.drew (by assumption)) | (with_reducible exact Below.mono (by assumption) (Nat.le_of_lt hl)) | (with_reducible exact Below.drew (Below.mono (by assumption) (Nat.le_of_lt hl))) | (with_reducible exact bSet6 (by assumption) _ (Nat.le_refl _) _ _ _ _ _ _) | (with_reducible exact bSet6 (Below.mono hb7 (Nat.le_of_lt hl)) _ (Nat.le_refl _) _ _ _ _ _ _))
    clear hHeld hK K
    have hHeld := hNew
    clear hNew
    (try simp only [Act.put, List.setIfInBounds_toArray, List.set_cons_zero, List.set_cons_succ])
    refine wpAnyH_take (i := 12) (oi := ?oi16) (v := ?v16) ?hi16 (by kernel_rfl) (by kernel_rfl) (by kernel_rfl) (fun _ _ _ h => h) ?hy16 (by assumption) ?rest16
    case hi16 => (simp only [List.getElem?_toArray, List.getElem?_cons_succ, List.getElem?_cons_zero]; rfl)
    case hy16 => exact Or.inl ⟨by rfl, by intro w hSw; (try dsimp only at hSw); (first | (go_simp; done) | (go_simp; with_reducible rfl))⟩
    (try simp only [Act.put, List.setIfInBounds_toArray, List.set_cons_zero, List.set_cons_succ])
    refine wpAnyH_done (by kernel_rfl) ?_ _
    refine NoPanic.normal ?_
    all_goals (skip)
    have hH := hHeld
    have HH := Lib.hid hH
    clear hH hHeld
    go_wp2_with fail
    refine bodyPost_ret (by simp [results, Try.results17, go_sem, z0, z1, z2, z3, z4, z5]; rfl) rfl ?_
    exact ⟨rfl, hB5.trans (HH.out.2.2.2.mono (by omega))⟩
set_option maxRecDepth 100000 in
set_option maxHeartbeats 4000000 in
theorem wbad_n2 (x : Win) (se no : Int) (r : Win) (er : Int) (w : World) (HT1 : Hid (decide (0 ≤ se ∧ se ≤ 9007199254740991) = true)) (HT2 : Hid (decide (0 ≤ no ∧ no ≤ 9007199254740991) = false)) (h1 : Hid (chW x (bad x se no) false = r)) (h2 : Hid (chE x false = er)) :
    Calls Try.prog 17 #[.agg #[.int .i64 x.d, .int .i64 x.m, .int .i64 x.c, .int .i64 x.t, .int .i64 x.s, .int .i64 x.g], .int .i64 se, .int .i64 no] w fun e w' => e = .returned (.tuple #[.agg #[.int .i64 r.d, .int .i64 r.m, .int .i64 r.c, .int .i64 r.t, .int .i64 r.s, .int .i64 r.g], .int .i64 er]) ∧ Below w.heap.size w w' := by
  skip
  go_enter Try.func17, Try.ntmps17
  go_wp2_with fail
  obtain ⟨W5, hW5⟩ : ∃ W, ((((w.alloc (.cells #[.int .i64 x.d, .int .i64 x.m, .int .i64 x.c, .int .i64 x.t, .int .i64 x.s, .int .i64 x.g] 26)).alloc (.cells #[.int .i64 se] 3)).alloc (.cells #[.int .i64 no] 3)).alloc (.cells #[.int .i64 0, .int .i64 0, .int .i64 0, .int .i64 0, .int .i64 0, .int .i64 0] 26)) = W := ⟨_, rfl⟩
  rw [hW5]
  have hX : BW W5 w.heap.size x := hW5 ▸ (((BW.new w x 26).alloc _).alloc _).alloc _
  have hZ : BW W5 (w.heap.size + 1 + 1 + 1) zero := by
    rw [← hW5]
    have h0 := Bx.new (((w.alloc (.cells #[.int .i64 x.d, .int .i64 x.m, .int .i64 x.c, .int .i64 x.t, .int .i64 x.s, .int .i64 x.g] 26)).alloc (.cells #[.int .i64 se] 3)).alloc (.cells #[.int .i64 no] 3)) 0 0 0 0 0 0 26
    show Bx _ _ 0 0 0 0 0 0
    simpa using h0
  have HSE : Hid (W5.cell? ⟨w.heap.size + 1, 0, none⟩ = some (.int .i64 se)) := Lib.hid (show W5.cell? ⟨w.heap.size + 1, 0, none⟩ = some (.int .i64 se) by rw [← hW5]; exact cell_old (cell_old (by simp) (by simp)) (by simp <;> omega))
  have HNO : Hid (W5.cell? ⟨w.heap.size + 1 + 1, 0, none⟩ = some (.int .i64 no)) := Lib.hid (show W5.cell? ⟨w.heap.size + 1 + 1, 0, none⟩ = some (.int .i64 no) by rw [← hW5]; exact cell_old (cell_new (by simp)) (by simp))
  have hB5 : Below w.heap.size w W5 := hW5 ▸ (by go_grown)
  have hl : w.heap.size + 1 + 1 + 1 < W5.heap.size := by rw [← hW5]; simp only [World.size_alloc]; omega
  clear hW5
  have HS : ∀ w', Below (w.heap.size + 1 + 1 + 1) W5 w' → (w'.cell? ⟨w.heap.size, 0, none⟩ = some (.int .i64 x.d) ∧ w'.cell? ⟨w.heap.size, 1, none⟩ = some (.int .i64 x.m) ∧ w'.cell? ⟨w.heap.size, 2, none⟩ = some (.int .i64 x.c) ∧ w'.cell? ⟨w.heap.size, 3, none⟩ = some (.int .i64 x.t) ∧ w'.cell? ⟨w.heap.size, 4, none⟩ = some (.int .i64 x.s) ∧ w'.cell? ⟨w.heap.size, 5, none⟩ = some (.int .i64 x.g)) ∧ (w'.cell? ⟨w.heap.size + 1, 0, none⟩ = some (.int .i64 se)) ∧ (w'.cell? ⟨w.heap.size + 1 + 1, 0, none⟩ = some (.int .i64 no)) ∧ Below (w.heap.size + 1 + 1 + 1) W5 w' := fun w' hb => by
    obtain ⟨_, k0, k1, k2, k3, k4, k5, kf⟩ := BW.keptB hX hb (by omega)
    exact ⟨⟨k0, k1, k2, k3, k4, k5⟩, oldcellB HSE.out hb (by omega), oldcellB HNO.out hb (by omega), hb⟩
  have hbR := Below.refl W5.heap.size W5
  have HZ := Lib.hid hZ
  clear hZ
  go_region_held3 (fun w' => (w'.cell? ⟨w.heap.size, 0, none⟩ = some (.int .i64 x.d) ∧ w'.cell? ⟨w.heap.size, 1, none⟩ = some (.int .i64 x.m) ∧ w'.cell? ⟨w.heap.size, 2, none⟩ = some (.int .i64 x.c) ∧ w'.cell? ⟨w.heap.size, 3, none⟩ = some (.int .i64 x.t) ∧ w'.cell? ⟨w.heap.size, 4, none⟩ = some (.int .i64 x.s) ∧ w'.cell? ⟨w.heap.size, 5, none⟩ = some (.int .i64 x.g)) ∧ (w'.cell? ⟨w.heap.size + 1, 0, none⟩ = some (.int .i64 se)) ∧ (w'.cell? ⟨w.heap.size + 1 + 1, 0, none⟩ = some (.int .i64 no)) ∧ Below (w.heap.size + 1 + 1 + 1) W5 w')
    ((refine HS _ ?_; (first | (with_reducible assumption) | (with_reducible exact Below.drew (by assumption)) | (with_reducible exact Below.mono (by assumption) (Nat.le_of_lt hl)) | (with_reducible exact Below.drew (Below.mono (by assumption) (Nat.le_of_lt hl))) | (with_reducible exact bSet6 (by assumption) _ (Nat.le_refl _) _ _ _ _ _ _) | (with_reducible exact bSet6 (Below.mono hb7 (Nat.le_of_lt hl)) _ (Nat.le_refl _) _ _ _ _ _ _))))
    (first | (go_at_call 30; refine (isTime_d _ _).mono ?_; rintro e w' ⟨rfl, rfl⟩; (first | rw [HT1.out] | rw [HT2.out])) | (go_at_call 29; refine (changed39_B x false se no (w.heap.size + 1) (w.heap.size + 1 + 1) r er W5 _ HSE.out HNO.out (by omega) (by omega) h1.out h2.out ?_).mono ?_; (first | (with_reducible assumption) | (with_reducible exact Below.drew (by assumption)) | (with_reducible exact bAlloc (by assumption) _) | (with_reducible exact Below.drew (bAlloc (by assumption) _))); rintro e w7 ⟨rfl, hbb7, hb7⟩; clear hbb7; obtain ⟨zl, z0, z1, z2, z3, z4, z5, zf⟩ := BW.kept HZ.out hb7))
  all_goals
    go_wp2_with fail
    rename_i hH
    refine bodyPost_ret (by simp [results, Try.results17, go_sem, z0, z1, z2, z3, z4, z5]; rfl) rfl ?_
    exact ⟨rfl, hB5.trans (hH.2.2.2.mono (by omega))⟩

theorem wbad_any (x : Win) (se no : Int) (r : Win) (er : Int) (w : World) (h1 : Hid (chW x (bad x se no) (timeB se && timeB no) = r)) (h2 : Hid (chE x (timeB se && timeB no) = er)) :
    Calls Try.prog 17 #[.agg #[.int .i64 x.d, .int .i64 x.m, .int .i64 x.c, .int .i64 x.t, .int .i64 x.s, .int .i64 x.g], .int .i64 se, .int .i64 no] w fun e w' => e = .returned (.tuple #[.agg #[.int .i64 r.d, .int .i64 r.m, .int .i64 r.c, .int .i64 r.t, .int .i64 r.s, .int .i64 r.g], .int .i64 er]) ∧ Below w.heap.size w w' := by
  cases hs : timeB se
  · rw [hs] at h1 h2
    exact wbad_n1 x se no r er w hs h1 h2
  · cases hn : timeB no
    · rw [hs, hn] at h1 h2
      exact wbad_n2 x se no r er w hs hn h1 h2
    · rw [hs, hn] at h1 h2
      exact wbad_r x se no r er w hs hn h1 h2
end Go.Proofs.Ytcjhankepchioaa
