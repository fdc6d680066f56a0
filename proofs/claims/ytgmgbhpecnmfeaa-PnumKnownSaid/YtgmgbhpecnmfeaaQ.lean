/-
  The walk of PnumKnown: its loops, out of PnumTells' contract.
-/
import Derived.Test.YtgmgbhpecnmfeaaJ
import Derived.Deep.RegionHeld3
namespace Go.Proofs.Ytgmgbhpecnmfeaa
open Go.RowKit (wrap32 wrap64)
open Go.RowKit
set_option linter.unusedVariables false

def endsV : List Int := [-9223372036854775808, -2, -1, 0, 1, 127, 128, 129, 255, 256, 32768, 32769, 8388608, 2147483648, 2147483649, 9007199254740990, 9007199254740991, 9007199254740992, 9223372036854775807]
def bytesK : List Int := [0, 127, 128, 255, 1]
/-- What stays: what was there; the two lists. -/
structure Kn (w wr : World) : Prop where
  below : Below w.heap.size w wr
  ends : wr.heap[w.heap.size]? = some (.cells (endsV.map (Value.int .i64)).toArray 3 (0, 0))
  bytes : wr.heap[w.heap.size + 1]? = some (.cells (bytesK.map (Value.int .u8)).toArray 5 (0, 0))

theorem blk_lt {w : World} {g : Nat} {o : Obj} (h : w.heap[g]? = some o) : g < w.heap.size := by
  rcases Nat.lt_or_ge g w.heap.size with hlt | hge
  · exact hlt
  · rw [Array.getElem?_eq_none hge] at h; cases h
theorem Kn.kept {w wr w' : World} (h : Kn w wr) (hb : Below wr.heap.size wr w') : Kn w w' :=
  ⟨h.below.trans (hb.mono h.below.size), (hb.block _ (blk_lt h.ends)).trans h.ends, (hb.block _ (blk_lt h.bytes)).trans h.bytes⟩
theorem Kn.end_ {w wr : World} (h : Kn w wr) (i : Nat) (hi : i < 19) : wr.cell? ⟨w.heap.size, i, none⟩ = some (.int .i64 (endsV.getD i 0)) := by
  rw [cell_of_row wr w.heap.size i _ 3 (0, 0) h.ends]
  have : i < endsV.length := hi
  simp [List.getElem?_eq_getElem this, List.getD]

theorem Kn.drew {w wr : World} (h : Kn w wr) : Kn w wr.drew := ⟨h.below.drew, h.ends, h.bytes⟩
theorem Kn.drewN {w wr : World} (h : Kn w wr) (n : Nat) : Kn w (wr.drewN n) := ⟨belowDrewN h.below n, h.ends, h.bytes⟩
theorem Kn.alloc {w wr : World} (h : Kn w wr) (o : Obj) : Kn w (wr.alloc o) := h.kept ((Below.refl _ _).alloc (Nat.le_refl _) _)
theorem Kn.two {w wr : World} {i k : Nat} (h : Kn w wr) (hi : i < 19) (hk : k < 19) : wr.cell? ⟨w.heap.size, i, none⟩ = some (.int .i64 (endsV.getD i 0)) ∧ wr.cell? ⟨w.heap.size, k, none⟩ = some (.int .i64 (endsV.getD k 0)) ∧ Kn w wr :=
  ⟨h.end_ i hi, h.end_ k hk, h⟩
theorem bytesK_ok : ∀ x ∈ bytesK, 0 ≤ x ∧ x ≤ 255 := by decide
theorem Kn.bs {w wr : World} (h : Kn w wr) (off n : Nat) (hn : off + n ≤ 5) : Bs wr (some ⟨w.heap.size + 1, off, none⟩) n ((bytesK.drop off).take n) := by
  have hl : bytesK.length = 5 := rfl
  refine ⟨by rw [List.length_take, List.length_drop, hl]; omega, fun x hx => bytesK_ok x (List.mem_of_mem_drop (List.mem_of_mem_take hx)), fun _ => ⟨_, off, rfl, fun j hj => ?_⟩⟩
  rw [cell_of_row wr (w.heap.size + 1) (off + j) _ 5 (0, 0) h.bytes]
  have h1 : off + j < bytesK.length := by omega
  simp [List.getElem?_eq_getElem h1, List.getD, hj, List.getElem?_drop]

theorem tells_K (w wr : World) (full other : Int) (off n c : Nat) (h : Kn w wr) (hn : off + n ≤ 5) (hc : n ≤ c) :
    Calls Try.prog 3 #[.int .i64 full, .int .i64 other, .slice (some ⟨w.heap.size + 1, off, none⟩) n c] wr fun e w' => e = .returned (.bool true) ∧ Kn w w' :=
  (tells_any full other _ n c _ wr (h.bs off n hn) hc (fun hx => by cases hx)).mono fun _ _ ⟨he, hb⟩ => ⟨he, h.kept hb⟩

theorem tells_L1 (w wr : World) (full other x : Int) (h : Kn w wr) (hx : 0 ≤ x ∧ x ≤ 255) :
    Calls Try.prog 3 #[.int .i64 full, .int .i64 other, .slice (some ⟨wr.heap.size, 0, none⟩) 1 1] (wr.alloc (.cells #[.int .u8 x] 5)) fun e w' => e = .returned (.bool true) ∧ Kn w w' :=
  (tells_any full other _ 1 1 _ _ (lit_1 wr x hx) (Nat.le_refl _) (fun hx => by cases hx)).mono fun _ _ ⟨he, hb⟩ => ⟨he, (h.alloc _).kept hb⟩
theorem tells_L3 (w wr : World) (full other x y z : Int) (h : Kn w wr) (hx : 0 ≤ x ∧ x ≤ 255) (hy : 0 ≤ y ∧ y ≤ 255) (hz : 0 ≤ z ∧ z ≤ 255) :
    Calls Try.prog 3 #[.int .i64 full, .int .i64 other, .slice (some ⟨wr.heap.size, 0, none⟩) 3 3] (wr.alloc (.cells #[.int .u8 x, .int .u8 y, .int .u8 z] 5)) fun e w' => e = .returned (.bool true) ∧ Kn w w' :=
  (tells_any full other _ 3 3 _ _ (lit_3 wr x y z hx hy hz) (Nat.le_refl _) (fun hx => by cases hx)).mono fun _ _ ⟨he, hb⟩ => ⟨he, (h.alloc _).kept hb⟩

theorem kn_start (w : World) : Kn w ((w.alloc (.cells #[.int .i64 (-9223372036854775808), .int .i64 (-2), .int .i64 (-1), .int .i64 0, .int .i64 1, .int .i64 127, .int .i64 128, .int .i64 129, .int .i64 255, .int .i64 256, .int .i64 32768, .int .i64 32769, .int .i64 8388608, .int .i64 2147483648, .int .i64 2147483649, .int .i64 9007199254740990, .int .i64 9007199254740991, .int .i64 9007199254740992, .int .i64 9223372036854775807] 3)).alloc (.cells #[.int .u8 0, .int .u8 127, .int .u8 128, .int .u8 255, .int .u8 1] 5)) :=
  ⟨((Below.refl _ _).alloc (Nat.le_refl _) _).alloc (by simp) _, heap_alloc2_old w _ _, heap_alloc2_new w _ _⟩

set_option maxRecDepth 100000 in
set_option maxHeartbeats 16000000 in
theorem known_walk (w : World) : Calls Try.prog 8 #[] w fun e w' => e = .returned (.bool true) ∧ Below w.heap.size w w' := by
  go_enter Try.func8, Try.ntmps8
  go_wp2_with fail
  go_loopw [3] (fun i wr => ∃ k : Nat, k ≤ 19 ∧ i = .int .i64 k ∧ Kn w wr) (fun i _ => 20 - (intOf i).toNat)
  case atStart => exact ⟨0, by omega, rfl, kn_start w⟩
  case round =>
    obtain ⟨i, hi, rfl, hK⟩ := hrel
    have HK := Lib.hid hK
    clear hK
    by_cases hlt : i < 19
    · have d1 : decide ((i : Int) < 19) = true := by rw [decide_eq_true_eq]; omega
      go_wp2_with fail
      obtain ⟨wo, rfl⟩ : ∃ wo : World, wo = wr := ⟨_, rfl⟩
      go_loopw [4] (fun i wr => ∃ k : Nat, k ≤ 19 ∧ i = .int .i64 k ∧ Kn w wr) (fun i _ => 20 - (intOf i).toNat)
      case atStart => exact ⟨0, by omega, rfl, HK.out⟩
      case round =>
        obtain ⟨k, hk, rfl, hK⟩ := hrel
        have HK := Lib.hid hK
        clear hK
        by_cases hlk : k < 19
        · have d2 : decide ((k : Int) < 19) = true := by rw [decide_eq_true_eq]; omega
          go_wp2_with fail
          obtain ⟨wo', rfl⟩ : ∃ wo : World, wo = wr := ⟨_, rfl⟩
          go_loopw [5] (fun i wr => ∃ k : Nat, k ≤ 6 ∧ i = .int .i64 k ∧ Kn w wr) (fun i _ => 7 - (intOf i).toNat)
          case atStart => exact ⟨0, by omega, rfl, HK.out⟩
          case round =>
            obtain ⟨n, hn, rfl, hK⟩ := hrel
            by_cases hln : n ≤ 5
            · have c1 := hK.end_ i hlt
              have c2 := hK.end_ k hlk
              have h6 : n = 0 ∨ n = 1 ∨ n = 2 ∨ n = 3 ∨ n = 4 ∨ n = 5 := by omega
              clear hln hn
              have i0 : (0 : Int) ≤ (i : Int) := by omega
              have i1 : (i : Int) < 19 := by omega
              have k0 : (0 : Int) ≤ (k : Int) := by omega
              have k1 : (k : Int) < 19 := by omega
              have q0 : IntKind.i64.wrap 0 = 0 := IntWalk.i64_in 0 (by decide)
              have q1 : IntKind.i64.wrap 1 = 1 := IntWalk.i64_in 1 (by decide)
              have q2 : IntKind.i64.wrap 2 = 2 := IntWalk.i64_in 2 (by decide)
              have q3 : IntKind.i64.wrap 3 = 3 := IntWalk.i64_in 3 (by decide)
              have q4 : IntKind.i64.wrap 4 = 4 := IntWalk.i64_in 4 (by decide)
              have q5 : IntKind.i64.wrap 5 = 5 := IntWalk.i64_in 5 (by decide)
              rcases h6 with rfl | rfl | rfl | rfl | rfl | rfl
              all_goals
                go_wp2_with fail
                go_region_held3 (fun w' => w'.cell? ⟨w.heap.size, i, none⟩ = some (.int .i64 (endsV.getD i 0)) ∧ w'.cell? ⟨w.heap.size, k, none⟩ = some (.int .i64 (endsV.getD k 0)) ∧ Kn w w') (first | exact Kn.two (by assumption) hlt hlk | exact Kn.two (Kn.drew (by assumption)) hlt hlk)
                  (first | (go_at_call 3; refine (tells_K w _ _ _ _ _ _ ?_ ?_ ?_).mono ?_; (first | assumption | (refine Kn.drew ?_; assumption)); omega; omega; rintro e w' ⟨rfl, hbk⟩))
                all_goals
                  go_wp2_with fail
                  refine ⟨?_, by simp [intOf]⟩
                  first | exact ⟨1, by omega, rfl, by assumption⟩ | exact ⟨2, by omega, rfl, by assumption⟩ | exact ⟨3, by omega, rfl, by assumption⟩ | exact ⟨4, by omega, rfl, by assumption⟩ | exact ⟨5, by omega, rfl, by assumption⟩ | exact ⟨6, by omega, rfl, by assumption⟩
            · have HK := Lib.hid hK
              clear hK
              obtain rfl : n = 6 := by omega
              go_wp2_with fail
              go_roundw
              case rel => exact ⟨k + 1, by omega, by go_num, HK.out⟩
              case measure => simp [intOf]; omega
        · have hge : 19 ≤ k := by omega
          have d2 : decide ((k : Int) < 19) = false := by rw [decide_eq_false_iff_not]; omega
          go_wp2_with fail
          obtain ⟨wo', rfl⟩ : ∃ wo : World, wo = wr := ⟨_, rfl⟩
          go_loopw [6] (fun i wr => ∃ k : Nat, k ≤ 256 ∧ i = .int .i64 k ∧ Kn w wr) (fun i _ => 257 - (intOf i).toNat)
          case atStart => exact ⟨0, by omega, rfl, HK.out⟩
          case round =>
            obtain ⟨n, hn, rfl, hK⟩ := hrel
            by_cases hln : n < 256
            · have c1 := hK.end_ i hlt
              have HK := Lib.hid hK
              clear hK
              go_wp2_with fail
              refine (tells_L1 w wr _ _ _ HK.out (by omega)).mono ?_
              rintro e w2 ⟨rfl, hK2⟩
              have c3 := hK2.end_ i hlt
              have HK2 := Lib.hid hK2
              clear hK2 c1
              go_wp2_with fail
              refine (tells_L3 w w2 _ _ _ 255 _ HK2.out (by omega) (by omega) (by omega)).mono ?_
              rintro e w3 ⟨rfl, hK3⟩
              have HK3 := Lib.hid hK3
              clear hK3 c3
              go_wp2_with fail
              go_roundw
              case rel => exact ⟨n + 1, by omega, by go_num, HK3.out⟩
              case measure => simp [intOf]; omega
            · have HK := Lib.hid hK
              clear hK
              go_wp2_with fail
              go_roundw
              case rel => exact ⟨i + 1, by omega, by go_num, HK.out⟩
              case measure => simp [intOf]; omega
    · obtain rfl : i = 19 := by omega
      go_wp2_with (first | (go_at_call 17; refine (works_ok _).mono ?_; rintro e w8 ⟨rfl, hb8⟩; have H8 := Lib.hid ((HK.out.kept hb8).below); clear hb8))
      go_ret
      exact ⟨rfl, H8.out⟩
end Go.Proofs.Ytgmgbhpecnmfeaa
