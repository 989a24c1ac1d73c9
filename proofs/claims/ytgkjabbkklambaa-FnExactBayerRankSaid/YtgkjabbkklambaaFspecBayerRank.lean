-- Written by tools/seatprint.py (over the kit's print, changed in memory). Not trusted: Lean checks it.
import Derived.Test.YtgkjabbkklambaaP0
import Derived.Test.YtgkjabbkklambaaFspecl1In
import Derived.Test.YtgkjabbkklambaaFspecl2Mod
namespace Go.Proofs.Ytgkjabbkklambaa.P
open Go.RowKit Go.Proofs.YtgkjabbkklambaaW.PrintWords Go.Proofs.YtgkjabbkklambaaW.PrintLast Go.Proofs.YtgkjabbkklambaaW.PrintMore
attribute [local go_sem] max2_int min2_int max_two min_two max_three min_three max_four min_four   -- for this text's walks alone
set_option linter.unusedVariables false
set_option linter.unusedSimpArgs false

/-! ### spec_BayerRank: function 34 -/
def spec_BayerRank.l0 : Nat → Int → Int → Int → Int → Int → Option (Int)
  | 0, _, _, _, _, _ => none
  | k + 1, x0, x1, x2, x7, x8 => if x8 ≥ 0 then (if 0 ≤ (wrap64 ((wrap64 (x0 - 1)) - x8)) then (spec_BayerRank.l0 k x0 x1 x2 (wrap64 ((wrap64 ((wrap64 (4 * x7)) + (wrap64 (2 * (Go.bits .xor .i64 (Go.bits .and .i64 (shr .i64 x1 (wrap64 ((wrap64 (x0 - 1)) - x8))) 1) (Go.bits .and .i64 (shr .i64 x2 (wrap64 ((wrap64 (x0 - 1)) - x8))) 1)))))) + (Go.bits .and .i64 (shr .i64 x2 (wrap64 ((wrap64 (x0 - 1)) - x8))) 1))) (wrap64 (x8 - 1))) else (none)) else (some x7)
def spec_BayerRank.f (k : Nat) (a0 : Int) (a1 : Int) (a2 : Int) : Option (Int) := (spec_l1In.f a0 0 4).bind fun t101 => (if t101 = true then (if 0 ≤ a0 then ((spec_l2Mod.f a1 (shl .i64 1 a0)).bind fun t102 => ((spec_l2Mod.f a2 (shl .i64 1 a0)).bind fun t103 => (spec_BayerRank.l0 k a0 t102 t103 0 (wrap64 (a0 - 1))))) else (none)) else (some (-1)))
theorem spec_BayerRank.mono_l : ∀ k, (∀ y0 y1 y2 y3 y4, LeO (spec_BayerRank.l0 k y0 y1 y2 y3 y4) (spec_BayerRank.l0 (k + 1) y0 y1 y2 y3 y4))
  | 0 => fun _ _ _ _ _ r h => by simp [spec_BayerRank.l0] at h
  | k + 1 => by
    have ih0 := spec_BayerRank.mono_l k
    · intro y0 y1 y2 y3 y4
      unfold spec_BayerRank.l0
      repeat' first
      | (with_reducible exact ih0 _ _ _ _ _)
      | (with_reducible exact LeO.refl _)
      | (with_reducible exact LeO.none _)
      | (with_reducible refine LeO.ite ?_ ?_)
      | (with_reducible refine LeO.bind ?_ (fun _ => ?_))
      | exact ih0 _ _ _ _ _
      | exact LeO.none _
      | refine LeO.ite ?_ ?_
      | refine LeO.bind ?_ (fun _ => ?_)
theorem spec_BayerRank.mono : ∀ a0 a1 a2 k, LeO (spec_BayerRank.f k a0 a1 a2) (spec_BayerRank.f (k + 1) a0 a1 a2) := by
  intro a0 a1 a2 k
  have ih0 := spec_BayerRank.mono_l k
  unfold spec_BayerRank.f
  repeat' first
      | (with_reducible exact ih0 _ _ _ _ _)
      | (with_reducible exact LeO.refl _)
      | (with_reducible exact LeO.none _)
      | (with_reducible refine LeO.ite ?_ ?_)
      | (with_reducible refine LeO.bind ?_ (fun _ => ?_))
      | exact ih0 _ _ _ _ _
      | exact LeO.none _
      | refine LeO.ite ?_ ?_
      | refine LeO.bind ?_ (fun _ => ?_)
set_option maxHeartbeats 8000000 in
set_option maxRecDepth 100000 in
theorem spec_BayerRank.calls (k : Nat) (a0 : Int) (a1 : Int) (a2 : Int) (r : Int) (w : World) (h : spec_BayerRank.f k a0 a1 a2 = some r) :
    Calls Try.prog 34 #[.int .i64 a0, .int .i64 a1, .int .i64 a2] w fun e w' => e = .returned (.int .i64 r) ∧ Drawn0 w w' := by
  have H : ((spec_l1In.f a0 0 4).bind fun t101 => (if t101 = true then (if 0 ≤ a0 then ((spec_l2Mod.f a1 (shl .i64 1 a0)).bind fun t102 => ((spec_l2Mod.f a2 (shl .i64 1 a0)).bind fun t103 => (spec_BayerRank.l0 k a0 t102 t103 0 (wrap64 (a0 - 1))))) else (none)) else (some (-1)))) = some r := h
  clear h
  replace H := Option.bind_eq_some_iff.mp H
  obtain ⟨t101, A40, H⟩ := H
  replace H : (if t101 = true then (if 0 ≤ a0 then ((spec_l2Mod.f a1 (shl .i64 1 a0)).bind fun t102 => ((spec_l2Mod.f a2 (shl .i64 1 a0)).bind fun t103 => (spec_BayerRank.l0 k a0 t102 t103 0 (wrap64 (a0 - 1))))) else (none)) else (some (-1))) = some r := H
  have A4 := Aside0.mk A40
  clear A40
  by_cases c5 : t101 = true
  · subst c5
    have H1 : (if 0 ≤ a0 then ((spec_l2Mod.f a1 (shl .i64 1 a0)).bind fun t102 => ((spec_l2Mod.f a2 (shl .i64 1 a0)).bind fun t103 => (spec_BayerRank.l0 k a0 t102 t103 0 (wrap64 (a0 - 1))))) else (none)) = some r := by rw [if_pos rfl] at H; exact H
    clear H
    have H := H1
    clear H1
    by_cases c6 : 0 ≤ a0
    · rw [if_pos c6] at H
      have c6b0 := eq_true c6
      have c6b1 : decide (0 ≤ a0) = true := decide_eq_true c6
      clear c6
      obtain ⟨ji7, hji7⟩ : ∃ j_ : Int, (shl .i64 1 a0) = j_ := ⟨_, rfl⟩
      replace H : ((spec_l2Mod.f a1 (ji7)).bind fun t102 => ((spec_l2Mod.f a2 (ji7)).bind fun t103 => (spec_BayerRank.l0 k a0 t102 t103 0 (wrap64 (a0 - 1))))) = some r := by first | (rw [hji7] at H; exact H) | (simp only [hji7] at H ⊢; exact H)
      (try rw [hji7] at A4)
      have hji7_ : (IntKind.i64.wrap (1 * 2 ^ min a0.toNat 64)) = ji7 := hji7
      have hji7z : a0 ≤ 64 → (IntKind.i64.wrap (1 * 2 ^ a0.toNat)) = ji7 := shl_small hji7
      have hji7u : (IntKind.i64.wrap (2 ^ min a0.toNat 64)) = ji7 := by have h_ := hji7_; rw [Int.one_mul] at h_; exact h_
      have hji7v : a0 ≤ 64 → (IntKind.i64.wrap (2 ^ a0.toNat)) = ji7 := fun hle_ => by have h_ := hji7z hle_; rw [Int.one_mul] at h_; exact h_
      have hji7y : (wrap64 (1 * 2 ^ min a0.toNat 64)) = ji7 := (i64_w _).symm.trans hji7_
      have hji7x : a0 ≤ 64 → (wrap64 (1 * 2 ^ a0.toNat)) = ji7 := fun h_ => (i64_w _).symm.trans (hji7z h_)
      replace H := Option.bind_eq_some_iff.mp H
      obtain ⟨t102, A80, H⟩ := H
      replace H : ((spec_l2Mod.f a2 (ji7)).bind fun t103 => (spec_BayerRank.l0 k a0 t102 t103 0 (wrap64 (a0 - 1)))) = some r := H
      have A8 := Aside0.mk A80
      clear A80
      have c9b0 := eq_true (of_decide_eq_true (by first | (with_reducible assumption) | assumption) : 0 ≤ a0)
      replace H := Option.bind_eq_some_iff.mp H
      obtain ⟨t103, A100, H⟩ := H
      replace H : (spec_BayerRank.l0 k a0 t102 t103 0 (wrap64 (a0 - 1))) = some r := H
      have A10 := Aside0.mk A100
      clear A100
      have H' := Aside0.mk H
      clear H
      go_enter Try.func34, Try.ntmps34
      go_wp2_with (first | ((with_reducible refine gate_callee (f := 102) rfl ?_); refine goesL_ (some 12) rfl rfl Try.func102 (by kernel_rfl) rfl #[.int .i64 a0, .int .i64 0, .int .i64 4] rfl (by (try simp only [List.map_toArray, List.map_cons, List.map_nil]); first | done | rfl | (simp only [List.length_drop, List.length_take]; rfl)) ?_; (with_reducible refine (spec_l1In.calls a0 0 4 true _ A4.out).mono ?_); rintro e w' ⟨rfl, ⟨nd, rfl⟩⟩; refine ⟨_, rfl, ?_⟩) | ((with_reducible refine gate_callee (f := 103) rfl ?_); refine goesL_ (some 17) rfl rfl Try.func103 (by kernel_rfl) rfl #[.int .i64 a1, .int .i64 ji7] rfl (by (try simp only [List.map_toArray, List.map_cons, List.map_nil]); first | done | (simp only [hji7]; rfl) | rfl | (simp only [List.length_drop, List.length_take]; rfl)) ?_; (with_reducible refine (spec_l2Mod.calls a1 ji7 t102 _ A8.out).mono ?_); rintro e w' ⟨rfl, ⟨nd, rfl⟩⟩; refine ⟨_, rfl, ?_⟩) | ((with_reducible refine gate_callee (f := 103) rfl ?_); refine goesL_ (some 21) rfl rfl Try.func103 (by kernel_rfl) rfl #[.int .i64 a2, .int .i64 ji7] rfl (by (try simp only [List.map_toArray, List.map_cons, List.map_nil]); first | done | (simp only [hji7]; rfl) | rfl | (simp only [List.length_drop, List.length_take]; rfl)) ?_; (with_reducible refine (spec_l2Mod.calls a2 ji7 t103 _ A10.out).mono ?_); rintro e w' ⟨rfl, ⟨nd, rfl⟩⟩; refine ⟨_, rfl, ?_⟩))
      go_loopg [7, 8] k (fun kq v7 v8 w' => ∃ (x7_1 : Int) (x8_1 : Int), v7 = .int .i64 x7_1 ∧ v8 = .int .i64 x8_1 ∧ Aside0 (spec_BayerRank.l0 kq a0 t102 t103 x7_1 x8_1 = some r) ∧ Aside0 (kq ≤ k) ∧ Drawn0 w w')
      case atStart => exact ⟨(0), (wrap64 (a0 - 1)), (by first | rfl | (simp; done) | (simp [*]; done)), (by first | rfl | (simp; done) | (simp [*]; done)), H', ⟨Nat.le_refl _⟩, by repeat (first | exact Drawn0.refl _ | apply Drawn0.step)⟩
      case round =>
        clear H'
        try clear c1
        try clear p2
        try clear c3
        try clear c5
        try clear c6
        try clear c6b0
        try clear c6b1
        try clear p6
        try clear c9
        try clear c9b0
        try clear c10
        obtain ⟨x7_1, x8_1, rfl, rfl, HA, HK1, ⟨m1, rfl⟩⟩ := hrel
        cases gk with
        | zero => exact absurd HA.out (by simp [spec_BayerRank.l0])
        | succ k1 =>
          have H := HA.out
          clear HA
          simp only [spec_BayerRank.l0] at H
          by_cases c11 : x8_1 ≥ 0
          · rw [if_pos c11] at H
            have c11b0 : decide (0 ≤ x8_1) = true := decide_eq_true c11
            clear c11
            obtain ⟨ji12, hji12⟩ : ∃ j_ : Int, (wrap64 ((wrap64 (a0 - 1)) - x8_1)) = j_ := ⟨_, rfl⟩
            replace H : (if 0 ≤ (ji12) then (spec_BayerRank.l0 k1 a0 t102 t103 (wrap64 ((wrap64 ((wrap64 (4 * x7_1)) + (wrap64 (2 * (Go.bits .xor .i64 (Go.bits .and .i64 (shr .i64 t102 (ji12)) 1) (Go.bits .and .i64 (shr .i64 t103 (ji12)) 1)))))) + (Go.bits .and .i64 (shr .i64 t103 (ji12)) 1))) (wrap64 (x8_1 - 1))) else (none)) = some r := by first | (rw [hji12] at H; exact H) | (simp only [hji12] at H ⊢; exact H)
            have hji12w : (IntKind.i64.wrap ((wrap64 (a0 - 1)) - x8_1)) = ji12 := (i64_w _).trans hji12
            have hji12n : (IntKind.i64.wrap ((IntKind.i64.wrap (a0 - 1)) - x8_1)) = ji12 := by first | (simpa only [i64_w] using hji12) | (simp only [i64_w]; exact hji12)
            by_cases c13 : 0 ≤ (ji12)
            · rw [if_pos c13] at H
              have c13b0 := eq_true c13
              have c13b1 : decide (0 ≤ (ji12)) = true := decide_eq_true c13
              clear c13
              obtain ⟨ji14, hji14⟩ : ∃ j_ : Int, (shr .i64 t102 (ji12)) = j_ := ⟨_, rfl⟩
              replace H : (spec_BayerRank.l0 k1 a0 t102 t103 (wrap64 ((wrap64 ((wrap64 (4 * x7_1)) + (wrap64 (2 * (Go.bits .xor .i64 (Go.bits .and .i64 (ji14) 1) (Go.bits .and .i64 (shr .i64 t103 (ji12)) 1)))))) + (Go.bits .and .i64 (shr .i64 t103 (ji12)) 1))) (wrap64 (x8_1 - 1))) = some r := by first | (rw [hji14] at H; exact H) | (simp only [hji14] at H ⊢; exact H)
              have hji14_ : (t102 / 2 ^ min (ji12).toNat 64) = ji14 := hji14
              have hji14z : (ji12) ≤ 64 → (t102 / 2 ^ (ji12).toNat) = ji14 := shr_small hji14
              have c15b0 := eq_true (of_decide_eq_true (by first | (with_reducible assumption) | assumption) : 0 ≤ (ji12))
              obtain ⟨ji16, hji16⟩ : ∃ j_ : Int, (shr .i64 t103 (ji12)) = j_ := ⟨_, rfl⟩
              replace H : (spec_BayerRank.l0 k1 a0 t102 t103 (wrap64 ((wrap64 ((wrap64 (4 * x7_1)) + (wrap64 (2 * (Go.bits .xor .i64 (Go.bits .and .i64 (ji14) 1) (Go.bits .and .i64 (ji16) 1)))))) + (Go.bits .and .i64 (ji16) 1))) (wrap64 (x8_1 - 1))) = some r := by first | (rw [hji16] at H; exact H) | (simp only [hji16] at H ⊢; exact H)
              have hji16_ : (t103 / 2 ^ min (ji12).toNat 64) = ji16 := hji16
              have hji16z : (ji12) ≤ 64 → (t103 / 2 ^ (ji12).toNat) = ji16 := shr_small hji16
              have H' := Aside0.mk H
              clear H
              go_wp2
              go_roundg k1
              case measure => have := HK1.out; omega
              case rel => exact ⟨(wrap64 ((wrap64 ((wrap64 (4 * x7_1)) + (wrap64 (2 * (Go.bits .xor .i64 (Go.bits .and .i64 (ji14) 1) (Go.bits .and .i64 (ji16) 1)))))) + (Go.bits .and .i64 (ji16) 1))), (wrap64 (x8_1 - 1)), (by first | rfl | (simp; done) | (simp only [← hji14, ← hji16] <;> (first | rfl | simp)) | (simp [*]; done)), (by first | rfl | (simp; done) | (simp [*]; done)), H', ⟨by have := HK1.out; omega⟩, by repeat (first | exact Drawn0.refl _ | apply Drawn0.step)⟩
            · rw [if_neg c13] at H
              exact absurd H (by simp)
          · rw [if_neg c11] at H
            have c11b0 : decide (0 ≤ x8_1) = false := decide_eq_false c11
            clear c11
            obtain rfl := Option.some.inj H
            go_wp2
            go_ret
            exact ⟨by first | rfl | (simp; done) | (simp only [← hji7] <;> (first | rfl | simp)) | (simp [*]; done), by repeat (first | exact Drawn0.refl _ | apply Drawn0.step)⟩
    · rw [if_neg c6] at H
      exact absurd H (by simp)
  · replace c5 := Bool.eq_false_iff.mpr c5
    subst c5
    have H1 : (some (-1)) = some r := by rw [if_neg (show ¬ (false = true) by decide)] at H; exact H
    clear H
    have H := H1
    clear H1
    obtain rfl := Option.some.inj H
    go_enter Try.func34, Try.ntmps34
    go_wp2_with (first | ((with_reducible refine gate_callee (f := 102) rfl ?_); refine goesL_ (some 12) rfl rfl Try.func102 (by kernel_rfl) rfl #[.int .i64 a0, .int .i64 0, .int .i64 4] rfl (by (try simp only [List.map_toArray, List.map_cons, List.map_nil]); first | done | rfl | (simp only [List.length_drop, List.length_take]; rfl)) ?_; (with_reducible refine (spec_l1In.calls a0 0 4 false _ A4.out).mono ?_); rintro e w' ⟨rfl, ⟨nd, rfl⟩⟩; refine ⟨_, rfl, ?_⟩))
    go_ret
    exact ⟨by first | rfl | (simp; done) | (simp [*]; done), by repeat (first | exact Drawn0.refl _ | apply Drawn0.step)⟩

end Go.Proofs.Ytgkjabbkklambaa.P
