-- Written by tools/seatprint.py (over the kit's print, changed in memory). Not trusted: Lean checks it.
import Derived.Test.YtdlehfnlibddcaaP0
import Derived.Test.YtdlehfnlibddcaaFimplmod
namespace Go.Proofs.Ytdlehfnlibddcaa.P
open Go.RowKit Go.Proofs.YtdlehfnlibddcaaW.PrintWords Go.Proofs.YtdlehfnlibddcaaW.PrintLast Go.Proofs.YtdlehfnlibddcaaW.PrintMore
attribute [local go_sem] max2_int min2_int max_two min_two max_three min_three max_four min_four   -- for this text's walks alone
set_option linter.unusedVariables false
set_option linter.unusedSimpArgs false

/-! ### impl_BayerRank: function 30 -/
mutual
def impl_BayerRank.j0 : Nat → Int → Int → Int → Bool → Option (Int)
  | 0, _, _, _, _ => none
  | k + 1, x0, x1, x2, x16 => if x16 = true then (some (-1)) else (if 0 ≤ x0 then ((impl_mod.f x1 (shl .i64 1 x0)).bind fun t151 => ((impl_mod.f x2 (shl .i64 1 x0)).bind fun t152 => (impl_BayerRank.l0 k x0 t151 t152 0 x0 0))) else (none))
def impl_BayerRank.l0 : Nat → Int → Int → Int → Int → Int → Int → Option (Int)
  | 0, _, _, _, _, _, _ => none
  | k + 1, x0, x1, x2, x7, x25, x26 => if x26 < x25 then (if 0 ≤ (wrap64 ((wrap64 (x0 - 1)) - x26)) then (if 0 ≤ (wrap64 (2 * x26)) then (impl_BayerRank.l0 k x0 x1 x2 (wrap64 (x7 + (wrap64 ((shl .i64 1 (wrap64 (2 * x26))) * (wrap64 ((wrap64 (2 * (Go.bits .xor .i64 (Go.bits .and .i64 (shr .i64 x1 (wrap64 ((wrap64 (x0 - 1)) - x26))) 1) (Go.bits .and .i64 (shr .i64 x2 (wrap64 ((wrap64 (x0 - 1)) - x26))) 1)))) + (Go.bits .and .i64 (shr .i64 x2 (wrap64 ((wrap64 (x0 - 1)) - x26))) 1))))))) x25 (wrap64 (x26 + 1))) else (none)) else (none)) else (some x7)
end
def impl_BayerRank.f (k : Nat) (a0 : Int) (a1 : Int) (a2 : Int) : Option (Int) := if a0 < 0 then (impl_BayerRank.j0 k a0 a1 a2 true) else (impl_BayerRank.j0 k a0 a1 a2 (decide (a0 > 4)))
theorem impl_BayerRank.mono_l : ∀ k, (∀ y0 y1 y2 y3, LeO (impl_BayerRank.j0 k y0 y1 y2 y3) (impl_BayerRank.j0 (k + 1) y0 y1 y2 y3)) ∧ (∀ y0 y1 y2 y3 y4 y5, LeO (impl_BayerRank.l0 k y0 y1 y2 y3 y4 y5) (impl_BayerRank.l0 (k + 1) y0 y1 y2 y3 y4 y5))
  | 0 => ⟨fun _ _ _ _ r h => by simp [impl_BayerRank.j0] at h, fun _ _ _ _ _ _ r h => by simp [impl_BayerRank.l0] at h⟩
  | k + 1 => by
    obtain ⟨ih0, ih1⟩ := impl_BayerRank.mono_l k
    refine ⟨?_, ?_⟩
    · intro y0 y1 y2 y3
      unfold impl_BayerRank.j0
      repeat' first
      | (with_reducible exact ih0 _ _ _ _)
      | (with_reducible exact ih1 _ _ _ _ _ _)
      | (with_reducible exact LeO.refl _)
      | (with_reducible exact LeO.none _)
      | (with_reducible refine LeO.ite ?_ ?_)
      | (with_reducible refine LeO.bind ?_ (fun _ => ?_))
      | exact ih0 _ _ _ _
      | exact ih1 _ _ _ _ _ _
      | exact LeO.none _
      | refine LeO.ite ?_ ?_
      | refine LeO.bind ?_ (fun _ => ?_)
    · intro y0 y1 y2 y3 y4 y5
      unfold impl_BayerRank.l0
      repeat' first
      | (with_reducible exact ih0 _ _ _ _)
      | (with_reducible exact ih1 _ _ _ _ _ _)
      | (with_reducible exact LeO.refl _)
      | (with_reducible exact LeO.none _)
      | (with_reducible refine LeO.ite ?_ ?_)
      | (with_reducible refine LeO.bind ?_ (fun _ => ?_))
      | exact ih0 _ _ _ _
      | exact ih1 _ _ _ _ _ _
      | exact LeO.none _
      | refine LeO.ite ?_ ?_
      | refine LeO.bind ?_ (fun _ => ?_)
theorem impl_BayerRank.mono : ∀ a0 a1 a2 k, LeO (impl_BayerRank.f k a0 a1 a2) (impl_BayerRank.f (k + 1) a0 a1 a2) := by
  intro a0 a1 a2 k
  obtain ⟨ih0, ih1⟩ := impl_BayerRank.mono_l k
  unfold impl_BayerRank.f
  repeat' first
      | (with_reducible exact ih0 _ _ _ _)
      | (with_reducible exact ih1 _ _ _ _ _ _)
      | (with_reducible exact LeO.refl _)
      | (with_reducible exact LeO.none _)
      | (with_reducible refine LeO.ite ?_ ?_)
      | (with_reducible refine LeO.bind ?_ (fun _ => ?_))
      | exact ih0 _ _ _ _
      | exact ih1 _ _ _ _ _ _
      | exact LeO.none _
      | refine LeO.ite ?_ ?_
      | refine LeO.bind ?_ (fun _ => ?_)
set_option maxHeartbeats 8000000 in
set_option maxRecDepth 100000 in
theorem impl_BayerRank.calls (k : Nat) (a0 : Int) (a1 : Int) (a2 : Int) (r : Int) (w : World) (h : impl_BayerRank.f k a0 a1 a2 = some r) :
    Calls Try.prog 30 #[.int .i64 a0, .int .i64 a1, .int .i64 a2] w fun e w' => e = .returned (.int .i64 r) ∧ Drawn0 w w' := by
  have H : (if a0 < 0 then (impl_BayerRank.j0 k a0 a1 a2 true) else (impl_BayerRank.j0 k a0 a1 a2 (decide (a0 > 4)))) = some r := h
  clear h
  have HC4 := Aside0.mk H
  clear H
  go_enter Try.func30, Try.ntmps30
  go_upto_region 1 with (fail)
  repeat (go_quiet (fail); go_upto_region 1 with (fail))
  go_cut [16] (fun v16 wc => ∃ (kq : Nat) (x16_3 : Bool), v16 = .bool x16_3 ∧ Aside0 (impl_BayerRank.j0 kq a0 a1 a2 x16_3 = some r) ∧ Aside0 (kq ≤ k) ∧ Drawn0 w wc)
  case first =>
    have H := HC4.out
    clear HC4
    by_cases c5 : a0 < 0
    · rw [if_pos c5] at H
      have c5b0 : decide (a0 < 0) = true := decide_eq_true c5
      clear c5
      (first | rw [c5b0] | (simp only [i64_w, i32_w]; rw [c5b0]) | skip)
      have H' := Aside0.mk H
      clear H
      go_wp2
      repeat (go_quiet (fail); try go_wp2)
      go_meet
      case rel => exact ⟨_, (true), (by first | rfl | (simp; done) | (simp [*]; done)), H', ⟨by first | omega | exact Nat.le_refl _⟩, by repeat (first | exact Drawn0.refl _ | apply Drawn0.step)⟩
    · rw [if_neg c5] at H
      have c5b0 : decide (a0 < 0) = false := decide_eq_false c5
      clear c5
      (first | rw [c5b0] | (simp only [i64_w, i32_w]; rw [c5b0]) | skip)
      have H' := Aside0.mk H
      clear H
      go_wp2
      repeat (go_quiet (fail); try go_wp2)
      go_meet
      case rel => exact ⟨_, (decide (a0 > 4)), (by first | rfl | (simp; done) | (simp [*]; done)), H', ⟨by first | omega | exact Nat.le_refl _⟩, by repeat (first | exact Drawn0.refl _ | apply Drawn0.step)⟩
  case rest =>
    clear HC4
    try clear p2
    try clear c3
    try clear c5
    try clear c5b0
    obtain ⟨kq, x16_3, rfl, HA, HJ3, ⟨mc3, rfl⟩⟩ := hcut
    cases kq with
    | zero => exact absurd HA.out (by simp [impl_BayerRank.j0])
    | succ kj3 =>
      have H := HA.out
      clear HA
      simp only [impl_BayerRank.j0] at H
      by_cases c6 : x16_3 = true
      · subst c6
        have H1 : (some (-1)) = some r := by rw [if_pos rfl] at H; exact H
        clear H
        have H := H1
        clear H1
        obtain rfl := Option.some.inj H
        go_wp2
        repeat (go_quiet (fail); try go_wp2)
        go_ret
        exact ⟨by first | rfl | (simp; done) | (simp [*]; done), by repeat (first | exact Drawn0.refl _ | apply Drawn0.step)⟩
      · replace c6 := Bool.eq_false_iff.mpr c6
        subst c6
        have H1 : (if 0 ≤ a0 then ((impl_mod.f a1 (shl .i64 1 a0)).bind fun t151 => ((impl_mod.f a2 (shl .i64 1 a0)).bind fun t152 => (impl_BayerRank.l0 kj3 a0 t151 t152 0 a0 0))) else (none)) = some r := by rw [if_neg (show ¬ (false = true) by decide)] at H; exact H
        clear H
        have H := H1
        clear H1
        by_cases c7 : 0 ≤ a0
        · rw [if_pos c7] at H
          have c7b0 := eq_true c7
          have c7b1 : decide (0 ≤ a0) = true := decide_eq_true c7
          clear c7
          obtain ⟨ji8, hji8⟩ : ∃ j_ : Int, (shl .i64 1 a0) = j_ := ⟨_, rfl⟩
          replace H : ((impl_mod.f a1 (ji8)).bind fun t151 => ((impl_mod.f a2 (ji8)).bind fun t152 => (impl_BayerRank.l0 kj3 a0 t151 t152 0 a0 0))) = some r := by first | (rw [hji8] at H; exact H) | (simp only [hji8] at H ⊢; exact H)
          have hji8_ : (IntKind.i64.wrap (1 * 2 ^ min a0.toNat 64)) = ji8 := hji8
          have hji8z : a0 ≤ 64 → (IntKind.i64.wrap (1 * 2 ^ a0.toNat)) = ji8 := shl_small hji8
          have hji8u : (IntKind.i64.wrap (2 ^ min a0.toNat 64)) = ji8 := by have h_ := hji8_; rw [Int.one_mul] at h_; exact h_
          have hji8v : a0 ≤ 64 → (IntKind.i64.wrap (2 ^ a0.toNat)) = ji8 := fun hle_ => by have h_ := hji8z hle_; rw [Int.one_mul] at h_; exact h_
          have hji8y : (wrap64 (1 * 2 ^ min a0.toNat 64)) = ji8 := (i64_w _).symm.trans hji8_
          have hji8x : a0 ≤ 64 → (wrap64 (1 * 2 ^ a0.toNat)) = ji8 := fun h_ => (i64_w _).symm.trans (hji8z h_)
          replace H := Option.bind_eq_some_iff.mp H
          obtain ⟨t151, A90, H⟩ := H
          replace H : ((impl_mod.f a2 (ji8)).bind fun t152 => (impl_BayerRank.l0 kj3 a0 t151 t152 0 a0 0)) = some r := H
          have A9 := Aside0.mk A90
          clear A90
          have c10b0 := eq_true (of_decide_eq_true (by first | (with_reducible assumption) | assumption) : 0 ≤ a0)
          replace H := Option.bind_eq_some_iff.mp H
          obtain ⟨t152, A110, H⟩ := H
          replace H : (impl_BayerRank.l0 kj3 a0 t151 t152 0 a0 0) = some r := H
          have A11 := Aside0.mk A110
          clear A110
          have H' := Aside0.mk H
          clear H
          go_wp2_with (first | (go_at_call 89; (with_reducible refine (impl_mod.calls a1 ji8 t151 _ A9.out).mono ?_); rintro e w' ⟨rfl, ⟨nd, rfl⟩⟩; (try first | exact ⟨rfl, _, World.drewN_drewN _ _ _⟩ | exact ⟨rfl, _, Eq.trans (World.drewN_drewN _ _ _) (congrArg (World.drewN _) (Nat.add_assoc _ _ _))⟩)) | (go_at_call 89; (with_reducible refine (impl_mod.calls a2 ji8 t152 _ A11.out).mono ?_); rintro e w' ⟨rfl, ⟨nd, rfl⟩⟩; (try first | exact ⟨rfl, _, World.drewN_drewN _ _ _⟩ | exact ⟨rfl, _, Eq.trans (World.drewN_drewN _ _ _) (congrArg (World.drewN _) (Nat.add_assoc _ _ _))⟩)))
          repeat (go_quiet (first | (go_at_call 89; (with_reducible refine (impl_mod.calls a1 ji8 t151 _ A9.out).mono ?_); rintro e w' ⟨rfl, ⟨nd, rfl⟩⟩; (try first | exact ⟨rfl, _, World.drewN_drewN _ _ _⟩ | exact ⟨rfl, _, Eq.trans (World.drewN_drewN _ _ _) (congrArg (World.drewN _) (Nat.add_assoc _ _ _))⟩)) | (go_at_call 89; (with_reducible refine (impl_mod.calls a2 ji8 t152 _ A11.out).mono ?_); rintro e w' ⟨rfl, ⟨nd, rfl⟩⟩; (try first | exact ⟨rfl, _, World.drewN_drewN _ _ _⟩ | exact ⟨rfl, _, Eq.trans (World.drewN_drewN _ _ _) (congrArg (World.drewN _) (Nat.add_assoc _ _ _))⟩))); try go_wp2_with (first | (go_at_call 89; (with_reducible refine (impl_mod.calls a1 ji8 t151 _ A9.out).mono ?_); rintro e w' ⟨rfl, ⟨nd, rfl⟩⟩; (try first | exact ⟨rfl, _, World.drewN_drewN _ _ _⟩ | exact ⟨rfl, _, Eq.trans (World.drewN_drewN _ _ _) (congrArg (World.drewN _) (Nat.add_assoc _ _ _))⟩)) | (go_at_call 89; (with_reducible refine (impl_mod.calls a2 ji8 t152 _ A11.out).mono ?_); rintro e w' ⟨rfl, ⟨nd, rfl⟩⟩; (try first | exact ⟨rfl, _, World.drewN_drewN _ _ _⟩ | exact ⟨rfl, _, Eq.trans (World.drewN_drewN _ _ _) (congrArg (World.drewN _) (Nat.add_assoc _ _ _))⟩))))
          go_loopg [7, 26] kj3 (fun kq v7 v26 w' => ∃ (x7_2 : Int) (x26_2 : Int), v7 = .int .i64 x7_2 ∧ v26 = .int .i64 x26_2 ∧ Aside0 (impl_BayerRank.l0 kq a0 t151 t152 x7_2 a0 x26_2 = some r) ∧ Aside0 (kq ≤ kj3) ∧ Drawn0 w w')
          case atStart => exact ⟨(0), (0), (by first | rfl | (simp; done) | (simp [*]; done)), (by first | rfl | (simp; done) | (simp [*]; done)), H', ⟨Nat.le_refl _⟩, by repeat (first | exact Drawn0.refl _ | apply Drawn0.step)⟩
          case round =>
            clear H'
            try clear c1
            try clear p2
            try clear c3
            try clear c5
            try clear c5b0
            try clear c6
            try clear p6
            try clear c7
            try clear c7b0
            try clear c7b1
            try clear c10
            try clear c10b0
            try clear p2
            obtain ⟨x7_2, x26_2, rfl, rfl, HA, HK2, ⟨m2, rfl⟩⟩ := hrel
            cases gk with
            | zero => exact absurd HA.out (by simp [impl_BayerRank.l0])
            | succ k2 =>
              have H := HA.out
              clear HA
              simp only [impl_BayerRank.l0] at H
              by_cases c12 : x26_2 < a0
              · rw [if_pos c12] at H
                have c12b0 : decide (x26_2 < a0) = true := decide_eq_true c12
                clear c12
                obtain ⟨ji13, hji13⟩ : ∃ j_ : Int, (wrap64 ((wrap64 (a0 - 1)) - x26_2)) = j_ := ⟨_, rfl⟩
                replace H : (if 0 ≤ (ji13) then (if 0 ≤ (wrap64 (2 * x26_2)) then (impl_BayerRank.l0 k2 a0 t151 t152 (wrap64 (x7_2 + (wrap64 ((shl .i64 1 (wrap64 (2 * x26_2))) * (wrap64 ((wrap64 (2 * (Go.bits .xor .i64 (Go.bits .and .i64 (shr .i64 t151 (ji13)) 1) (Go.bits .and .i64 (shr .i64 t152 (ji13)) 1)))) + (Go.bits .and .i64 (shr .i64 t152 (ji13)) 1))))))) a0 (wrap64 (x26_2 + 1))) else (none)) else (none)) = some r := by first | (rw [hji13] at H; exact H) | (simp only [hji13] at H ⊢; exact H)
                have hji13w : (IntKind.i64.wrap ((wrap64 (a0 - 1)) - x26_2)) = ji13 := (i64_w _).trans hji13
                have hji13n : (IntKind.i64.wrap ((IntKind.i64.wrap (a0 - 1)) - x26_2)) = ji13 := by first | (simpa only [i64_w] using hji13) | (simp only [i64_w]; exact hji13)
                by_cases c14 : 0 ≤ (ji13)
                · rw [if_pos c14] at H
                  have c14b0 := eq_true c14
                  have c14b1 : decide (0 ≤ (ji13)) = true := decide_eq_true c14
                  clear c14
                  obtain ⟨ji15, hji15⟩ : ∃ j_ : Int, (shr .i64 t151 (ji13)) = j_ := ⟨_, rfl⟩
                  replace H : (if 0 ≤ (wrap64 (2 * x26_2)) then (impl_BayerRank.l0 k2 a0 t151 t152 (wrap64 (x7_2 + (wrap64 ((shl .i64 1 (wrap64 (2 * x26_2))) * (wrap64 ((wrap64 (2 * (Go.bits .xor .i64 (Go.bits .and .i64 (ji15) 1) (Go.bits .and .i64 (shr .i64 t152 (ji13)) 1)))) + (Go.bits .and .i64 (shr .i64 t152 (ji13)) 1))))))) a0 (wrap64 (x26_2 + 1))) else (none)) = some r := by first | (rw [hji15] at H; exact H) | (simp only [hji15] at H ⊢; exact H)
                  have hji15_ : (t151 / 2 ^ min (ji13).toNat 64) = ji15 := hji15
                  have hji15z : (ji13) ≤ 64 → (t151 / 2 ^ (ji13).toNat) = ji15 := shr_small hji15
                  have c16b0 := eq_true (of_decide_eq_true (by first | (with_reducible assumption) | assumption) : 0 ≤ (ji13))
                  obtain ⟨ji17, hji17⟩ : ∃ j_ : Int, (shr .i64 t152 (ji13)) = j_ := ⟨_, rfl⟩
                  replace H : (if 0 ≤ (wrap64 (2 * x26_2)) then (impl_BayerRank.l0 k2 a0 t151 t152 (wrap64 (x7_2 + (wrap64 ((shl .i64 1 (wrap64 (2 * x26_2))) * (wrap64 ((wrap64 (2 * (Go.bits .xor .i64 (Go.bits .and .i64 (ji15) 1) (Go.bits .and .i64 (ji17) 1)))) + (Go.bits .and .i64 (ji17) 1))))))) a0 (wrap64 (x26_2 + 1))) else (none)) = some r := by first | (rw [hji17] at H; exact H) | (simp only [hji17] at H ⊢; exact H)
                  have hji17_ : (t152 / 2 ^ min (ji13).toNat 64) = ji17 := hji17
                  have hji17z : (ji13) ≤ 64 → (t152 / 2 ^ (ji13).toNat) = ji17 := shr_small hji17
                  obtain ⟨ji18, hji18⟩ : ∃ j_ : Int, (wrap64 (2 * x26_2)) = j_ := ⟨_, rfl⟩
                  replace H : (if 0 ≤ (ji18) then (impl_BayerRank.l0 k2 a0 t151 t152 (wrap64 (x7_2 + (wrap64 ((shl .i64 1 (ji18)) * (wrap64 ((wrap64 (2 * (Go.bits .xor .i64 (Go.bits .and .i64 (ji15) 1) (Go.bits .and .i64 (ji17) 1)))) + (Go.bits .and .i64 (ji17) 1))))))) a0 (wrap64 (x26_2 + 1))) else (none)) = some r := by first | (rw [hji18] at H; exact H) | (simp only [hji18] at H ⊢; exact H)
                  have hji18w : (IntKind.i64.wrap (2 * x26_2)) = ji18 := (i64_w _).trans hji18
                  by_cases c19 : 0 ≤ (ji18)
                  · rw [if_pos c19] at H
                    have c19b0 := eq_true c19
                    have c19b1 : decide (0 ≤ (ji18)) = true := decide_eq_true c19
                    clear c19
                    obtain ⟨ji20, hji20⟩ : ∃ j_ : Int, (shl .i64 1 (ji18)) = j_ := ⟨_, rfl⟩
                    replace H : (impl_BayerRank.l0 k2 a0 t151 t152 (wrap64 (x7_2 + (wrap64 ((ji20) * (wrap64 ((wrap64 (2 * (Go.bits .xor .i64 (Go.bits .and .i64 (ji15) 1) (Go.bits .and .i64 (ji17) 1)))) + (Go.bits .and .i64 (ji17) 1))))))) a0 (wrap64 (x26_2 + 1))) = some r := by first | (rw [hji20] at H; exact H) | (simp only [hji20] at H ⊢; exact H)
                    have hji20_ : (IntKind.i64.wrap (1 * 2 ^ min (ji18).toNat 64)) = ji20 := hji20
                    have hji20z : (ji18) ≤ 64 → (IntKind.i64.wrap (1 * 2 ^ (ji18).toNat)) = ji20 := shl_small hji20
                    have hji20u : (IntKind.i64.wrap (2 ^ min (ji18).toNat 64)) = ji20 := by have h_ := hji20_; rw [Int.one_mul] at h_; exact h_
                    have hji20v : (ji18) ≤ 64 → (IntKind.i64.wrap (2 ^ (ji18).toNat)) = ji20 := fun hle_ => by have h_ := hji20z hle_; rw [Int.one_mul] at h_; exact h_
                    have hji20y : (wrap64 (1 * 2 ^ min (ji18).toNat 64)) = ji20 := (i64_w _).symm.trans hji20_
                    have hji20x : (ji18) ≤ 64 → (wrap64 (1 * 2 ^ (ji18).toNat)) = ji20 := fun h_ => (i64_w _).symm.trans (hji20z h_)
                    have H' := Aside0.mk H
                    clear H
                    go_wp2
                    repeat (go_quiet (fail); try go_wp2)
                    go_roundg k2
                    case measure => have := HJ3.out; have := HK2.out; omega
                    case rel => exact ⟨(wrap64 (x7_2 + (wrap64 ((ji20) * (wrap64 ((wrap64 (2 * (Go.bits .xor .i64 (Go.bits .and .i64 (ji15) 1) (Go.bits .and .i64 (ji17) 1)))) + (Go.bits .and .i64 (ji17) 1))))))), (wrap64 (x26_2 + 1)), (by first | rfl | (simp; done) | (simp only [← hji15, ← hji17, ← hji20] <;> (first | rfl | simp)) | (simp [*]; done)), (by first | rfl | (simp; done) | (simp [*]; done)), H', ⟨by have := HJ3.out; have := HK2.out; omega⟩, by repeat (first | exact Drawn0.refl _ | apply Drawn0.step)⟩
                  · rw [if_neg c19] at H
                    exact absurd H (by simp)
                · rw [if_neg c14] at H
                  exact absurd H (by simp)
              · rw [if_neg c12] at H
                have c12b0 : decide (x26_2 < a0) = false := decide_eq_false c12
                clear c12
                obtain rfl := Option.some.inj H
                go_wp2
                repeat (go_quiet (fail); try go_wp2)
                go_ret
                exact ⟨by first | rfl | (simp; done) | (simp only [← hji8] <;> (first | rfl | simp)) | (simp [*]; done), by repeat (first | exact Drawn0.refl _ | apply Drawn0.step)⟩
        · rw [if_neg c7] at H
          exact absurd H (by simp)

end Go.Proofs.Ytdlehfnlibddcaa.P
