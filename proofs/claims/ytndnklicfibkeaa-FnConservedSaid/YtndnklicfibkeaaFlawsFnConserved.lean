-- Written by tools/seatprint.py (over the kit's print, changed in memory). Not trusted: Lean checks it.
import Derived.Test.YtndnklicfibkeaaP0
import Derived.Test.YtndnklicfibkeaaFspecMakeKernel
import Derived.Test.YtndnklicfibkeaaFspecMakePicture
import Derived.Test.YtndnklicfibkeaaFlawsfresh
import Derived.Test.YtndnklicfibkeaaFlawsat
import Derived.Test.YtndnklicfibkeaaFimplDiffusePicture
import Derived.Test.YtndnklicfibkeaaFimplIsPlate
import Derived.Test.YtndnklicfibkeaaFimplCountInk
import Derived.Test.YtndnklicfibkeaaFlawstotal
import Derived.Test.YtndnklicfibkeaaFimplErrorsOf
namespace Go.Proofs.Ytndnklicfibkeaa.P
open Go.RowKit Go.Proofs.YtndnklicfibkeaaW.PrintWords Go.Proofs.YtndnklicfibkeaaW.PrintLast Go.Proofs.YtndnklicfibkeaaW.PrintMore
attribute [local go_sem] max2_int min2_int max_two min_two max_three min_three max_four min_four   -- for this text's walks alone
set_option linter.unusedVariables false
set_option linter.unusedSimpArgs false

/-! ### laws_FnConserved: function 3 -/
def laws_FnConserved.f (k : Nat) (l0 : List Int) : Option (Bool) := if (l0.length : Int) > 1048576 then (some true) else ((spec_MakeKernel.f k l0).bind fun t340 => ((laws_fresh.f k l0 3).bind fun t343 => ((spec_MakePicture.f k t343 9).bind fun bt346 => ((laws_at.f l0 1).bind fun t352 => ((impl_DiffusePicture.f k t340 bt346.1 bt346.2.1 bt346.2.2 ((Int.tmod t352 2) == 1)).bind fun bt353 => (if bt353.2.2.2.2 = true then ((impl_IsPlate.f bt353.1 bt353.2.1 bt353.2.2.1).bind fun t361 => (if t361 = true then (if (bt353.2.2.1.length : Int) = (bt346.2.2.length : Int) then ((impl_CountInk.f k bt353.1 bt353.2.1 bt353.2.2.1 1).bind fun t362 => ((laws_total.f k bt346.2.2).bind fun t363 => (if (wrap64 ((wrap64 (255 * t362)) + bt353.2.2.2.1)) = t363 then ((impl_ErrorsOf.f k t340 bt346.1 bt346.2.1 bt346.2.2 ((Int.tmod t352 2) == 1)).bind fun t364 => (if (t364.length : Int) = (bt346.2.2.length : Int) then (if 0 < (t364.length : Int) then (if 0 < (bt346.2.2.length : Int) then (if 0 < (bt353.2.2.1.length : Int) then (some ((rd t364 0) == (wrap64 ((rd bt346.2.2 0) - (wrap64 (255 * (rd bt353.2.2.1 0))))))) else (none)) else (none)) else (none)) else (some false))) else (some false)))) else (some false)) else (some false))) else (some false)))))))
theorem laws_FnConserved.mono : ∀ a0 k, LeO (laws_FnConserved.f k a0) (laws_FnConserved.f (k + 1) a0) := by
  intro a0 k
  unfold laws_FnConserved.f
  repeat' first
      | (with_reducible exact impl_CountInk.mono _ _ _ _ _)
      | (with_reducible exact impl_DiffusePicture.mono _ _ _ _ _ _)
      | (with_reducible exact impl_ErrorsOf.mono _ _ _ _ _ _)
      | (with_reducible exact laws_fresh.mono _ _ _)
      | (with_reducible exact laws_total.mono _ _)
      | (with_reducible exact spec_MakeKernel.mono _ _)
      | (with_reducible exact spec_MakePicture.mono _ _ _)
      | (with_reducible exact LeO.refl _)
      | (with_reducible exact LeO.none _)
      | (with_reducible refine LeO.ite ?_ ?_)
      | (with_reducible refine LeO.bind ?_ (fun _ => ?_))
      | exact impl_CountInk.mono _ _ _ _ _
      | exact impl_DiffusePicture.mono _ _ _ _ _ _
      | exact impl_ErrorsOf.mono _ _ _ _ _ _
      | exact laws_fresh.mono _ _ _
      | exact laws_total.mono _ _
      | exact spec_MakeKernel.mono _ _
      | exact spec_MakePicture.mono _ _ _
      | exact LeO.none _
      | refine LeO.ite ?_ ?_
      | refine LeO.bind ?_ (fun _ => ?_)
def laws_FnConserved.T7 : Bool × List (List Nat × List Nat) := (true, [([], []), ([0], [0]), ([1], [1]), ([2], [2]), ([3, 2, 2], [2, 3]), ([4, 2], [2, 4]), ([2, 5], [2, 5]), ([6, 4], [6]), ([7], [7]), ([8, 7], [7, 8]), ([9, 7], [7, 9]), ([7], [7]), ([11, 7], [7, 11]), ([12, 7], [7, 12]), ([10, 13, 7], [7, 10, 13]), ([7, 14], [7, 14]), ([15, 7], [15]), ([16], [16]), ([17, 16, 16], [16, 17]), ([18, 16], [16, 18]), ([16], [16]), ([19, 20, 16], [16, 19, 20]), ([16], [16]), ([22, 16], [16, 22]), ([23, 18, 16], [16, 23]), ([21, 24, 16], [16, 21, 24]), ([16, 25], [16, 25])])
def laws_FnConserved.B7 : List Nat := [0, 1, 3, 7, 15, 31, 63, 127, 255, 511, 1023, 255, 2303, 6399, 16383, 32767, 65535, 131071, 262143, 524287, 131071, 2097151, 131071, 4325375, 13107199, 33554431, 67108863]
theorem laws_FnConserved.tab7 : rtab .any (opsOf Try.f3 7) = laws_FnConserved.T7 := by kernel_rfl
theorem laws_FnConserved.bits7 : waitsOk laws_FnConserved.T7.2 laws_FnConserved.B7 = true := by kernel_rfl
def laws_FnConserved.T10 : Bool × List (List Nat × List Nat) := (true, [([], []), ([0], [0]), ([], []), ([2], [2]), ([3], [3]), ([1, 4], [1, 4]), ([5], [5]), ([6], [6]), ([7, 6], [6, 7]), ([8, 6], [6, 8]), ([6], [6]), ([10, 6], [6, 10]), ([11, 6], [6, 11]), ([12, 6], [6, 12]), ([6], [6]), ([14, 6], [6, 14]), ([15, 6], [6, 15]), ([16, 6], [6, 16]), ([17, 6], [6, 17]), ([13, 18, 6], [6, 13, 18]), ([9, 19, 6], [6, 9, 19]), ([6, 20], [6, 20]), ([21, 6, 0, 1, 2, 3, 4, 5, 6, 7, 8, 9, 10, 11, 12, 13, 14, 15, 16, 17, 18, 19, 20, 21], [21])])
def laws_FnConserved.B10 : List Nat := [0, 1, 0, 4, 12, 31, 63, 127, 255, 511, 127, 1151, 3199, 7295, 127, 16511, 49279, 114815, 245887, 523391, 1048575, 2097151, 4194303]
theorem laws_FnConserved.tab10 : rtab .any (opsOf Try.f3 10) = laws_FnConserved.T10 := by kernel_rfl
theorem laws_FnConserved.bits10 : waitsOk laws_FnConserved.T10.2 laws_FnConserved.B10 = true := by kernel_rfl
set_option maxHeartbeats 8000000 in
set_option maxRecDepth 100000 in
theorem laws_FnConserved.calls (k : Nat) (A0 : Option Addr) (c0 : Nat) (l0 : List Int) (r : Bool) (w : World) (hr0 : Kd.C (Kd.int .u8) w A0 l0.length l0) (hc0 : l0.length ≤ c0) (hT : Aside0 (r = true)) (h : laws_FnConserved.f k l0 = some r) :
  Calls Try.prog 3 #[.slice A0 l0.length c0] w fun e w' => e = .returned (.bool r) ∧ Below w.heap.size w w' := by
 have hu27 := Try.underlying27
 have HR0 := Aside0.mk hr0
 have HC0 := Aside0.mk hc0
 clear hr0 hc0
 have HB := Aside0.mk (Below.refl w.heap.size w)
 have H : (if (l0.length : Int) > 1048576 then (some true) else ((spec_MakeKernel.f k l0).bind fun t340 => ((laws_fresh.f k l0 3).bind fun t343 => ((spec_MakePicture.f k t343 9).bind fun bt346 => ((laws_at.f l0 1).bind fun t352 => ((impl_DiffusePicture.f k t340 bt346.1 bt346.2.1 bt346.2.2 ((Int.tmod t352 2) == 1)).bind fun bt353 => (if bt353.2.2.2.2 = true then ((impl_IsPlate.f bt353.1 bt353.2.1 bt353.2.2.1).bind fun t361 => (if t361 = true then (if (bt353.2.2.1.length : Int) = (bt346.2.2.length : Int) then ((impl_CountInk.f k bt353.1 bt353.2.1 bt353.2.2.1 1).bind fun t362 => ((laws_total.f k bt346.2.2).bind fun t363 => (if (wrap64 ((wrap64 (255 * t362)) + bt353.2.2.2.1)) = t363 then ((impl_ErrorsOf.f k t340 bt346.1 bt346.2.1 bt346.2.2 ((Int.tmod t352 2) == 1)).bind fun t364 => (if (t364.length : Int) = (bt346.2.2.length : Int) then (if 0 < (t364.length : Int) then (if 0 < (bt346.2.2.length : Int) then (if 0 < (bt353.2.2.1.length : Int) then (some ((rd t364 0) == (wrap64 ((rd bt346.2.2 0) - (wrap64 (255 * (rd bt353.2.2.1 0))))))) else (none)) else (none)) else (none)) else (some false))) else (some false)))) else (some false)) else (some false))) else (some false)))))))) = some r := h
 clear h
 by_cases c2 : (l0.length : Int) > 1048576
 ·rw [if_pos c2] at H
  have c2b0 : decide (1048576 < (l0.length : Int)) = true := decide_eq_true c2
  have c2b1 : decide (1048576 < l0.length) = true := decide_eq_true (by omega)
  clear c2
  obtain rfl := Option.some.inj H
  go_enter Try.func3, Try.ntmps3
  go_wp2
  go_ret
  exact ⟨by first | rfl | (simp [errW_none, errW_some] <;> rfl) | (simp [*, errW_none, errW_some] <;> rfl), by repeat (first | (with_reducible first | exact HB.out | apply below_alloc | apply pw_below_drewN | apply below_drew1) | exact HB.out)⟩
 rw [if_neg c2] at H
 have c2b0 : decide (1048576 < (l0.length : Int)) = false := decide_eq_false c2
 have c2b1 : decide (1048576 < l0.length) = false := decide_eq_false (by omega)
 clear c2
 replace H := Option.bind_eq_some_iff.mp H
 obtain ⟨t340, A30, H⟩ := H
 replace H : ((laws_fresh.f k l0 3).bind fun t343 => ((spec_MakePicture.f k t343 9).bind fun bt346 => ((laws_at.f l0 1).bind fun t352 => ((impl_DiffusePicture.f k t340 bt346.1 bt346.2.1 bt346.2.2 ((Int.tmod t352 2) == 1)).bind fun bt353 => (if bt353.2.2.2.2 = true then ((impl_IsPlate.f bt353.1 bt353.2.1 bt353.2.2.1).bind fun t361 => (if t361 = true then (if (bt353.2.2.1.length : Int) = (bt346.2.2.length : Int) then ((impl_CountInk.f k bt353.1 bt353.2.1 bt353.2.2.1 1).bind fun t362 => ((laws_total.f k bt346.2.2).bind fun t363 => (if (wrap64 ((wrap64 (255 * t362)) + bt353.2.2.2.1)) = t363 then ((impl_ErrorsOf.f k t340 bt346.1 bt346.2.1 bt346.2.2 ((Int.tmod t352 2) == 1)).bind fun t364 => (if (t364.length : Int) = (bt346.2.2.length : Int) then (if 0 < (t364.length : Int) then (if 0 < (bt346.2.2.length : Int) then (if 0 < (bt353.2.2.1.length : Int) then (some ((rd t364 0) == (wrap64 ((rd bt346.2.2 0) - (wrap64 (255 * (rd bt353.2.2.1 0))))))) else (none)) else (none)) else (none)) else (some false))) else (some false)))) else (some false)) else (some false))) else (some false)))))) = some r := H
 have A3 := Aside0.mk A30
 clear A30
 replace H := Option.bind_eq_some_iff.mp H
 obtain ⟨t343, A40, H⟩ := H
 replace H : ((spec_MakePicture.f k t343 9).bind fun bt346 => ((laws_at.f l0 1).bind fun t352 => ((impl_DiffusePicture.f k t340 bt346.1 bt346.2.1 bt346.2.2 ((Int.tmod t352 2) == 1)).bind fun bt353 => (if bt353.2.2.2.2 = true then ((impl_IsPlate.f bt353.1 bt353.2.1 bt353.2.2.1).bind fun t361 => (if t361 = true then (if (bt353.2.2.1.length : Int) = (bt346.2.2.length : Int) then ((impl_CountInk.f k bt353.1 bt353.2.1 bt353.2.2.1 1).bind fun t362 => ((laws_total.f k bt346.2.2).bind fun t363 => (if (wrap64 ((wrap64 (255 * t362)) + bt353.2.2.2.1)) = t363 then ((impl_ErrorsOf.f k t340 bt346.1 bt346.2.1 bt346.2.2 ((Int.tmod t352 2) == 1)).bind fun t364 => (if (t364.length : Int) = (bt346.2.2.length : Int) then (if 0 < (t364.length : Int) then (if 0 < (bt346.2.2.length : Int) then (if 0 < (bt353.2.2.1.length : Int) then (some ((rd t364 0) == (wrap64 ((rd bt346.2.2 0) - (wrap64 (255 * (rd bt353.2.2.1 0))))))) else (none)) else (none)) else (none)) else (some false))) else (some false)))) else (some false)) else (some false))) else (some false))))) = some r := H
 have A4 := Aside0.mk A40
 clear A40
 replace H := Option.bind_eq_some_iff.mp H
 obtain ⟨⟨t346, t347, t348⟩, A50, H⟩ := H
 replace H : ((laws_at.f l0 1).bind fun t352 => ((impl_DiffusePicture.f k t340 t346 t347 t348 ((Int.tmod t352 2) == 1)).bind fun bt353 => (if bt353.2.2.2.2 = true then ((impl_IsPlate.f bt353.1 bt353.2.1 bt353.2.2.1).bind fun t361 => (if t361 = true then (if (bt353.2.2.1.length : Int) = (t348.length : Int) then ((impl_CountInk.f k bt353.1 bt353.2.1 bt353.2.2.1 1).bind fun t362 => ((laws_total.f k t348).bind fun t363 => (if (wrap64 ((wrap64 (255 * t362)) + bt353.2.2.2.1)) = t363 then ((impl_ErrorsOf.f k t340 t346 t347 t348 ((Int.tmod t352 2) == 1)).bind fun t364 => (if (t364.length : Int) = (t348.length : Int) then (if 0 < (t364.length : Int) then (if 0 < (t348.length : Int) then (if 0 < (bt353.2.2.1.length : Int) then (some ((rd t364 0) == (wrap64 ((rd t348 0) - (wrap64 (255 * (rd bt353.2.2.1 0))))))) else (none)) else (none)) else (none)) else (some false))) else (some false)))) else (some false)) else (some false))) else (some false)))) = some r := H
 have A5 := Aside0.mk A50
 clear A50
 replace H := Option.bind_eq_some_iff.mp H
 obtain ⟨t352, A60, H⟩ := H
 replace H : ((impl_DiffusePicture.f k t340 t346 t347 t348 ((Int.tmod t352 2) == 1)).bind fun bt353 => (if bt353.2.2.2.2 = true then ((impl_IsPlate.f bt353.1 bt353.2.1 bt353.2.2.1).bind fun t361 => (if t361 = true then (if (bt353.2.2.1.length : Int) = (t348.length : Int) then ((impl_CountInk.f k bt353.1 bt353.2.1 bt353.2.2.1 1).bind fun t362 => ((laws_total.f k t348).bind fun t363 => (if (wrap64 ((wrap64 (255 * t362)) + bt353.2.2.2.1)) = t363 then ((impl_ErrorsOf.f k t340 t346 t347 t348 ((Int.tmod t352 2) == 1)).bind fun t364 => (if (t364.length : Int) = (t348.length : Int) then (if 0 < (t364.length : Int) then (if 0 < (t348.length : Int) then (if 0 < (bt353.2.2.1.length : Int) then (some ((rd t364 0) == (wrap64 ((rd t348 0) - (wrap64 (255 * (rd bt353.2.2.1 0))))))) else (none)) else (none)) else (none)) else (some false))) else (some false)))) else (some false)) else (some false))) else (some false))) = some r := H
 have A6 := Aside0.mk A60
 clear A60
 replace H := Option.bind_eq_some_iff.mp H
 obtain ⟨⟨t353, t354, t355, t358, t359⟩, A70, H⟩ := H
 replace H : (if t359 = true then ((impl_IsPlate.f t353 t354 t355).bind fun t361 => (if t361 = true then (if (t355.length : Int) = (t348.length : Int) then ((impl_CountInk.f k t353 t354 t355 1).bind fun t362 => ((laws_total.f k t348).bind fun t363 => (if (wrap64 ((wrap64 (255 * t362)) + t358)) = t363 then ((impl_ErrorsOf.f k t340 t346 t347 t348 ((Int.tmod t352 2) == 1)).bind fun t364 => (if (t364.length : Int) = (t348.length : Int) then (if 0 < (t364.length : Int) then (if 0 < (t348.length : Int) then (if 0 < (t355.length : Int) then (some ((rd t364 0) == (wrap64 ((rd t348 0) - (wrap64 (255 * (rd t355 0))))))) else (none)) else (none)) else (none)) else (some false))) else (some false)))) else (some false)) else (some false))) else (some false)) = some r := H
 have A7 := Aside0.mk A70
 clear A70
 by_cases c8 : t359 = true
 ·subst c8
  have H1 : ((impl_IsPlate.f t353 t354 t355).bind fun t361 => (if t361 = true then (if (t355.length : Int) = (t348.length : Int) then ((impl_CountInk.f k t353 t354 t355 1).bind fun t362 => ((laws_total.f k t348).bind fun t363 => (if (wrap64 ((wrap64 (255 * t362)) + t358)) = t363 then ((impl_ErrorsOf.f k t340 t346 t347 t348 ((Int.tmod t352 2) == 1)).bind fun t364 => (if (t364.length : Int) = (t348.length : Int) then (if 0 < (t364.length : Int) then (if 0 < (t348.length : Int) then (if 0 < (t355.length : Int) then (some ((rd t364 0) == (wrap64 ((rd t348 0) - (wrap64 (255 * (rd t355 0))))))) else (none)) else (none)) else (none)) else (some false))) else (some false)))) else (some false)) else (some false))) = some r := by rw [if_pos rfl] at H; exact H
  clear H; have H := H1; clear H1
  replace H := Option.bind_eq_some_iff.mp H
  obtain ⟨t361, A90, H⟩ := H
  replace H : (if t361 = true then (if (t355.length : Int) = (t348.length : Int) then ((impl_CountInk.f k t353 t354 t355 1).bind fun t362 => ((laws_total.f k t348).bind fun t363 => (if (wrap64 ((wrap64 (255 * t362)) + t358)) = t363 then ((impl_ErrorsOf.f k t340 t346 t347 t348 ((Int.tmod t352 2) == 1)).bind fun t364 => (if (t364.length : Int) = (t348.length : Int) then (if 0 < (t364.length : Int) then (if 0 < (t348.length : Int) then (if 0 < (t355.length : Int) then (some ((rd t364 0) == (wrap64 ((rd t348 0) - (wrap64 (255 * (rd t355 0))))))) else (none)) else (none)) else (none)) else (some false))) else (some false)))) else (some false)) else (some false)) = some r := H
  have A9 := Aside0.mk A90
  clear A90
  by_cases c10 : t361 = true
  ·subst c10
   have H1 : (if (t355.length : Int) = (t348.length : Int) then ((impl_CountInk.f k t353 t354 t355 1).bind fun t362 => ((laws_total.f k t348).bind fun t363 => (if (wrap64 ((wrap64 (255 * t362)) + t358)) = t363 then ((impl_ErrorsOf.f k t340 t346 t347 t348 ((Int.tmod t352 2) == 1)).bind fun t364 => (if (t364.length : Int) = (t348.length : Int) then (if 0 < (t364.length : Int) then (if 0 < (t348.length : Int) then (if 0 < (t355.length : Int) then (some ((rd t364 0) == (wrap64 ((rd t348 0) - (wrap64 (255 * (rd t355 0))))))) else (none)) else (none)) else (none)) else (some false))) else (some false)))) else (some false)) = some r := by rw [if_pos rfl] at H; exact H
   clear H; have H := H1; clear H1
   by_cases c11 : (t355.length : Int) = (t348.length : Int)
   ·rw [if_pos c11] at H
    have c11b0 : ((t355.length : Int) == (t348.length : Int)) = true := beq_iff_eq.mpr c11
    have c11b1 : ((t355.length : Int) != (t348.length : Int)) = false := bne_eq_false_iff_eq.mpr c11
    have c11b2 : (t355.length == t348.length) = true := by first | simpa using c11 | (simp at c11 ⊢; omega)
    clear c11
    replace H := Option.bind_eq_some_iff.mp H
    obtain ⟨t362, A120, H⟩ := H
    replace H : ((laws_total.f k t348).bind fun t363 => (if (wrap64 ((wrap64 (255 * t362)) + t358)) = t363 then ((impl_ErrorsOf.f k t340 t346 t347 t348 ((Int.tmod t352 2) == 1)).bind fun t364 => (if (t364.length : Int) = (t348.length : Int) then (if 0 < (t364.length : Int) then (if 0 < (t348.length : Int) then (if 0 < (t355.length : Int) then (some ((rd t364 0) == (wrap64 ((rd t348 0) - (wrap64 (255 * (rd t355 0))))))) else (none)) else (none)) else (none)) else (some false))) else (some false))) = some r := H
    have A12 := Aside0.mk A120
    clear A120
    replace H := Option.bind_eq_some_iff.mp H
    obtain ⟨t363, A130, H⟩ := H
    replace H : (if (wrap64 ((wrap64 (255 * t362)) + t358)) = t363 then ((impl_ErrorsOf.f k t340 t346 t347 t348 ((Int.tmod t352 2) == 1)).bind fun t364 => (if (t364.length : Int) = (t348.length : Int) then (if 0 < (t364.length : Int) then (if 0 < (t348.length : Int) then (if 0 < (t355.length : Int) then (some ((rd t364 0) == (wrap64 ((rd t348 0) - (wrap64 (255 * (rd t355 0))))))) else (none)) else (none)) else (none)) else (some false))) else (some false)) = some r := H
    have A13 := Aside0.mk A130
    clear A130
    by_cases c14 : (wrap64 ((wrap64 (255 * t362)) + t358)) = t363
    ·rw [if_pos c14] at H
     have c14b0 : ((wrap64 ((wrap64 (255 * t362)) + t358)) == t363) = true := beq_iff_eq.mpr c14
     have c14b1 : ((wrap64 ((wrap64 (255 * t362)) + t358)) != t363) = false := bne_eq_false_iff_eq.mpr c14
     clear c14
     replace H := Option.bind_eq_some_iff.mp H
     obtain ⟨t364, A150, H⟩ := H
     replace H : (if (t364.length : Int) = (t348.length : Int) then (if 0 < (t364.length : Int) then (if 0 < (t348.length : Int) then (if 0 < (t355.length : Int) then (some ((rd t364 0) == (wrap64 ((rd t348 0) - (wrap64 (255 * (rd t355 0))))))) else (none)) else (none)) else (none)) else (some false)) = some r := H
     have A15 := Aside0.mk A150
     clear A150
     by_cases c16 : (t364.length : Int) = (t348.length : Int)
     ·rw [if_pos c16] at H
      have c16b0 : ((t364.length : Int) == (t348.length : Int)) = true := beq_iff_eq.mpr c16
      have c16b1 : ((t364.length : Int) != (t348.length : Int)) = false := bne_eq_false_iff_eq.mpr c16
      have c16b2 : (t364.length == t348.length) = true := by first | simpa using c16 | (simp at c16 ⊢; omega)
      clear c16
      by_cases c17 : 0 < (t364.length : Int)
      ·rw [if_pos c17] at H
       have c17b0 : decide (0 < (t364.length : Int)) = true := decide_eq_true c17
       have c17b1 : decide (0 < t364.length) = true := decide_eq_true (by omega)
       clear c17
       by_cases c18 : 0 < (t348.length : Int)
       ·rw [if_pos c18] at H
        have c18b0 : decide (0 < (t348.length : Int)) = true := decide_eq_true c18
        have c18b1 : decide (0 < t348.length) = true := decide_eq_true (by omega)
        clear c18
        by_cases c19 : 0 < (t355.length : Int)
        ·rw [if_pos c19] at H
         have c19b0 : decide (0 < (t355.length : Int)) = true := decide_eq_true c19
         have c19b1 : decide (0 < t355.length) = true := decide_eq_true (by omega)
         clear c19
         obtain rfl := Option.some.inj H
         go_enter Try.func3, Try.ntmps3
         try go_wp2_with (first | ((with_reducible refine gate_callee (f := 8) rfl ?_); refine goesL_ (some 14) rfl rfl Try.func8 (by kernel_rfl) rfl #[.slice A0 l0.length c0] rfl sL_ ?_; (with_reducible refine (spec_MakeKernel.calls k _ _ l0 t340 _ ?side1 ?side2 A3.out).mono ?_); (case side1 => repeat (first | exact HR0.out | (with_reducible refine Kd.C_alloc ?_ _) | (with_reducible refine Kd.C_drewN ?_ _) | (with_reducible refine Kd.C_drew ?_))); (case side2 => exact HC0.out); rintro e w20 ⟨v341, rfl, ho0, hb⟩; refine ⟨_, rfl, ?_⟩; have n0_ := Aside0.mk (Kd.R_lower ho0 (below_size (sW_ HB.out))); have n1_ := Aside0.mk (below_step (sW_ HB.out) hb); clear HB; have HO342 := n0_; have HB := n1_; clear n0_ n1_; (try clear hb); (try clear hb2); (try clear hk); (try clear hi); (try clear ho0)) | ((with_reducible refine gate_callee (f := 10) rfl ?_); refine goesL_ (some 16) rfl rfl Try.func10 (by kernel_rfl) rfl #[.slice A0 l0.length c0, .int .i64 3] rfl sL_ ?_; (with_reducible refine (laws_fresh.calls k _ _ l0 3 t343 _ ?side1 ?side2 A4.out).mono ?_); (case side1 => repeat (first | exact (Kd.C_below HR0.out HB.out) | (with_reducible refine Kd.C_alloc ?_ _) | (with_reducible refine Kd.C_drewN ?_ _) | (with_reducible refine Kd.C_drew ?_))); (case side2 => exact HC0.out); rintro e w21 ⟨v344, rfl, ho0, hb⟩; refine ⟨_, rfl, ?_⟩; have n0_ := Aside0.mk (Kd.R_below (sR_ HO342.out) hb); have n1_ := Aside0.mk (Kd.R_lower ho0 (below_size (sW_ HB.out))); have n2_ := Aside0.mk (below_step (sW_ HB.out) hb); clear HO342 HB; have HO342 := n0_; have HO345 := n1_; have HB := n2_; clear n0_ n1_ n2_; (try clear hb); (try clear hb2); (try clear hk); (try clear hi); (try clear ho0); obtain ⟨Ao22, co22, eo22⟩ := Kd.R_slice HO345.out; subst eo22) | ((with_reducible refine gate_callee (f := 9) rfl ?_); refine goesL_ (some 17) rfl rfl Try.func9 (by kernel_rfl) rfl #[.slice Ao22 t343.length co22, .int .i64 9] rfl sL_ ?_; (with_reducible refine (spec_MakePicture.calls k _ _ t343 9 t346 t347 t348 _ ?side1 ?side2 A5.out).mono ?_); (case side1 => repeat (first | exact (Kd.R_reads' HO345.out).2.2 | (with_reducible refine Kd.C_alloc ?_ _) | (with_reducible refine Kd.C_drewN ?_ _) | (with_reducible refine Kd.C_drew ?_))); (case side2 => exact (Kd.R_reads' HO345.out).2.1); rintro e w23 ⟨v349, rfl, ho0, hb⟩; refine ⟨_, rfl, ?_⟩; have n0_ := Aside0.mk (Kd.R_below (sR_ HO342.out) hb); have n1_ := Aside0.mk (Kd.R_below (sR_ HO345.out) hb); have n2_ := Aside0.mk (Kd.R_lower ho0 (below_size (sW_ HB.out))); have n3_ := Aside0.mk (below_step (sW_ HB.out) hb); clear HO342 HO345 HB; have HO342 := n0_; have HO345 := n1_; have HO350 := n2_; have HB := n3_; clear n0_ n1_ n2_ n3_; (try clear hb); (try clear hb2); (try clear hk); (try clear hi); (try clear ho0)) | ((with_reducible refine gate_dst (N := 4) rfl ?_); refine box_event ?hg (N := 4) ?hd (cs := #[.int .i64 0, .int .i64 0, .slice none 0 0]) (t := 27) ?hr ?_; (case hd => rfl); (case hg => rfl); (case hr => first | (go_simp; done) | (go_simp; rfl)); intro gb351 hg w24 hbox hb; have n0_ := Aside0.mk (Kd.R_below (sR_ HO342.out) hb); have n1_ := Aside0.mk (Kd.R_below (sR_ HO345.out) hb); have n2_ := Aside0.mk (Kd.R_below (sR_ HO350.out) hb); have n3_ := Aside0.mk (below_step (sW_ HB.out) hb); have n4_ := Aside0.mk (hbox); have n5_ := Aside0.mk ((by rw [hg]; exact (below_size (sW_ HB.out)) : w.heap.size ≤ gb351)); have n6_ := n5_; clear HO342 HO345 HO350 HB; have HO342 := n0_; have HO345 := n1_; have HO350 := n2_; have HB := n3_; have BK351 := n4_; have GW351 := n5_; have GE351 := n6_; clear n0_ n1_ n2_ n3_ n4_ n5_ n6_; clear hb hbox hg; obtain ⟨hcz25_0, hcz25_1, hcz25_2, hfz25_0, hfz25_1, hfz25_2⟩ := sZ_ BK351.out; obtain ⟨Ao26, co26, eo26⟩ := Kd.R_slice HO350.out; subst eo26) | ((with_reducible refine gate_callee (f := 11) rfl ?_); refine goesL_ (some 19) rfl rfl Try.func11 (by kernel_rfl) rfl #[.slice A0 l0.length c0, .int .i64 1] rfl sL_ ?_; (with_reducible refine (laws_at.calls _ _ l0 1 t352 _ ?side1 ?side2 A6.out).mono ?_); (case side1 => exact Kd.C_below HR0.out (sW_ HB.out)); (case side2 => exact HC0.out); rintro e w' ⟨rfl, ⟨nd, rfl⟩⟩; refine ⟨_, rfl, ?_⟩; obtain ⟨Ao27, co27, eo27⟩ := Kd.R_slice HO342.out; subst eo27) | ((with_reducible refine gate_callee (f := 12) rfl ?_); refine goesL_ (some 26) rfl rfl Try.func12 (by kernel_rfl) rfl #[.slice Ao27 t340.length co27, .agg #[.int .i64 t346, .int .i64 t347, .slice Ao26 t348.length co26], .bool ((Int.tmod t352 2) == 1)] rfl sL_ ?_; (with_reducible refine (impl_DiffusePicture.calls k _ _ t340 t346 t347 _ _ t348 ((Int.tmod t352 2) == 1) t353 t354 t355 t358 true _ ?side1 ?side2 ?side3 ?side4 A7.out).mono ?_); (case side1 => refine (Kd.R_reads' (e := 68) (base := w.heap.size) (ok := fun k_ => True) (n := t340.length) (c := co27) ?_).2.2; exact (by (with_reducible repeat (first | apply Kd.R_alloc | apply Kd.R_drewN | apply Kd.R_drew)); exact (sF_ HO342.out BK351.out (by decide)))); (case side2 => exact (Kd.R_reads' HO342.out).2.1); (case side3 => refine (Kd.R_reads' (e := 3) (base := w.heap.size) (ok := fun k_ => True) (n := t348.length) (c := co26) ?_).2.2; exact (by (with_reducible repeat (first | apply Kd.R_alloc | apply Kd.R_drewN | apply Kd.R_drew)); exact (sF_ HO350.out BK351.out (by decide)))); (case side4 => exact (Kd.R_reads' HO350.out).2.1); rintro e w28 ⟨v356, rfl, ho0, hb⟩; refine ⟨_, rfl, ?_⟩; have n0_ := Aside0.mk (Kd.R_below (by (with_reducible repeat (first | apply Kd.R_alloc | apply Kd.R_drewN | apply Kd.R_drew)); exact (sF_ HO342.out BK351.out (by decide))) hb); have n1_ := Aside0.mk (Kd.R_below (by (with_reducible repeat (first | apply Kd.R_alloc | apply Kd.R_drewN | apply Kd.R_drew)); exact (sF_ HO345.out BK351.out (by decide))) hb); have n2_ := Aside0.mk (Kd.R_elder' (by (with_reducible repeat (first | apply Kd.R_alloc | apply Kd.R_drewN | apply Kd.R_drew)); exact (sF_ HO350.out BK351.out (by decide))) (Kd.R_base ho0) hb); have n3_ := Aside0.mk (Kd.R_lower (Kd.R_new' ho0 (Kd.R_lt (by (with_reducible repeat (first | apply Kd.R_alloc | apply Kd.R_drewN | apply Kd.R_drew)); exact (sF_ HO350.out BK351.out (by decide))))) (below_size (sW_ HB.out))); have n4_ := Aside0.mk (blk_below (g := gb351) (o := .cells #[.int .i64 t346, .int .i64 t347, .slice Ao26 t348.length co26] 27 (0, 0)) (by refine sB_ ?_; refine blk_put (cs := #[.int .i64 t346, .int .i64 t347, .slice none 0 0]) ?_ 2 _ rfl; refine sB_ ?_; refine blk_put (cs := #[.int .i64 t346, .int .i64 0, .slice none 0 0]) ?_ 1 _ rfl; refine sB_ ?_; refine blk_put (cs := #[.int .i64 0, .int .i64 0, .slice none 0 0]) ?_ 0 _ rfl; refine sB_ ?_; exact BK351.out) hb); have n5_ := Aside0.mk (below_step (sW_ HB.out) hb); clear HO342 HO345 HO350 BK351 HB; have HO342 := n0_; have HO345 := n1_; have HO350 := n2_; have HO357 := n3_; have BK351 := n4_; have HB := n5_; clear n0_ n1_ n2_ n3_ n4_ n5_; (try clear hb); (try clear hb2); (try clear hk); (try clear hi); (try clear ho0)) | ((with_reducible refine gate_dst (N := 6) rfl ?_); refine box_event ?hg (N := 6) ?hd (cs := #[.int .i64 0, .int .i64 0, .slice none 0 0]) (t := 27) ?hr ?_; (case hd => rfl); (case hg => rfl); (case hr => first | (go_simp; done) | (go_simp; rfl)); intro gb360 hg w29 hbox hb; have n0_ := Aside0.mk (Kd.R_below (sR_ HO342.out) hb); have n1_ := Aside0.mk (Kd.R_below (sR_ HO345.out) hb); have n2_ := Aside0.mk (Kd.R_below (sR_ HO350.out) hb); have n3_ := Aside0.mk (Kd.R_below (sR_ HO357.out) hb); have n4_ := Aside0.mk (blk_below (sB_ BK351.out) hb); have n5_ := Aside0.mk (below_step (sW_ HB.out) hb); have n6_ := Aside0.mk (hbox); have n7_ := Aside0.mk ((by rw [hg]; exact (below_size (sW_ HB.out)) : w.heap.size ≤ gb360)); have n8_ := n7_; have n9_ := Aside0.mk (sN_ hg (blk_lt (sB_ BK351.out))); have n10_ := Aside0.mk n9_.out.symm; clear HO342 HO345 HO350 HO357 BK351 HB; have HO342 := n0_; have HO345 := n1_; have HO350 := n2_; have HO357 := n3_; have BK351 := n4_; have HB := n5_; have BK360 := n6_; have GW360 := n7_; have GE360 := n8_; have NB351_360 := n9_; have NB360_351 := n10_; clear n0_ n1_ n2_ n3_ n4_ n5_ n6_ n7_ n8_ n9_ n10_; clear hb hbox hg; have hnb30 := NB360_351.out; have hnc30 := NB351_360.out; obtain ⟨hcz31_0, hcz31_1, hcz31_2, hfz31_0, hfz31_1, hfz31_2⟩ := sZ_ BK360.out; obtain ⟨Ao32, co32, eo32⟩ := Kd.R_slice HO357.out; subst eo32))
         have n0_ : Aside0 (Kd.R k68 68 (((w29.setCell ⟨gb360, 0, none⟩ (.int .i64 t353)).setCell ⟨gb360, 1, none⟩ (.int .i64 t354)).setCell ⟨gb360, 2, none⟩ (.slice Ao32 t355.length co32)) w.heap.size (fun _ => True) (.slice Ao27 t340.length co27) t340) := ⟨by (with_reducible repeat (first | apply Kd.R_alloc | apply Kd.R_drewN | apply Kd.R_drew)); exact Kd.R_mono (Kd.R_far (p := ⟨gb360, 2, none⟩) (Kd.R_far (p := ⟨gb360, 1, none⟩) (Kd.R_far (p := ⟨gb360, 0, none⟩) (Kd.R_types HO342.out BK360.out (by decide)) (fun _ hk => hk.2) (.int .i64 t353)) (fun _ hk => hk.2) (.int .i64 t354)) (fun _ hk => hk.2) (.slice Ao32 t355.length co32)) (fun _ hk => trivial)⟩
         have n1_ : Aside0 (Kd.R (Kd.int .u8) 5 (((w29.setCell ⟨gb360, 0, none⟩ (.int .i64 t353)).setCell ⟨gb360, 1, none⟩ (.int .i64 t354)).setCell ⟨gb360, 2, none⟩ (.slice Ao32 t355.length co32)) w.heap.size (fun _ => True) (.slice Ao22 t343.length co22) t343) := ⟨by (with_reducible repeat (first | apply Kd.R_alloc | apply Kd.R_drewN | apply Kd.R_drew)); exact Kd.R_mono (Kd.R_far (p := ⟨gb360, 2, none⟩) (Kd.R_far (p := ⟨gb360, 1, none⟩) (Kd.R_far (p := ⟨gb360, 0, none⟩) (Kd.R_types HO345.out BK360.out (by decide)) (fun _ hk => hk.2) (.int .i64 t353)) (fun _ hk => hk.2) (.int .i64 t354)) (fun _ hk => hk.2) (.slice Ao32 t355.length co32)) (fun _ hk => trivial)⟩
         have n2_ : Aside0 (Kd.R (Kd.int .i64) 3 (((w29.setCell ⟨gb360, 0, none⟩ (.int .i64 t353)).setCell ⟨gb360, 1, none⟩ (.int .i64 t354)).setCell ⟨gb360, 2, none⟩ (.slice Ao32 t355.length co32)) w.heap.size (fun k_ => some k_ ≠ (.slice Ao32 t355.length co32 : Value).ownBlock) (.slice Ao26 t348.length co26) t348) := ⟨by (with_reducible repeat (first | apply Kd.R_alloc | apply Kd.R_drewN | apply Kd.R_drew)); exact Kd.R_mono (Kd.R_far (p := ⟨gb360, 2, none⟩) (Kd.R_far (p := ⟨gb360, 1, none⟩) (Kd.R_far (p := ⟨gb360, 0, none⟩) (Kd.R_types HO350.out BK360.out (by decide)) (fun _ hk => hk.2) (.int .i64 t353)) (fun _ hk => hk.2) (.int .i64 t354)) (fun _ hk => hk.2) (.slice Ao32 t355.length co32)) (fun _ hk => hk.1.2)⟩
         have n3_ : Aside0 (Kd.R (Kd.int .i64) 3 (((w29.setCell ⟨gb360, 0, none⟩ (.int .i64 t353)).setCell ⟨gb360, 1, none⟩ (.int .i64 t354)).setCell ⟨gb360, 2, none⟩ (.slice Ao32 t355.length co32)) w.heap.size (fun k_ => some k_ ≠ (.slice Ao26 t348.length co26 : Value).ownBlock) (.slice Ao32 t355.length co32) t355) := ⟨by (with_reducible repeat (first | apply Kd.R_alloc | apply Kd.R_drewN | apply Kd.R_drew)); exact Kd.R_mono (Kd.R_far (p := ⟨gb360, 2, none⟩) (Kd.R_far (p := ⟨gb360, 1, none⟩) (Kd.R_far (p := ⟨gb360, 0, none⟩) (Kd.R_types HO357.out BK360.out (by decide)) (fun _ hk => hk.2) (.int .i64 t353)) (fun _ hk => hk.2) (.int .i64 t354)) (fun _ hk => hk.2) (.slice Ao32 t355.length co32)) (fun _ hk => hk.1.2)⟩
         have n4_ : Aside0 ((((w29.setCell ⟨gb360, 0, none⟩ (.int .i64 t353)).setCell ⟨gb360, 1, none⟩ (.int .i64 t354)).setCell ⟨gb360, 2, none⟩ (.slice Ao32 t355.length co32)).heap[gb351]? = some (.cells #[.int .i64 t346, .int .i64 t347, .slice Ao26 t348.length co26] 27 (0, 0))) := ⟨by refine sB_ ?_; refine blk_far ?_ NB351_360.out _; refine sB_ ?_; refine blk_far ?_ NB351_360.out _; refine sB_ ?_; refine blk_far ?_ NB351_360.out _; refine sB_ ?_; exact BK351.out⟩
         have n5_ : Aside0 ((((w29.setCell ⟨gb360, 0, none⟩ (.int .i64 t353)).setCell ⟨gb360, 1, none⟩ (.int .i64 t354)).setCell ⟨gb360, 2, none⟩ (.slice Ao32 t355.length co32)).heap[gb360]? = some (.cells #[.int .i64 t353, .int .i64 t354, .slice Ao32 t355.length co32] 27 (0, 0))) := ⟨by refine sB_ ?_; refine blk_put (cs := #[.int .i64 t353, .int .i64 t354, .slice none 0 0]) ?_ 2 _ rfl; refine sB_ ?_; refine blk_put (cs := #[.int .i64 t353, .int .i64 0, .slice none 0 0]) ?_ 1 _ rfl; refine sB_ ?_; refine blk_put (cs := #[.int .i64 0, .int .i64 0, .slice none 0 0]) ?_ 0 _ rfl; refine sB_ ?_; exact BK360.out⟩
         have n6_ : Aside0 (Below w.heap.size w (((w29.setCell ⟨gb360, 0, none⟩ (.int .i64 t353)).setCell ⟨gb360, 1, none⟩ (.int .i64 t354)).setCell ⟨gb360, 2, none⟩ (.slice Ao32 t355.length co32))) := ⟨by repeat (first | (with_reducible first | exact HB.out | apply below_alloc | apply pw_below_drewN | apply below_drew1 | refine below_set ?_ GE351.out | refine below_set ?_ GE360.out) | exact HB.out)⟩
         (try clear HO342)
         (try clear HO345)
         (try clear HO350)
         (try clear HO357)
         (try clear BK351)
         (try clear BK360)
         (try clear HB)
         generalize (((w29.setCell ⟨gb360, 0, none⟩ (.int .i64 t353)).setCell ⟨gb360, 1, none⟩ (.int .i64 t354)).setCell ⟨gb360, 2, none⟩ (.slice Ao32 t355.length co32)) = w33 at n0_ n1_ n2_ n3_ n4_ n5_ n6_ ⊢
         have HO342 := n0_; have HO345 := n1_; have HO350 := n2_; have HO357 := n3_; have BK351 := n4_; have BK360 := n5_; have HB := n6_; clear n0_ n1_ n2_ n3_ n4_ n5_ n6_
         have n0_ := Aside0.mk (Kd.R_drew HO342.out)
         have n1_ := Aside0.mk (Kd.R_drew HO345.out)
         have n2_ := Aside0.mk (Kd.R_drew HO350.out)
         have n3_ := Aside0.mk (Kd.R_drew HO357.out)
         have n4_ := Aside0.mk (blk_drew BK351.out)
         have n5_ := Aside0.mk (blk_drew BK360.out)
         have n6_ := Aside0.mk (below_drew1 HB.out)
         clear HO342 HO345 HO350 HO357 BK351 BK360 HB; have HO342 := n0_; have HO345 := n1_; have HO350 := n2_; have HO357 := n3_; have BK351 := n4_; have BK360 := n5_; have HB := n6_; clear n0_ n1_ n2_ n3_ n4_ n5_ n6_
         refine start_ (n := 27) (S := fun w' => w'.cell? ⟨gb360, 0, none⟩ = some (.int .i64 t353) ∧ w'.cell? ⟨gb360, 1, none⟩ = some (.int .i64 t354) ∧ w'.cell? ⟨gb360, 2, none⟩ = some (.slice Ao32 t355.length co32) ∧ w'.cell? ⟨gb351, 0, none⟩ = some (.int .i64 t346) ∧ w'.cell? ⟨gb351, 1, none⟩ = some (.int .i64 t347) ∧ w'.cell? ⟨gb351, 2, none⟩ = some (.slice Ao26 t348.length co26)) (ds := []) #[false, false, false, false, false, false, false, false, false, false, false, false, false, false, false, false, false, false, false, false, false, false, false, false, false, false, false] (by kernel_rfl) rfl rfl ⟨(blk_cell BK360.out 0).trans rfl, (blk_cell BK360.out 1).trans rfl, (blk_cell BK360.out 2).trans rfl, (blk_cell BK351.out 0).trans rfl, (blk_cell BK351.out 1).trans rfl, (blk_cell BK351.out 2).trans rfl⟩ (fun hHeld => ?_); refine with_tabW laws_FnConserved.tab7 laws_FnConserved.bits7 (fun HT_ HW_ => ?_)
         generalize w33.drew = w34 at HO342 HO345 HO350 HO357 BK351 BK360 HB hHeld ⊢
         refine pure_ (i := 0) (N := some 30) (v := ?_) (a' := ?_) #[true, false, false, false, false, false, false, false, false, false, false, false, false, false, false, false, false, false, false, false, false, false, false, false, false, false, false] rfl rfl (any_of HT_.out (by kernel_rfl)) (fun _ _ _ h => h) (Or.inl ⟨by rfl, ?_⟩) ?_ ?_
         rotate_left
         ·intro w'
          go_simp
          with_reducible rfl
         rotate_left
         ·simp only [Act.put, List.setIfInBounds_toArray, List.set_cons_zero, List.set_cons_succ, i64_w, i32_w]
          rfl
         refine pure_ (i := 1) (N := some 31) (v := ?_) (a' := ?_) #[true, true, false, false, false, false, false, false, false, false, false, false, false, false, false, false, false, false, false, false, false, false, false, false, false, false, false] rfl rfl (any_of HT_.out (by kernel_rfl)) (fun _ _ _ h => h) (Or.inl ⟨by rfl, ?_⟩) ?_ ?_
         rotate_left
         ·intro w'
          go_simp
          with_reducible rfl
         rotate_left
         ·simp only [Act.put, List.setIfInBounds_toArray, List.set_cons_zero, List.set_cons_succ, i64_w, i32_w]
          rfl
         refine pure_ (i := 2) (N := some 32) (v := ?_) (a' := ?_) #[true, true, true, false, false, false, false, false, false, false, false, false, false, false, false, false, false, false, false, false, false, false, false, false, false, false, false] rfl rfl (any_of HT_.out (by kernel_rfl)) (fun _ _ _ h => h) (Or.inl ⟨by rfl, ?_⟩) ?_ ?_
         rotate_left
         ·intro w'
          go_simp
          with_reducible rfl
         rotate_left
         ·simp only [Act.put, List.setIfInBounds_toArray, List.set_cons_zero, List.set_cons_succ, i64_w, i32_w]
          rfl
         refine take_ (i := 3) (N := some 33) (v := ?_) (a' := ?_) #[true, true, true, true, false, false, false, false, false, false, false, false, false, false, false, false, false, false, false, false, false, false, false, false, false, false, false] rfl rfl (take_ofW HT_.out HW_.out (by kernel_rfl)) (fun _ _ _ h => h) (Or.inl ⟨by rfl, ?_⟩) hHeld ?_ ?_
         rotate_left
         ·rintro w' ⟨s0, s1, s2, s3, s4, s5⟩
          go_simp
          with_reducible rfl
         rotate_left
         ·simp only [Act.put, List.setIfInBounds_toArray, List.set_cons_zero, List.set_cons_succ, i64_w, i32_w]
          rfl
         refine one_ (i := 4) (N := some 34) #[true, true, true, true, true, false, false, false, false, false, false, false, false, false, false, false, false, false, false, false, false, false, false, false, false, false, false] rfl rfl (one_of HT_.out (by kernel_rfl)) (by decide) (fun K hK => ?_)
         refine goes_ Try.func13 (by kernel_rfl) rfl #[.agg #[.int .i64 t353, .int .i64 t354, .slice Ao32 t355.length co32]] (by rfl) rfl rfl sL_ ?_
         with_reducible refine (impl_IsPlate.calls t353 t354 _ _ t355 true _ ?side1 ?side2 A9.out).mono ?_
         (case side1 => repeat (first | exact (Kd.R_reads' HO357.out).2.2 | (with_reducible refine Kd.C_alloc ?_ _) | (with_reducible refine Kd.C_drewN ?_ _) | (with_reducible refine Kd.C_drew ?_)))
         (case side2 => exact (Kd.R_reads' HO357.out).2.1)
         rintro e w35 ⟨rfl, hb⟩
         refine ⟨_, rfl, ?_⟩
         have n0_ := Aside0.mk (Kd.R_below (sR_ HO342.out) hb)
         have n1_ := Aside0.mk (Kd.R_below (sR_ HO345.out) hb)
         have n2_ := Aside0.mk (Kd.R_below (sR_ HO350.out) hb)
         have n3_ := Aside0.mk (Kd.R_below (sR_ HO357.out) hb)
         have n4_ := Aside0.mk (blk_below (sB_ BK351.out) hb)
         have n5_ := Aside0.mk (blk_below (sB_ BK360.out) hb)
         have n6_ := Aside0.mk (below_step (sW_ HB.out) hb)
         clear HO342 HO345 HO350 HO357 BK351 BK360 HB; have HO342 := n0_; have HO345 := n1_; have HO350 := n2_; have HO357 := n3_; have BK351 := n4_; have BK360 := n5_; have HB := n6_; clear n0_ n1_ n2_ n3_ n4_ n5_ n6_
         (try clear hb)
         (try clear hb2)
         (try clear hk)
         (try clear hi)
         refine hK.out _ _ ⟨(blk_cell BK360.out 0).trans rfl, (blk_cell BK360.out 1).trans rfl, (blk_cell BK360.out 2).trans rfl, (blk_cell BK351.out 0).trans rfl, (blk_cell BK351.out 1).trans rfl, (blk_cell BK351.out 2).trans rfl⟩ (fun hHeld => ?_)
         clear hK K
         refine norm_ (a' := ?_) ?_ ?_
         rotate_left
         ·show Act.put _ (some 34) _ = _
          simp only [Act.put, List.setIfInBounds_toArray, List.set_cons_zero, List.set_cons_succ, i64_w, i32_w]
          rfl
         refine pure_ (i := 5) (N := some 35) (v := ?_) (a' := ?_) #[true, true, true, true, true, true, false, false, false, false, false, false, false, false, false, false, false, false, false, false, false, false, false, false, false, false, false] rfl rfl (any_of HT_.out (by kernel_rfl)) (fun _ _ _ h => h) (Or.inl ⟨by rfl, ?_⟩) ?_ ?_
         rotate_left
         ·intro w'
          go_simp
          with_reducible rfl
         rotate_left
         ·simp only [Act.put, List.setIfInBounds_toArray, List.set_cons_zero, List.set_cons_succ, i64_w, i32_w]
          rfl
         refine pure_ (i := 6) (N := some 36) (v := ?_) (a' := ?_) #[true, true, true, true, true, true, true, false, false, false, false, false, false, false, false, false, false, false, false, false, false, false, false, false, false, false, false] rfl rfl (any_of HT_.out (by kernel_rfl)) (fun _ _ _ h => h) (Or.inl ⟨by rfl, ?_⟩) ?_ ?_
         rotate_left
         ·intro w'
          go_simp
          with_reducible rfl
         rotate_left
         ·simp only [Act.put, List.setIfInBounds_toArray, List.set_cons_zero, List.set_cons_succ, i64_w, i32_w]
          rfl
         refine pure_ (i := 7) (N := some 37) (v := ?_) (a' := ?_) #[true, true, true, true, true, true, true, true, false, false, false, false, false, false, false, false, false, false, false, false, false, false, false, false, false, false, false] rfl rfl (any_of HT_.out (by kernel_rfl)) (fun _ _ _ h => h) (Or.inl ⟨by rfl, ?_⟩) ?_ ?_
         rotate_left
         ·intro w'
          go_simp
          with_reducible rfl
         rotate_left
         ·simp only [Act.put, List.setIfInBounds_toArray, List.set_cons_zero, List.set_cons_succ, i64_w, i32_w]
          rfl
         refine pure_ (i := 8) (N := some 38) (v := ?_) (a' := ?_) #[true, true, true, true, true, true, true, true, true, false, false, false, false, false, false, false, false, false, false, false, false, false, false, false, false, false, false] rfl rfl (any_of HT_.out (by kernel_rfl)) (fun _ _ _ h => h) (Or.inl ⟨by rfl, ?_⟩) ?_ ?_
         rotate_left
         ·intro w'
          go_simp
          with_reducible rfl
         rotate_left
         ·simp only [Act.put, List.setIfInBounds_toArray, List.set_cons_zero, List.set_cons_succ, i64_w, i32_w]
          rfl
         refine pure_ (i := 11) (N := some 41) (v := ?_) (a' := ?_) #[true, true, true, true, true, true, true, true, true, false, false, true, false, false, false, false, false, false, false, false, false, false, false, false, false, false, false] rfl rfl (any_of HT_.out (by kernel_rfl)) (fun _ _ _ h => h) (Or.inl ⟨by rfl, ?_⟩) ?_ ?_
         rotate_left
         ·intro w'
          go_simp
          with_reducible rfl
         rotate_left
         ·simp only [Act.put, List.setIfInBounds_toArray, List.set_cons_zero, List.set_cons_succ, i64_w, i32_w]
          rfl
         refine take_ (i := 9) (N := some 39) (v := ?_) (a' := ?_) #[true, true, true, true, true, true, true, true, true, true, false, true, false, false, false, false, false, false, false, false, false, false, false, false, false, false, false] rfl rfl (take_ofW HT_.out HW_.out (by kernel_rfl)) (fun _ _ _ h => h) (Or.inl ⟨by rfl, ?_⟩) hHeld ?_ ?_
         rotate_left
         ·rintro w' ⟨s0, s1, s2, s3, s4, s5⟩
          go_simp
          with_reducible rfl
         rotate_left
         ·simp only [Act.put, List.setIfInBounds_toArray, List.set_cons_zero, List.set_cons_succ, i64_w, i32_w]
          rfl
         refine pure_ (i := 10) (N := some 40) (v := ?_) (a' := ?_) #[true, true, true, true, true, true, true, true, true, true, true, true, false, false, false, false, false, false, false, false, false, false, false, false, false, false, false] rfl rfl (any_of HT_.out (by kernel_rfl)) (fun _ _ _ h => h) (Or.inl ⟨by rfl, ?_⟩) ?_ ?_
         rotate_left
         ·intro w'
          go_simp
          with_reducible rfl
         rotate_left
         ·simp only [Act.put, List.setIfInBounds_toArray, List.set_cons_zero, List.set_cons_succ, i64_w, i32_w]
          rfl
         refine take_ (i := 12) (N := some 42) (v := ?_) (a' := ?_) #[true, true, true, true, true, true, true, true, true, true, true, true, true, false, false, false, false, false, false, false, false, false, false, false, false, false, false] rfl rfl (take_ofW HT_.out HW_.out (by kernel_rfl)) (fun _ _ _ h => h) (Or.inl ⟨by rfl, ?_⟩) hHeld ?_ ?_
         rotate_left
         ·rintro w' ⟨s0, s1, s2, s3, s4, s5⟩
          go_simp
          with_reducible rfl
         rotate_left
         ·simp only [Act.put, List.setIfInBounds_toArray, List.set_cons_zero, List.set_cons_succ, i64_w, i32_w]
          rfl
         refine pure_ (i := 13) (N := some 43) (v := ?_) (a' := ?_) #[true, true, true, true, true, true, true, true, true, true, true, true, true, true, false, false, false, false, false, false, false, false, false, false, false, false, false] rfl rfl (any_of HT_.out (by kernel_rfl)) (fun _ _ _ h => h) (Or.inl ⟨by rfl, ?_⟩) ?_ ?_
         rotate_left
         ·intro w'
          go_simp
          with_reducible rfl
         rotate_left
         ·simp only [Act.put, List.setIfInBounds_toArray, List.set_cons_zero, List.set_cons_succ, i64_w, i32_w]
          rfl
         refine pure_ (i := 14) (N := some 44) (v := ?_) (a' := ?_) #[true, true, true, true, true, true, true, true, true, true, true, true, true, true, true, false, false, false, false, false, false, false, false, false, false, false, false] rfl rfl (any_of HT_.out (by kernel_rfl)) (fun _ _ _ h => h) (Or.inl ⟨by rfl, ?_⟩) ?_ ?_
         rotate_left
         ·intro w'
          go_simp
          with_reducible rfl
         rotate_left
         ·simp only [Act.put, List.setIfInBounds_toArray, List.set_cons_zero, List.set_cons_succ, i64_w, i32_w]
          rfl
         refine pure_ (i := 15) (N := some 45) (v := ?_) (a' := ?_) #[true, true, true, true, true, true, true, true, true, true, true, true, true, true, true, true, false, false, false, false, false, false, false, false, false, false, false] rfl rfl (any_of HT_.out (by kernel_rfl)) (fun _ _ _ h => h) (Or.inl ⟨by rfl, ?_⟩) ?_ ?_
         rotate_left
         ·intro w'
          go_simp
          with_reducible rfl
         rotate_left
         ·simp only [Act.put, List.setIfInBounds_toArray, List.set_cons_zero, List.set_cons_succ, i64_w, i32_w]
          rfl
         refine pure_ (i := 16) (N := some 46) (v := ?_) (a' := ?_) #[true, true, true, true, true, true, true, true, true, true, true, true, true, true, true, true, true, false, false, false, false, false, false, false, false, false, false] rfl rfl (any_of HT_.out (by kernel_rfl)) (fun _ _ _ h => h) (Or.inl ⟨by rfl, ?_⟩) ?_ ?_
         rotate_left
         ·intro w'
          go_simp
          with_reducible rfl
         rotate_left
         ·simp only [Act.put, List.setIfInBounds_toArray, List.set_cons_zero, List.set_cons_succ, i64_w, i32_w]
          rfl
         refine pure_ (i := 20) (N := some 50) (v := ?_) (a' := ?_) #[true, true, true, true, true, true, true, true, true, true, true, true, true, true, true, true, true, false, false, false, true, false, false, false, false, false, false] rfl rfl (any_of HT_.out (by kernel_rfl)) (fun _ _ _ h => h) (Or.inl ⟨by rfl, ?_⟩) ?_ ?_
         rotate_left
         ·intro w'
          go_simp
          with_reducible rfl
         rotate_left
         ·simp only [Act.put, List.setIfInBounds_toArray, List.set_cons_zero, List.set_cons_succ, i64_w, i32_w]
          rfl
         refine pure_ (i := 22) (N := some 52) (v := ?_) (a' := ?_) #[true, true, true, true, true, true, true, true, true, true, true, true, true, true, true, true, true, false, false, false, true, false, true, false, false, false, false] rfl rfl (any_of HT_.out (by kernel_rfl)) (fun _ _ _ h => h) (Or.inl ⟨by rfl, ?_⟩) ?_ ?_
         rotate_left
         ·intro w'
          go_simp
          with_reducible rfl
         rotate_left
         ·simp only [Act.put, List.setIfInBounds_toArray, List.set_cons_zero, List.set_cons_succ, i64_w, i32_w]
          rfl
         refine take_ (i := 17) (N := some 47) (v := ?_) (a' := ?_) #[true, true, true, true, true, true, true, true, true, true, true, true, true, true, true, true, true, true, false, false, true, false, true, false, false, false, false] rfl rfl (take_ofW HT_.out HW_.out (by kernel_rfl)) (fun _ _ _ h => h) (Or.inl ⟨by rfl, ?_⟩) hHeld ?_ ?_
         rotate_left
         ·rintro w' ⟨s0, s1, s2, s3, s4, s5⟩
          go_simp
          with_reducible rfl
         rotate_left
         ·simp only [Act.put, List.setIfInBounds_toArray, List.set_cons_zero, List.set_cons_succ, i64_w, i32_w]
          rfl
         refine take_ (i := 23) (N := some 53) (v := ?_) (a' := ?_) #[true, true, true, true, true, true, true, true, true, true, true, true, true, true, true, true, true, true, false, false, true, false, true, true, false, false, false] rfl rfl (take_ofW HT_.out HW_.out (by kernel_rfl)) (fun _ _ _ h => h) (Or.inl ⟨by rfl, ?_⟩) hHeld ?_ ?_
         rotate_left
         ·rintro w' ⟨s0, s1, s2, s3, s4, s5⟩
          go_simp
          with_reducible rfl
         rotate_left
         ·simp only [Act.put, List.setIfInBounds_toArray, List.set_cons_zero, List.set_cons_succ, i64_w, i32_w]
          rfl
         refine one_ (i := 18) (N := some 48) #[true, true, true, true, true, true, true, true, true, true, true, true, true, true, true, true, true, true, true, false, true, false, true, true, false, false, false] rfl rfl (one_of HT_.out (by kernel_rfl)) (by decide) (fun K hK => ?_)
         refine goes_ Try.func14 (by kernel_rfl) rfl #[.agg #[.int .i64 t353, .int .i64 t354, .slice Ao32 t355.length co32], .int .i64 1] (by rfl) rfl rfl sL_ ?_
         with_reducible refine (impl_CountInk.calls k t353 t354 _ _ t355 1 t362 _ ?side1 ?side2 A12.out).mono ?_
         (case side1 => repeat (first | exact (Kd.R_reads' HO357.out).2.2 | (with_reducible refine Kd.C_alloc ?_ _) | (with_reducible refine Kd.C_drewN ?_ _) | (with_reducible refine Kd.C_drew ?_)))
         (case side2 => exact (Kd.R_reads' HO357.out).2.1)
         rintro e w36 ⟨rfl, hb⟩
         refine ⟨_, rfl, ?_⟩
         have n0_ := Aside0.mk (Kd.R_below (sR_ HO342.out) hb)
         have n1_ := Aside0.mk (Kd.R_below (sR_ HO345.out) hb)
         have n2_ := Aside0.mk (Kd.R_below (sR_ HO350.out) hb)
         have n3_ := Aside0.mk (Kd.R_below (sR_ HO357.out) hb)
         have n4_ := Aside0.mk (blk_below (sB_ BK351.out) hb)
         have n5_ := Aside0.mk (blk_below (sB_ BK360.out) hb)
         have n6_ := Aside0.mk (below_step (sW_ HB.out) hb)
         clear HO342 HO345 HO350 HO357 BK351 BK360 HB; have HO342 := n0_; have HO345 := n1_; have HO350 := n2_; have HO357 := n3_; have BK351 := n4_; have BK360 := n5_; have HB := n6_; clear n0_ n1_ n2_ n3_ n4_ n5_ n6_
         (try clear hb)
         (try clear hb2)
         (try clear hk)
         (try clear hi)
         refine hK.out _ _ ⟨(blk_cell BK360.out 0).trans rfl, (blk_cell BK360.out 1).trans rfl, (blk_cell BK360.out 2).trans rfl, (blk_cell BK351.out 0).trans rfl, (blk_cell BK351.out 1).trans rfl, (blk_cell BK351.out 2).trans rfl⟩ (fun hHeld => ?_)
         clear hK K
         refine norm_ (a' := ?_) ?_ ?_
         rotate_left
         ·show Act.put _ (some 48) _ = _
          simp only [Act.put, List.setIfInBounds_toArray, List.set_cons_zero, List.set_cons_succ, i64_w, i32_w]
          rfl
         refine pure_ (i := 19) (N := some 49) (v := ?_) (a' := ?_) #[true, true, true, true, true, true, true, true, true, true, true, true, true, true, true, true, true, true, true, true, true, false, true, true, false, false, false] rfl rfl (any_of HT_.out (by kernel_rfl)) (fun _ _ _ h => h) (Or.inl ⟨by rfl, ?_⟩) ?_ ?_
         rotate_left
         ·intro w'
          go_simp
          with_reducible rfl
         rotate_left
         ·simp only [Act.put, List.setIfInBounds_toArray, List.set_cons_zero, List.set_cons_succ, i64_w, i32_w]
          rfl
         refine pure_ (i := 21) (N := some 51) (v := ?_) (a' := ?_) #[true, true, true, true, true, true, true, true, true, true, true, true, true, true, true, true, true, true, true, true, true, true, true, true, false, false, false] rfl rfl (any_of HT_.out (by kernel_rfl)) (fun _ _ _ h => h) (Or.inl ⟨by rfl, ?_⟩) ?_ ?_
         rotate_left
         ·intro w'
          go_simp
          with_reducible rfl
         rotate_left
         ·simp only [Act.put, List.setIfInBounds_toArray, List.set_cons_zero, List.set_cons_succ, i64_w, i32_w]
          rfl
         refine one_ (i := 24) (N := some 54) #[true, true, true, true, true, true, true, true, true, true, true, true, true, true, true, true, true, true, true, true, true, true, true, true, true, false, false] rfl rfl (one_of HT_.out (by kernel_rfl)) (by decide) (fun K hK => ?_)
         refine goes_ Try.func15 (by kernel_rfl) rfl #[.slice Ao26 t348.length co26] (by rfl) rfl rfl sL_ ?_
         with_reducible refine (laws_total.calls k _ _ t348 t363 _ ?side1 ?side2 A13.out).mono ?_
         (case side1 => repeat (first | exact (Kd.R_reads' HO350.out).2.2 | (with_reducible refine Kd.C_alloc ?_ _) | (with_reducible refine Kd.C_drewN ?_ _) | (with_reducible refine Kd.C_drew ?_)))
         (case side2 => exact (Kd.R_reads' HO350.out).2.1)
         rintro e w' ⟨rfl, ⟨nd, rfl⟩⟩
         refine ⟨_, rfl, ?_⟩
         refine hK.out _ _ ⟨(blk_cell BK360.out 0).trans rfl, (blk_cell BK360.out 1).trans rfl, (blk_cell BK360.out 2).trans rfl, (blk_cell BK351.out 0).trans rfl, (blk_cell BK351.out 1).trans rfl, (blk_cell BK351.out 2).trans rfl⟩ (fun hHeld => ?_)
         clear hK K
         refine norm_ (a' := ?_) ?_ ?_
         rotate_left
         ·show Act.put _ (some 54) _ = _
          simp only [Act.put, List.setIfInBounds_toArray, List.set_cons_zero, List.set_cons_succ, i64_w, i32_w]
          rfl
         refine pure_ (i := 25) (N := some 55) (v := ?_) (a' := ?_) #[true, true, true, true, true, true, true, true, true, true, true, true, true, true, true, true, true, true, true, true, true, true, true, true, true, true, false] rfl rfl (any_of HT_.out (by kernel_rfl)) (fun _ _ _ h => h) (Or.inl ⟨by rfl, ?_⟩) ?_ ?_
         rotate_left
         ·intro w'
          go_simp
          with_reducible rfl
         rotate_left
         ·simp only [Act.put, List.setIfInBounds_toArray, List.set_cons_zero, List.set_cons_succ, i64_w, i32_w]
          rfl
         refine pure_ (i := 26) (N := some 56) (v := ?_) (a' := ?_) #[true, true, true, true, true, true, true, true, true, true, true, true, true, true, true, true, true, true, true, true, true, true, true, true, true, true, true] rfl rfl (any_of HT_.out (by kernel_rfl)) (fun _ _ _ h => h) (Or.inl ⟨by rfl, ?_⟩) ?_ ?_
         rotate_left
         ·intro w'
          go_simp
          with_reducible rfl
         rotate_left
         ·simp only [Act.put, List.setIfInBounds_toArray, List.set_cons_zero, List.set_cons_succ, i64_w, i32_w]
          rfl
         refine done_ (done_of HT_.out (by kernel_rfl)) ?_
         obtain ⟨hcz37_0, hcz37_1, hcz37_2, hfz37_0, hfz37_1, hfz37_2⟩ := sZ_ BK351.out
         try go_wp2_with (first | ((with_reducible refine gate_callee (f := 16) rfl ?_); refine goesL_ (some 60) rfl rfl Try.func16 (by kernel_rfl) rfl #[.slice Ao27 t340.length co27, .agg #[.int .i64 t346, .int .i64 t347, .slice Ao26 t348.length co26], .bool ((Int.tmod t352 2) == 1)] rfl sL_ ?_; (with_reducible refine (impl_ErrorsOf.calls k _ _ t340 t346 t347 _ _ t348 ((Int.tmod t352 2) == 1) t364 _ ?side1 ?side2 ?side3 ?side4 A15.out).mono ?_); (case side1 => repeat (first | exact (Kd.R_reads' HO342.out).2.2 | (with_reducible refine Kd.C_alloc ?_ _) | (with_reducible refine Kd.C_drewN ?_ _) | (with_reducible refine Kd.C_drew ?_))); (case side2 => exact (Kd.R_reads' HO342.out).2.1); (case side3 => repeat (first | exact (Kd.R_reads' HO350.out).2.2 | (with_reducible refine Kd.C_alloc ?_ _) | (with_reducible refine Kd.C_drewN ?_ _) | (with_reducible refine Kd.C_drew ?_))); (case side4 => exact (Kd.R_reads' HO350.out).2.1); rintro e w38 ⟨v365, rfl, ho0, hb⟩; refine ⟨_, rfl, ?_⟩; have n0_ := Aside0.mk (Kd.R_below (sR_ HO342.out) hb); have n1_ := Aside0.mk (Kd.R_below (sR_ HO345.out) hb); have n2_ := Aside0.mk (Kd.R_elder' (sR_ HO350.out) (Kd.R_base ho0) hb); have n3_ := Aside0.mk (Kd.R_elder' (sR_ HO357.out) (Kd.R_base ho0) hb); have n4_ := Aside0.mk (Kd.R_lower (Kd.R_new' (Kd.R_new' ho0 (Kd.R_lt (sR_ HO350.out))) (Kd.R_lt (sR_ HO357.out))) (below_size (sW_ HB.out))); have n5_ := Aside0.mk (blk_below (sB_ BK351.out) hb); have n6_ := Aside0.mk (blk_below (sB_ BK360.out) hb); have n7_ := Aside0.mk (below_step (sW_ HB.out) hb); clear HO342 HO345 HO350 HO357 BK351 BK360 HB; have HO342 := n0_; have HO345 := n1_; have HO350 := n2_; have HO357 := n3_; have HO366 := n4_; have BK351 := n5_; have BK360 := n6_; have HB := n7_; clear n0_ n1_ n2_ n3_ n4_ n5_ n6_ n7_; (try clear hb); (try clear hb2); (try clear hk); (try clear hi); (try clear ho0)))
         have n0_ := Aside0.mk (Kd.R_drew HO342.out)
         have n1_ := Aside0.mk (Kd.R_drew HO345.out)
         have n2_ := Aside0.mk (Kd.R_drew HO350.out)
         have n3_ := Aside0.mk (Kd.R_drew HO357.out)
         have n4_ := Aside0.mk (Kd.R_drew HO366.out)
         have n5_ := Aside0.mk (blk_drew BK351.out)
         have n6_ := Aside0.mk (blk_drew BK360.out)
         have n7_ := Aside0.mk (below_drew1 HB.out)
         clear HO342 HO345 HO350 HO357 HO366 BK351 BK360 HB; have HO342 := n0_; have HO345 := n1_; have HO350 := n2_; have HO357 := n3_; have HO366 := n4_; have BK351 := n5_; have BK360 := n6_; have HB := n7_; clear n0_ n1_ n2_ n3_ n4_ n5_ n6_ n7_
         obtain ⟨Ao40, co40, eo40⟩ := Kd.R_slice HO366.out
         (first | subst eo40 | (injection eo40 with f1_ f2_ f3_; have f4_ := f1_.symm; have f5_ := f3_.symm; clear f1_ f2_ f3_; subst f4_; subst f5_))
         have p367 : 0 ≤ (0 : Int) := (by omega)
         have q367 : 0 < (t364.length : Int) := of_decide_eq_true (by first | (with_reducible assumption) | assumption)
         obtain ⟨ad367, e367, hx367_0⟩ := Kd.at_int (Kd.R_reads' HO366.out).2.2 0 p367 q367
         cases e367
         have qi367 : (0 < t364.length) = True := eq_true (by omega)
         (try rw [show ((0 : Int)).toNat = 0 from rfl] at hx367_0)
         (try rw [Addr.add_zero'] at hx367_0)
         replace p367 := eq_true p367
         replace q367 := eq_true q367
         have p368 : 0 ≤ (0 : Int) := (by omega)
         have q368 : 0 < (t348.length : Int) := of_decide_eq_true (by first | (with_reducible assumption) | assumption)
         obtain ⟨ad368, e368, hx368_0⟩ := Kd.at_int (Kd.R_reads' HO350.out).2.2 0 p368 q368
         cases e368
         have qi368 : (0 < t348.length) = True := eq_true (by omega)
         (try rw [show ((0 : Int)).toNat = 0 from rfl] at hx368_0)
         (try rw [Addr.add_zero'] at hx368_0)
         replace p368 := eq_true p368
         replace q368 := eq_true q368
         have p369 : 0 ≤ (0 : Int) := (by omega)
         have q369 : 0 < (t355.length : Int) := of_decide_eq_true (by first | (with_reducible assumption) | assumption)
         obtain ⟨ad369, e369, hx369_0⟩ := Kd.at_int (Kd.R_reads' HO357.out).2.2 0 p369 q369
         cases e369
         have qi369 : (0 < t355.length) = True := eq_true (by omega)
         (try rw [show ((0 : Int)).toNat = 0 from rfl] at hx369_0)
         (try rw [Addr.add_zero'] at hx369_0)
         replace p369 := eq_true p369
         replace q369 := eq_true q369
         refine start_ (n := 23) (S := fun w' => w'.cell? ⟨gb351, 0, none⟩ = some (.int .i64 t346) ∧ w'.cell? ⟨gb351, 1, none⟩ = some (.int .i64 t347) ∧ w'.cell? ⟨gb351, 2, none⟩ = some (.slice (some ad368) t348.length co26) ∧ w'.cell? ⟨gb360, 0, none⟩ = some (.int .i64 t353) ∧ w'.cell? ⟨gb360, 1, none⟩ = some (.int .i64 t354) ∧ w'.cell? ⟨gb360, 2, none⟩ = some (.slice (some ad369) t355.length co32) ∧ w'.cell? ad367 = some (.int .i64 (rd t364 0)) ∧ w'.cell? ad368 = some (.int .i64 (rd t348 0)) ∧ w'.cell? ad369 = some (.int .i64 (rd t355 0))) (ds := []) #[false, false, false, false, false, false, false, false, false, false, false, false, false, false, false, false, false, false, false, false, false, false, false] (by kernel_rfl) rfl rfl ⟨(blk_cell BK351.out 0).trans rfl, (blk_cell BK351.out 1).trans rfl, (blk_cell BK351.out 2).trans rfl, (blk_cell BK360.out 0).trans rfl, (blk_cell BK360.out 1).trans rfl, (blk_cell BK360.out 2).trans rfl, hx367_0, hx368_0, hx369_0⟩ (fun hHeld => ?_); refine with_tabW laws_FnConserved.tab10 laws_FnConserved.bits10 (fun HT_ HW_ => ?_)
         generalize w38.drew = w39 at HO342 HO345 HO350 HO357 HO366 BK351 BK360 HB hx367_0 hx368_0 hx369_0 hHeld ⊢
         refine pure_ (i := 0) (N := some 61) (v := ?_) (a' := ?_) #[true, false, false, false, false, false, false, false, false, false, false, false, false, false, false, false, false, false, false, false, false, false, false] rfl rfl (any_of HT_.out (by kernel_rfl)) (fun _ _ _ h => h) (Or.inl ⟨by rfl, ?_⟩) ?_ ?_
         rotate_left
         ·intro w'
          go_simp
          with_reducible rfl
         rotate_left
         ·simp only [Act.put, List.setIfInBounds_toArray, List.set_cons_zero, List.set_cons_succ, i64_w, i32_w]
          rfl
         refine pure_ (i := 1) (N := some 62) (v := ?_) (a' := ?_) #[true, true, false, false, false, false, false, false, false, false, false, false, false, false, false, false, false, false, false, false, false, false, false] rfl rfl (any_of HT_.out (by kernel_rfl)) (fun _ _ _ h => h) (Or.inl ⟨by rfl, ?_⟩) ?_ ?_
         rotate_left
         ·intro w'
          go_simp
          with_reducible rfl
         rotate_left
         ·simp only [Act.put, List.setIfInBounds_toArray, List.set_cons_zero, List.set_cons_succ, i64_w, i32_w]
          rfl
         refine pure_ (i := 2) (N := some 63) (v := ?_) (a' := ?_) #[true, true, true, false, false, false, false, false, false, false, false, false, false, false, false, false, false, false, false, false, false, false, false] rfl rfl (any_of HT_.out (by kernel_rfl)) (fun _ _ _ h => h) (Or.inl ⟨by rfl, ?_⟩) ?_ ?_
         rotate_left
         ·intro w'
          go_simp
          with_reducible rfl
         rotate_left
         ·simp only [Act.put, List.setIfInBounds_toArray, List.set_cons_zero, List.set_cons_succ, i64_w, i32_w]
          rfl
         refine take_ (i := 3) (N := some 64) (v := ?_) (a' := ?_) #[true, true, true, true, false, false, false, false, false, false, false, false, false, false, false, false, false, false, false, false, false, false, false] rfl rfl (take_ofW HT_.out HW_.out (by kernel_rfl)) (fun _ _ _ h => h) (Or.inl ⟨by rfl, ?_⟩) hHeld ?_ ?_
         rotate_left
         ·rintro w' ⟨s0, s1, s2, s3, s4, s5, s6, s7, s8⟩
          go_simp
          with_reducible rfl
         rotate_left
         ·simp only [Act.put, List.setIfInBounds_toArray, List.set_cons_zero, List.set_cons_succ, i64_w, i32_w]
          rfl
         refine pure_ (i := 4) (N := some 65) (v := ?_) (a' := ?_) #[true, true, true, true, true, false, false, false, false, false, false, false, false, false, false, false, false, false, false, false, false, false, false] rfl rfl (any_of HT_.out (by kernel_rfl)) (fun _ _ _ h => h) (Or.inl ⟨by rfl, ?_⟩) ?_ ?_
         rotate_left
         ·intro w'
          go_simp
          with_reducible rfl
         rotate_left
         ·simp only [Act.put, List.setIfInBounds_toArray, List.set_cons_zero, List.set_cons_succ, i64_w, i32_w]
          rfl
         refine pure_ (i := 5) (N := some 66) (v := ?_) (a' := ?_) #[true, true, true, true, true, true, false, false, false, false, false, false, false, false, false, false, false, false, false, false, false, false, false] rfl rfl (any_of HT_.out (by kernel_rfl)) (fun _ _ _ h => h) (Or.inl ⟨by rfl, ?_⟩) ?_ ?_
         rotate_left
         ·intro w'
          go_simp
          with_reducible rfl
         rotate_left
         ·simp only [Act.put, List.setIfInBounds_toArray, List.set_cons_zero, List.set_cons_succ, i64_w, i32_w]
          rfl
         refine pure_ (i := 6) (N := some 67) (v := ?_) (a' := ?_) #[true, true, true, true, true, true, true, false, false, false, false, false, false, false, false, false, false, false, false, false, false, false, false] rfl rfl (any_of HT_.out (by kernel_rfl)) (fun _ _ _ h => h) (Or.inl ⟨by rfl, ?_⟩) ?_ ?_
         rotate_left
         ·intro w'
          go_simp
          with_reducible rfl
         rotate_left
         ·simp only [Act.put, List.setIfInBounds_toArray, List.set_cons_zero, List.set_cons_succ, i64_w, i32_w]
          rfl
         refine pure_ (i := 7) (N := some 68) (v := ?_) (a' := ?_) #[true, true, true, true, true, true, true, true, false, false, false, false, false, false, false, false, false, false, false, false, false, false, false] rfl rfl (any_of HT_.out (by kernel_rfl)) (fun _ _ _ h => h) (Or.inl ⟨by rfl, ?_⟩) ?_ ?_
         rotate_left
         ·intro w'
          go_simp
          with_reducible rfl
         rotate_left
         ·simp only [Act.put, List.setIfInBounds_toArray, List.set_cons_zero, List.set_cons_succ, i64_w, i32_w]
          rfl
         refine pure_ (i := 8) (N := some 69) (v := ?_) (a' := ?_) #[true, true, true, true, true, true, true, true, true, false, false, false, false, false, false, false, false, false, false, false, false, false, false] rfl rfl (any_of HT_.out (by kernel_rfl)) (fun _ _ _ h => h) (Or.inl ⟨by rfl, ?_⟩) ?_ ?_
         rotate_left
         ·intro w'
          go_simp
          with_reducible rfl
         rotate_left
         ·simp only [Act.put, List.setIfInBounds_toArray, List.set_cons_zero, List.set_cons_succ, i64_w, i32_w]
          rfl
         refine pure_ (i := 10) (N := some 71) (v := ?_) (a' := ?_) #[true, true, true, true, true, true, true, true, true, false, true, false, false, false, false, false, false, false, false, false, false, false, false] rfl rfl (any_of HT_.out (by kernel_rfl)) (fun _ _ _ h => h) (Or.inl ⟨by rfl, ?_⟩) ?_ ?_
         rotate_left
         ·intro w'
          go_simp
          with_reducible rfl
         rotate_left
         ·simp only [Act.put, List.setIfInBounds_toArray, List.set_cons_zero, List.set_cons_succ, i64_w, i32_w]
          rfl
         refine pure_ (i := 14) (N := some 75) (v := ?_) (a' := ?_) #[true, true, true, true, true, true, true, true, true, false, true, false, false, false, true, false, false, false, false, false, false, false, false] rfl rfl (any_of HT_.out (by kernel_rfl)) (fun _ _ _ h => h) (Or.inl ⟨by rfl, ?_⟩) ?_ ?_
         rotate_left
         ·intro w'
          go_simp
          with_reducible rfl
         rotate_left
         ·simp only [Act.put, List.setIfInBounds_toArray, List.set_cons_zero, List.set_cons_succ, i64_w, i32_w]
          rfl
         refine take_ (i := 9) (N := some 70) (v := ?_) (a' := ?_) #[true, true, true, true, true, true, true, true, true, true, true, false, false, false, true, false, false, false, false, false, false, false, false] rfl rfl (take_ofW HT_.out HW_.out (by kernel_rfl)) (fun _ _ _ h => h) (Or.inl ⟨by rfl, ?_⟩) hHeld ?_ ?_
         rotate_left
         ·rintro w' ⟨s0, s1, s2, s3, s4, s5, s6, s7, s8⟩
          go_simp
          with_reducible rfl
         rotate_left
         ·simp only [Act.put, List.setIfInBounds_toArray, List.set_cons_zero, List.set_cons_succ, i64_w, i32_w]
          rfl
         refine take_ (i := 11) (N := some 72) (v := ?_) (a' := ?_) #[true, true, true, true, true, true, true, true, true, true, true, true, false, false, true, false, false, false, false, false, false, false, false] rfl rfl (take_ofW HT_.out HW_.out (by kernel_rfl)) (fun _ _ _ h => h) (Or.inl ⟨by rfl, ?_⟩) hHeld ?_ ?_
         rotate_left
         ·rintro w' ⟨s0, s1, s2, s3, s4, s5, s6, s7, s8⟩
          go_simp
          with_reducible rfl
         rotate_left
         ·simp only [Act.put, List.setIfInBounds_toArray, List.set_cons_zero, List.set_cons_succ, i64_w, i32_w]
          rfl
         refine pure_ (i := 12) (N := some 73) (v := ?_) (a' := ?_) #[true, true, true, true, true, true, true, true, true, true, true, true, true, false, true, false, false, false, false, false, false, false, false] rfl rfl (any_of HT_.out (by kernel_rfl)) (fun _ _ _ h => h) (Or.inl ⟨by rfl, ?_⟩) ?_ ?_
         rotate_left
         ·intro w'
          go_simp
          with_reducible rfl
         rotate_left
         ·simp only [Act.put, List.setIfInBounds_toArray, List.set_cons_zero, List.set_cons_succ, i64_w, i32_w]
          rfl
         refine take_ (i := 13) (N := some 74) (v := ?_) (a' := ?_) #[true, true, true, true, true, true, true, true, true, true, true, true, true, true, true, false, false, false, false, false, false, false, false] rfl rfl (take_ofW HT_.out HW_.out (by kernel_rfl)) (fun _ _ _ h => h) (Or.inl ⟨by rfl, ?_⟩) hHeld ?_ ?_
         rotate_left
         ·rintro w' ⟨s0, s1, s2, s3, s4, s5, s6, s7, s8⟩
          go_simp
          with_reducible rfl
         rotate_left
         ·simp only [Act.put, List.setIfInBounds_toArray, List.set_cons_zero, List.set_cons_succ, i64_w, i32_w]
          rfl
         refine take_ (i := 15) (N := some 76) (v := ?_) (a' := ?_) #[true, true, true, true, true, true, true, true, true, true, true, true, true, true, true, true, false, false, false, false, false, false, false] rfl rfl (take_ofW HT_.out HW_.out (by kernel_rfl)) (fun _ _ _ h => h) (Or.inl ⟨by rfl, ?_⟩) hHeld ?_ ?_
         rotate_left
         ·rintro w' ⟨s0, s1, s2, s3, s4, s5, s6, s7, s8⟩
          go_simp
          with_reducible rfl
         rotate_left
         ·simp only [Act.put, List.setIfInBounds_toArray, List.set_cons_zero, List.set_cons_succ, i64_w, i32_w]
          rfl
         refine pure_ (i := 16) (N := some 77) (v := ?_) (a' := ?_) #[true, true, true, true, true, true, true, true, true, true, true, true, true, true, true, true, true, false, false, false, false, false, false] rfl rfl (any_of HT_.out (by kernel_rfl)) (fun _ _ _ h => h) (Or.inl ⟨by rfl, ?_⟩) ?_ ?_
         rotate_left
         ·intro w'
          go_simp
          with_reducible rfl
         rotate_left
         ·simp only [Act.put, List.setIfInBounds_toArray, List.set_cons_zero, List.set_cons_succ, i64_w, i32_w]
          rfl
         refine take_ (i := 17) (N := some 78) (v := ?_) (a' := ?_) #[true, true, true, true, true, true, true, true, true, true, true, true, true, true, true, true, true, true, false, false, false, false, false] rfl rfl (take_ofW HT_.out HW_.out (by kernel_rfl)) (fun _ _ _ h => h) (Or.inl ⟨by rfl, ?_⟩) hHeld ?_ ?_
         rotate_left
         ·rintro w' ⟨s0, s1, s2, s3, s4, s5, s6, s7, s8⟩
          go_simp
          with_reducible rfl
         rotate_left
         ·simp only [Act.put, List.setIfInBounds_toArray, List.set_cons_zero, List.set_cons_succ, i64_w, i32_w]
          rfl
         refine pure_ (i := 18) (N := some 79) (v := ?_) (a' := ?_) #[true, true, true, true, true, true, true, true, true, true, true, true, true, true, true, true, true, true, true, false, false, false, false] rfl rfl (any_of HT_.out (by kernel_rfl)) (fun _ _ _ h => h) (Or.inl ⟨by rfl, ?_⟩) ?_ ?_
         rotate_left
         ·intro w'
          go_simp
          with_reducible rfl
         rotate_left
         ·simp only [Act.put, List.setIfInBounds_toArray, List.set_cons_zero, List.set_cons_succ, i64_w, i32_w]
          rfl
         refine pure_ (i := 19) (N := some 80) (v := ?_) (a' := ?_) #[true, true, true, true, true, true, true, true, true, true, true, true, true, true, true, true, true, true, true, true, false, false, false] rfl rfl (any_of HT_.out (by kernel_rfl)) (fun _ _ _ h => h) (Or.inl ⟨by rfl, ?_⟩) ?_ ?_
         rotate_left
         ·intro w'
          go_simp
          with_reducible rfl
         rotate_left
         ·simp only [Act.put, List.setIfInBounds_toArray, List.set_cons_zero, List.set_cons_succ, i64_w, i32_w]
          rfl
         refine pure_ (i := 20) (N := some 81) (v := ?_) (a' := ?_) #[true, true, true, true, true, true, true, true, true, true, true, true, true, true, true, true, true, true, true, true, true, false, false] rfl rfl (any_of HT_.out (by kernel_rfl)) (fun _ _ _ h => h) (Or.inl ⟨by rfl, ?_⟩) ?_ ?_
         rotate_left
         ·intro w'
          go_simp
          with_reducible rfl
         rotate_left
         ·simp only [Act.put, List.setIfInBounds_toArray, List.set_cons_zero, List.set_cons_succ, i64_w, i32_w]
          rfl
         refine pure_ (i := 21) (N := some 82) (v := ?_) (a' := ?_) #[true, true, true, true, true, true, true, true, true, true, true, true, true, true, true, true, true, true, true, true, true, true, false] rfl rfl (any_of HT_.out (by kernel_rfl)) (fun _ _ _ h => h) (Or.inl ⟨by rfl, ?_⟩) ?_ ?_
         rotate_left
         ·intro w'
          go_simp
          with_reducible rfl
         rotate_left
         ·simp only [Act.put, List.setIfInBounds_toArray, List.set_cons_zero, List.set_cons_succ, i64_w, i32_w]
          rfl
         refine pure_ (i := 22) (N := some 2) (v := ?_) (a' := ?_) #[true, true, true, true, true, true, true, true, true, true, true, true, true, true, true, true, true, true, true, true, true, true, true] rfl rfl (any_of HT_.out (by kernel_rfl)) (fun _ _ _ h => h) (Or.inl ⟨by rfl, ?_⟩) ?_ ?_
         rotate_left
         ·intro w'
          go_simp
          with_reducible rfl
         rotate_left
         ·simp only [Act.put, List.setIfInBounds_toArray, List.set_cons_zero, List.set_cons_succ, i64_w, i32_w]
          rfl
         refine done_ (done_of HT_.out (by kernel_rfl)) ?_
         try go_wp2
         go_ret
         exact ⟨by first | rfl | (simp [errW_none, errW_some] <;> rfl) | (simp [*, errW_none, errW_some] <;> rfl), by repeat (first | (with_reducible first | exact HB.out | apply below_alloc | apply pw_below_drewN | apply below_drew1 | refine below_set ?_ GE351.out | refine below_set ?_ GE360.out) | exact HB.out)⟩
        rw [if_neg c19] at H
        exact absurd H (by simp)
       rw [if_neg c18] at H
       exact absurd H (by simp)
      rw [if_neg c17] at H
      exact absurd H (by simp)
     rw [if_neg c16] at H
     have c16b0 : ((t364.length : Int) == (t348.length : Int)) = false := beq_eq_false_iff_ne.mpr c16
     have c16b1 : ((t364.length : Int) != (t348.length : Int)) = true := bne_iff_ne.mpr c16
     have c16b2 : (t364.length == t348.length) = false := by first | simpa using c16 | (simp at c16 ⊢; omega)
     exact absurd ((Option.some.inj H).trans hT.out) (by decide)
    rw [if_neg c14] at H
    have c14b0 : ((wrap64 ((wrap64 (255 * t362)) + t358)) == t363) = false := beq_eq_false_iff_ne.mpr c14
    have c14b1 : ((wrap64 ((wrap64 (255 * t362)) + t358)) != t363) = true := bne_iff_ne.mpr c14
    exact absurd ((Option.some.inj H).trans hT.out) (by decide)
   rw [if_neg c11] at H
   have c11b0 : ((t355.length : Int) == (t348.length : Int)) = false := beq_eq_false_iff_ne.mpr c11
   have c11b1 : ((t355.length : Int) != (t348.length : Int)) = true := bne_iff_ne.mpr c11
   have c11b2 : (t355.length == t348.length) = false := by first | simpa using c11 | (simp at c11 ⊢; omega)
   exact absurd ((Option.some.inj H).trans hT.out) (by decide)
  replace c10 := Bool.eq_false_iff.mpr c10
  subst c10
  have H1 : (some false) = some r := by rw [if_neg (show ¬ (false = true) by decide)] at H; exact H
  clear H; have H := H1; clear H1
  exact absurd ((Option.some.inj H).trans hT.out) (by decide)
 replace c8 := Bool.eq_false_iff.mpr c8
 subst c8
 have H1 : (some false) = some r := by rw [if_neg (show ¬ (false = true) by decide)] at H; exact H
 clear H; have H := H1; clear H1
 exact absurd ((Option.some.inj H).trans hT.out) (by decide)

end Go.Proofs.Ytndnklicfibkeaa.P
