-- Written by tools/seatprint.py (over the kit's print, changed in memory). Not trusted: Lean checks it.
import Derived.Test.YtdlehfnlibddcaaP0
import Derived.Test.YtdlehfnlibddcaaFlawsat
import Derived.Test.YtdlehfnlibddcaaFspecMakeMatrix
import Derived.Test.YtdlehfnlibddcaaFimplScreenLevel
import Derived.Test.YtdlehfnlibddcaaFimplIsPlate
import Derived.Test.YtdlehfnlibddcaaFimplLevelOf
import Derived.Test.YtdlehfnlibddcaaFspecMakePicture
import Derived.Test.YtdlehfnlibddcaaFlawsfresh
import Derived.Test.YtdlehfnlibddcaaFimplCoversPicture
import Derived.Test.YtdlehfnlibddcaaFimplScreenPicture
import Derived.Test.YtdlehfnlibddcaaFlawssame
import Derived.Test.YtdlehfnlibddcaaFspecAddPictures
import Derived.Test.YtdlehfnlibddcaaFspecMakeLike
import Derived.Test.YtdlehfnlibddcaaFimplFlatPicture
namespace Go.Proofs.Ytdlehfnlibddcaa.P
open Go.RowKit Go.Proofs.YtdlehfnlibddcaaW.PrintWords Go.Proofs.YtdlehfnlibddcaaW.PrintLast Go.Proofs.YtdlehfnlibddcaaW.PrintMore
attribute [local go_sem] max2_int min2_int max_two min_two max_three min_three max_four min_four   -- for this text's walks alone
set_option linter.unusedVariables false
set_option linter.unusedSimpArgs false

/-! ### laws_FnStacked: function 22 -/
def laws_FnStacked.j0 : Nat → List Int → Bool → Int → Int → List Int → Int → Int → List Int → Option (Bool)
  | 0, _, _, _, _, _, _, _, _ => none
  | k + 1, x0, x50, x1409000, x1409001, x1409002, x1418000, x1418001, x1418002 => if x50 = true then (some false) else ((laws_at.f x0 1).bind fun t1448 => ((impl_FlatPicture.f x1418000 x1418001 t1448).bind fun bt1449 => ((impl_LevelOf.f x1409000 x1409001 x1409002 t1448).bind fun t1456 => ((impl_ScreenLevel.f x1409000 x1409001 x1409002 t1456 x1418000 x1418001).bind fun bt1457 => (if bt1449.2.2.2 = true then (if bt1457.2.2.2 = true then ((impl_ScreenPicture.f x1409000 x1409001 x1409002 bt1449.1 bt1449.2.1 bt1449.2.2.1).bind fun bt1464 => ((laws_same.f k bt1464.1 bt1464.2.1 bt1464.2.2 bt1457.1 bt1457.2.1 bt1457.2.2.1).bind fun t1469 => (some t1469))) else (some false)) else (some false))))))
def laws_FnStacked.f (k : Nat) (l0 : List Int) : Option (Bool) := if (l0.length : Int) > 1048576 then (some true) else ((spec_MakeMatrix.f k l0).bind fun bt1403 => ((laws_fresh.f k l0 3).bind fun t1409 => ((spec_MakePicture.f k t1409 9).bind fun bt1412 => ((laws_fresh.f k l0 5).bind fun t1418 => ((spec_MakeLike.f k t1418 bt1412.1 bt1412.2.1 bt1412.2.2).bind fun bt1421 => ((spec_AddPictures.f k bt1412.1 bt1412.2.1 bt1412.2.2 bt1421.1 bt1421.2.1 bt1421.2.2).bind fun bt1426 => ((impl_ScreenPicture.f bt1403.1 bt1403.2.1 bt1403.2.2 bt1412.1 bt1412.2.1 bt1412.2.2).bind fun bt1433 => ((impl_ScreenPicture.f bt1403.1 bt1403.2.1 bt1403.2.2 bt1426.1 bt1426.2.1 bt1426.2.2.1).bind fun bt1439 => ((impl_IsPlate.f bt1433.1 bt1433.2.1 bt1433.2.2).bind fun t1445 => (if t1445 = true then ((impl_IsPlate.f bt1439.1 bt1439.2.1 bt1439.2.2).bind fun t1446 => (if t1446 = true then ((impl_CoversPicture.f k bt1439.1 bt1439.2.1 bt1439.2.2 bt1433.1 bt1433.2.1 bt1433.2.2).bind fun t1447 => (laws_FnStacked.j0 k l0 (!t1447) bt1403.1 bt1403.2.1 bt1403.2.2 bt1412.1 bt1412.2.1 bt1412.2.2)) else (laws_FnStacked.j0 k l0 true bt1403.1 bt1403.2.1 bt1403.2.2 bt1412.1 bt1412.2.1 bt1412.2.2))) else (laws_FnStacked.j0 k l0 true bt1403.1 bt1403.2.1 bt1403.2.2 bt1412.1 bt1412.2.1 bt1412.2.2)))))))))))
theorem laws_FnStacked.mono_l : ∀ k, (∀ y0 y1 y2 y3 y4 y5 y6 y7, LeO (laws_FnStacked.j0 k y0 y1 y2 y3 y4 y5 y6 y7) (laws_FnStacked.j0 (k + 1) y0 y1 y2 y3 y4 y5 y6 y7))
  | 0 => fun _ _ _ _ _ _ _ _ r h => by simp [laws_FnStacked.j0] at h
  | k + 1 => by
    have ih0 := laws_FnStacked.mono_l k
    · intro y0 y1 y2 y3 y4 y5 y6 y7
      unfold laws_FnStacked.j0
      repeat' first
      | (with_reducible exact ih0 _ _ _ _ _ _ _ _)
      | (with_reducible exact impl_CoversPicture.mono _ _ _ _ _ _ _)
      | (with_reducible exact laws_fresh.mono _ _ _)
      | (with_reducible exact laws_same.mono _ _ _ _ _ _ _)
      | (with_reducible exact spec_AddPictures.mono _ _ _ _ _ _ _)
      | (with_reducible exact spec_MakeLike.mono _ _ _ _ _)
      | (with_reducible exact spec_MakeMatrix.mono _ _)
      | (with_reducible exact spec_MakePicture.mono _ _ _)
      | (with_reducible exact LeO.refl _)
      | (with_reducible exact LeO.none _)
      | (with_reducible refine LeO.ite ?_ ?_)
      | (with_reducible refine LeO.bind ?_ (fun _ => ?_))
      | exact ih0 _ _ _ _ _ _ _ _
      | exact impl_CoversPicture.mono _ _ _ _ _ _ _
      | exact laws_fresh.mono _ _ _
      | exact laws_same.mono _ _ _ _ _ _ _
      | exact spec_AddPictures.mono _ _ _ _ _ _ _
      | exact spec_MakeLike.mono _ _ _ _ _
      | exact spec_MakeMatrix.mono _ _
      | exact spec_MakePicture.mono _ _ _
      | exact LeO.none _
      | refine LeO.ite ?_ ?_
      | refine LeO.bind ?_ (fun _ => ?_)
theorem laws_FnStacked.mono : ∀ a0 k, LeO (laws_FnStacked.f k a0) (laws_FnStacked.f (k + 1) a0) := by
  intro a0 k
  have ih0 := laws_FnStacked.mono_l k
  unfold laws_FnStacked.f
  repeat' first
      | (with_reducible exact ih0 _ _ _ _ _ _ _ _)
      | (with_reducible exact impl_CoversPicture.mono _ _ _ _ _ _ _)
      | (with_reducible exact laws_fresh.mono _ _ _)
      | (with_reducible exact laws_same.mono _ _ _ _ _ _ _)
      | (with_reducible exact spec_AddPictures.mono _ _ _ _ _ _ _)
      | (with_reducible exact spec_MakeLike.mono _ _ _ _ _)
      | (with_reducible exact spec_MakeMatrix.mono _ _)
      | (with_reducible exact spec_MakePicture.mono _ _ _)
      | (with_reducible exact LeO.refl _)
      | (with_reducible exact LeO.none _)
      | (with_reducible refine LeO.ite ?_ ?_)
      | (with_reducible refine LeO.bind ?_ (fun _ => ?_))
      | exact ih0 _ _ _ _ _ _ _ _
      | exact impl_CoversPicture.mono _ _ _ _ _ _ _
      | exact laws_fresh.mono _ _ _
      | exact laws_same.mono _ _ _ _ _ _ _
      | exact spec_AddPictures.mono _ _ _ _ _ _ _
      | exact spec_MakeLike.mono _ _ _ _ _
      | exact spec_MakeMatrix.mono _ _
      | exact spec_MakePicture.mono _ _ _
      | exact LeO.none _
      | refine LeO.ite ?_ ?_
      | refine LeO.bind ?_ (fun _ => ?_)
def laws_FnStacked.T5 : Bool × List (List Nat × List Nat) := (true, [([], []), ([], []), ([1], [1]), ([], []), ([2, 3, 2], [2, 3]), ([0, 4, 4], [0, 4]), ([5], [5]), ([6], [6]), ([6], [6]), ([], []), ([9, 7, 5, 0, 1, 2, 3, 4, 5, 6, 7, 9], [7, 9]), ([8, 10, 0, 1, 2, 3, 4, 5, 6, 7, 8, 9, 10], [8])])
def laws_FnStacked.B5 : List Nat := [0, 0, 2, 0, 14, 31, 63, 127, 127, 0, 767, 2047]
theorem laws_FnStacked.tab5 : rtab .any (opsOf Try.f22 5) = laws_FnStacked.T5 := by kernel_rfl
theorem laws_FnStacked.bits5 : waitsOk laws_FnStacked.T5.2 laws_FnStacked.B5 = true := by kernel_rfl
def laws_FnStacked.T12 : Bool × List (List Nat × List Nat) := (true, [([], []), ([], []), ([], []), ([1, 2], [1, 2]), ([], []), ([4], [4]), ([], []), ([6], [6]), ([0, 3, 5, 7, 3], [0, 3, 5, 7]), ([8], [8]), ([9], [9]), ([9], [9]), ([], []), ([12, 10, 8, 0, 1, 2, 3, 4, 5, 6, 7, 8, 9, 10, 12], [10, 12]), ([11, 13, 0, 1, 2, 3, 4, 5, 6, 7, 8, 9, 10, 11, 12, 13], [11])])
def laws_FnStacked.B12 : List Nat := [0, 0, 0, 6, 0, 16, 0, 64, 255, 511, 1023, 1023, 0, 6143, 16383]
theorem laws_FnStacked.tab12 : rtab .any (opsOf Try.f22 12) = laws_FnStacked.T12 := by kernel_rfl
theorem laws_FnStacked.bits12 : waitsOk laws_FnStacked.T12.2 laws_FnStacked.B12 = true := by kernel_rfl
def laws_FnStacked.T13 : Bool × List (List Nat × List Nat) := (true, [([], []), ([0], [0]), ([1], [1]), ([1, 2], [1, 2]), ([3, 1], [3]), ([4], [4]), ([4], [4]), ([5, 6, 4, 4], [4, 5, 6]), ([4], [4]), ([7, 8, 7, 4], [4, 7, 8]), ([4, 9], [4, 9]), ([10, 9, 0, 1, 2, 3, 4, 5, 6, 7, 8, 9, 10], [10])])
def laws_FnStacked.B13 : List Nat := [0, 1, 3, 7, 15, 31, 31, 127, 31, 511, 1023, 2047]
theorem laws_FnStacked.tab13 : rtab .any (opsOf Try.f22 13) = laws_FnStacked.T13 := by kernel_rfl
theorem laws_FnStacked.bits13 : waitsOk laws_FnStacked.T13.2 laws_FnStacked.B13 = true := by kernel_rfl
set_option maxHeartbeats 8000000 in
set_option maxRecDepth 100000 in
theorem laws_FnStacked.calls (k : Nat) (A0 : Option Addr) (c0 : Nat) (l0 : List Int) (r : Bool) (w : World) (hr0 : Kd.C (Kd.int .u8) w A0 l0.length l0) (hc0 : l0.length ≤ c0) (hT : Aside0 (r = true)) (h : laws_FnStacked.f k l0 = some r) :
  Calls Try.prog 22 #[.slice A0 l0.length c0] w fun e w' => e = .returned (.bool r) ∧ Below w.heap.size w w' := by
 have hu26 := Try.underlying26
 have hu41 := Try.underlying41
 have HR0 := Aside0.mk hr0
 have HC0 := Aside0.mk hc0
 clear hr0 hc0
 have HB := Aside0.mk (Below.refl w.heap.size w)
 have H : (if (l0.length : Int) > 1048576 then (some true) else ((spec_MakeMatrix.f k l0).bind fun bt1403 => ((laws_fresh.f k l0 3).bind fun t1409 => ((spec_MakePicture.f k t1409 9).bind fun bt1412 => ((laws_fresh.f k l0 5).bind fun t1418 => ((spec_MakeLike.f k t1418 bt1412.1 bt1412.2.1 bt1412.2.2).bind fun bt1421 => ((spec_AddPictures.f k bt1412.1 bt1412.2.1 bt1412.2.2 bt1421.1 bt1421.2.1 bt1421.2.2).bind fun bt1426 => ((impl_ScreenPicture.f bt1403.1 bt1403.2.1 bt1403.2.2 bt1412.1 bt1412.2.1 bt1412.2.2).bind fun bt1433 => ((impl_ScreenPicture.f bt1403.1 bt1403.2.1 bt1403.2.2 bt1426.1 bt1426.2.1 bt1426.2.2.1).bind fun bt1439 => ((impl_IsPlate.f bt1433.1 bt1433.2.1 bt1433.2.2).bind fun t1445 => (if t1445 = true then ((impl_IsPlate.f bt1439.1 bt1439.2.1 bt1439.2.2).bind fun t1446 => (if t1446 = true then ((impl_CoversPicture.f k bt1439.1 bt1439.2.1 bt1439.2.2 bt1433.1 bt1433.2.1 bt1433.2.2).bind fun t1447 => (laws_FnStacked.j0 k l0 (!t1447) bt1403.1 bt1403.2.1 bt1403.2.2 bt1412.1 bt1412.2.1 bt1412.2.2)) else (laws_FnStacked.j0 k l0 true bt1403.1 bt1403.2.1 bt1403.2.2 bt1412.1 bt1412.2.1 bt1412.2.2))) else (laws_FnStacked.j0 k l0 true bt1403.1 bt1403.2.1 bt1403.2.2 bt1412.1 bt1412.2.1 bt1412.2.2)))))))))))) = some r := h
 clear h
 by_cases c2 : (l0.length : Int) > 1048576
 ·rw [if_pos c2] at H
  have c2b0 : decide (1048576 < (l0.length : Int)) = true := decide_eq_true c2
  have c2b1 : decide (1048576 < l0.length) = true := decide_eq_true (by omega)
  clear c2
  obtain rfl := Option.some.inj H
  go_enter Try.func22, Try.ntmps22
  go_wp2
  go_ret
  exact ⟨by first | rfl | (simp [errW_none, errW_some] <;> rfl) | (simp [*, errW_none, errW_some] <;> rfl), by repeat (first | (with_reducible first | exact HB.out | apply below_alloc | apply pw_below_drewN | apply below_drew1) | exact HB.out)⟩
 rw [if_neg c2] at H
 have c2b0 : decide (1048576 < (l0.length : Int)) = false := decide_eq_false c2
 have c2b1 : decide (1048576 < l0.length) = false := decide_eq_false (by omega)
 clear c2
 replace H := Option.bind_eq_some_iff.mp H
 obtain ⟨⟨t1403, t1404, t1405⟩, A30, H⟩ := H
 replace H : ((laws_fresh.f k l0 3).bind fun t1409 => ((spec_MakePicture.f k t1409 9).bind fun bt1412 => ((laws_fresh.f k l0 5).bind fun t1418 => ((spec_MakeLike.f k t1418 bt1412.1 bt1412.2.1 bt1412.2.2).bind fun bt1421 => ((spec_AddPictures.f k bt1412.1 bt1412.2.1 bt1412.2.2 bt1421.1 bt1421.2.1 bt1421.2.2).bind fun bt1426 => ((impl_ScreenPicture.f t1403 t1404 t1405 bt1412.1 bt1412.2.1 bt1412.2.2).bind fun bt1433 => ((impl_ScreenPicture.f t1403 t1404 t1405 bt1426.1 bt1426.2.1 bt1426.2.2.1).bind fun bt1439 => ((impl_IsPlate.f bt1433.1 bt1433.2.1 bt1433.2.2).bind fun t1445 => (if t1445 = true then ((impl_IsPlate.f bt1439.1 bt1439.2.1 bt1439.2.2).bind fun t1446 => (if t1446 = true then ((impl_CoversPicture.f k bt1439.1 bt1439.2.1 bt1439.2.2 bt1433.1 bt1433.2.1 bt1433.2.2).bind fun t1447 => (laws_FnStacked.j0 k l0 (!t1447) t1403 t1404 t1405 bt1412.1 bt1412.2.1 bt1412.2.2)) else (laws_FnStacked.j0 k l0 true t1403 t1404 t1405 bt1412.1 bt1412.2.1 bt1412.2.2))) else (laws_FnStacked.j0 k l0 true t1403 t1404 t1405 bt1412.1 bt1412.2.1 bt1412.2.2)))))))))) = some r := H
 have A3 := Aside0.mk A30
 clear A30
 replace H := Option.bind_eq_some_iff.mp H
 obtain ⟨t1409, A40, H⟩ := H
 replace H : ((spec_MakePicture.f k t1409 9).bind fun bt1412 => ((laws_fresh.f k l0 5).bind fun t1418 => ((spec_MakeLike.f k t1418 bt1412.1 bt1412.2.1 bt1412.2.2).bind fun bt1421 => ((spec_AddPictures.f k bt1412.1 bt1412.2.1 bt1412.2.2 bt1421.1 bt1421.2.1 bt1421.2.2).bind fun bt1426 => ((impl_ScreenPicture.f t1403 t1404 t1405 bt1412.1 bt1412.2.1 bt1412.2.2).bind fun bt1433 => ((impl_ScreenPicture.f t1403 t1404 t1405 bt1426.1 bt1426.2.1 bt1426.2.2.1).bind fun bt1439 => ((impl_IsPlate.f bt1433.1 bt1433.2.1 bt1433.2.2).bind fun t1445 => (if t1445 = true then ((impl_IsPlate.f bt1439.1 bt1439.2.1 bt1439.2.2).bind fun t1446 => (if t1446 = true then ((impl_CoversPicture.f k bt1439.1 bt1439.2.1 bt1439.2.2 bt1433.1 bt1433.2.1 bt1433.2.2).bind fun t1447 => (laws_FnStacked.j0 k l0 (!t1447) t1403 t1404 t1405 bt1412.1 bt1412.2.1 bt1412.2.2)) else (laws_FnStacked.j0 k l0 true t1403 t1404 t1405 bt1412.1 bt1412.2.1 bt1412.2.2))) else (laws_FnStacked.j0 k l0 true t1403 t1404 t1405 bt1412.1 bt1412.2.1 bt1412.2.2))))))))) = some r := H
 have A4 := Aside0.mk A40
 clear A40
 replace H := Option.bind_eq_some_iff.mp H
 obtain ⟨⟨t1412, t1413, t1414⟩, A50, H⟩ := H
 replace H : ((laws_fresh.f k l0 5).bind fun t1418 => ((spec_MakeLike.f k t1418 t1412 t1413 t1414).bind fun bt1421 => ((spec_AddPictures.f k t1412 t1413 t1414 bt1421.1 bt1421.2.1 bt1421.2.2).bind fun bt1426 => ((impl_ScreenPicture.f t1403 t1404 t1405 t1412 t1413 t1414).bind fun bt1433 => ((impl_ScreenPicture.f t1403 t1404 t1405 bt1426.1 bt1426.2.1 bt1426.2.2.1).bind fun bt1439 => ((impl_IsPlate.f bt1433.1 bt1433.2.1 bt1433.2.2).bind fun t1445 => (if t1445 = true then ((impl_IsPlate.f bt1439.1 bt1439.2.1 bt1439.2.2).bind fun t1446 => (if t1446 = true then ((impl_CoversPicture.f k bt1439.1 bt1439.2.1 bt1439.2.2 bt1433.1 bt1433.2.1 bt1433.2.2).bind fun t1447 => (laws_FnStacked.j0 k l0 (!t1447) t1403 t1404 t1405 t1412 t1413 t1414)) else (laws_FnStacked.j0 k l0 true t1403 t1404 t1405 t1412 t1413 t1414))) else (laws_FnStacked.j0 k l0 true t1403 t1404 t1405 t1412 t1413 t1414)))))))) = some r := H
 have A5 := Aside0.mk A50
 clear A50
 replace H := Option.bind_eq_some_iff.mp H
 obtain ⟨t1418, A60, H⟩ := H
 replace H : ((spec_MakeLike.f k t1418 t1412 t1413 t1414).bind fun bt1421 => ((spec_AddPictures.f k t1412 t1413 t1414 bt1421.1 bt1421.2.1 bt1421.2.2).bind fun bt1426 => ((impl_ScreenPicture.f t1403 t1404 t1405 t1412 t1413 t1414).bind fun bt1433 => ((impl_ScreenPicture.f t1403 t1404 t1405 bt1426.1 bt1426.2.1 bt1426.2.2.1).bind fun bt1439 => ((impl_IsPlate.f bt1433.1 bt1433.2.1 bt1433.2.2).bind fun t1445 => (if t1445 = true then ((impl_IsPlate.f bt1439.1 bt1439.2.1 bt1439.2.2).bind fun t1446 => (if t1446 = true then ((impl_CoversPicture.f k bt1439.1 bt1439.2.1 bt1439.2.2 bt1433.1 bt1433.2.1 bt1433.2.2).bind fun t1447 => (laws_FnStacked.j0 k l0 (!t1447) t1403 t1404 t1405 t1412 t1413 t1414)) else (laws_FnStacked.j0 k l0 true t1403 t1404 t1405 t1412 t1413 t1414))) else (laws_FnStacked.j0 k l0 true t1403 t1404 t1405 t1412 t1413 t1414))))))) = some r := H
 have A6 := Aside0.mk A60
 clear A60
 replace H := Option.bind_eq_some_iff.mp H
 obtain ⟨⟨t1421, t1422, t1423⟩, A70, H⟩ := H
 replace H : ((spec_AddPictures.f k t1412 t1413 t1414 t1421 t1422 t1423).bind fun bt1426 => ((impl_ScreenPicture.f t1403 t1404 t1405 t1412 t1413 t1414).bind fun bt1433 => ((impl_ScreenPicture.f t1403 t1404 t1405 bt1426.1 bt1426.2.1 bt1426.2.2.1).bind fun bt1439 => ((impl_IsPlate.f bt1433.1 bt1433.2.1 bt1433.2.2).bind fun t1445 => (if t1445 = true then ((impl_IsPlate.f bt1439.1 bt1439.2.1 bt1439.2.2).bind fun t1446 => (if t1446 = true then ((impl_CoversPicture.f k bt1439.1 bt1439.2.1 bt1439.2.2 bt1433.1 bt1433.2.1 bt1433.2.2).bind fun t1447 => (laws_FnStacked.j0 k l0 (!t1447) t1403 t1404 t1405 t1412 t1413 t1414)) else (laws_FnStacked.j0 k l0 true t1403 t1404 t1405 t1412 t1413 t1414))) else (laws_FnStacked.j0 k l0 true t1403 t1404 t1405 t1412 t1413 t1414)))))) = some r := H
 have A7 := Aside0.mk A70
 clear A70
 replace H := Option.bind_eq_some_iff.mp H
 obtain ⟨⟨t1426, t1427, t1428, t1431⟩, A80, H⟩ := H
 replace H : ((impl_ScreenPicture.f t1403 t1404 t1405 t1412 t1413 t1414).bind fun bt1433 => ((impl_ScreenPicture.f t1403 t1404 t1405 t1426 t1427 t1428).bind fun bt1439 => ((impl_IsPlate.f bt1433.1 bt1433.2.1 bt1433.2.2).bind fun t1445 => (if t1445 = true then ((impl_IsPlate.f bt1439.1 bt1439.2.1 bt1439.2.2).bind fun t1446 => (if t1446 = true then ((impl_CoversPicture.f k bt1439.1 bt1439.2.1 bt1439.2.2 bt1433.1 bt1433.2.1 bt1433.2.2).bind fun t1447 => (laws_FnStacked.j0 k l0 (!t1447) t1403 t1404 t1405 t1412 t1413 t1414)) else (laws_FnStacked.j0 k l0 true t1403 t1404 t1405 t1412 t1413 t1414))) else (laws_FnStacked.j0 k l0 true t1403 t1404 t1405 t1412 t1413 t1414))))) = some r := H
 have A8 := Aside0.mk A80
 clear A80
 replace H := Option.bind_eq_some_iff.mp H
 obtain ⟨⟨t1433, t1434, t1435⟩, A90, H⟩ := H
 replace H : ((impl_ScreenPicture.f t1403 t1404 t1405 t1426 t1427 t1428).bind fun bt1439 => ((impl_IsPlate.f t1433 t1434 t1435).bind fun t1445 => (if t1445 = true then ((impl_IsPlate.f bt1439.1 bt1439.2.1 bt1439.2.2).bind fun t1446 => (if t1446 = true then ((impl_CoversPicture.f k bt1439.1 bt1439.2.1 bt1439.2.2 t1433 t1434 t1435).bind fun t1447 => (laws_FnStacked.j0 k l0 (!t1447) t1403 t1404 t1405 t1412 t1413 t1414)) else (laws_FnStacked.j0 k l0 true t1403 t1404 t1405 t1412 t1413 t1414))) else (laws_FnStacked.j0 k l0 true t1403 t1404 t1405 t1412 t1413 t1414)))) = some r := H
 have A9 := Aside0.mk A90
 clear A90
 replace H := Option.bind_eq_some_iff.mp H
 obtain ⟨⟨t1439, t1440, t1441⟩, A100, H⟩ := H
 replace H : ((impl_IsPlate.f t1433 t1434 t1435).bind fun t1445 => (if t1445 = true then ((impl_IsPlate.f t1439 t1440 t1441).bind fun t1446 => (if t1446 = true then ((impl_CoversPicture.f k t1439 t1440 t1441 t1433 t1434 t1435).bind fun t1447 => (laws_FnStacked.j0 k l0 (!t1447) t1403 t1404 t1405 t1412 t1413 t1414)) else (laws_FnStacked.j0 k l0 true t1403 t1404 t1405 t1412 t1413 t1414))) else (laws_FnStacked.j0 k l0 true t1403 t1404 t1405 t1412 t1413 t1414))) = some r := H
 have A10 := Aside0.mk A100
 clear A100
 have HC11 := Aside0.mk H
 clear H
 go_enter Try.func22, Try.ntmps22
 try go_wp2_with (first | ((with_reducible refine gate_callee (f := 37) rfl ?_); refine goesL_ (some 18) rfl rfl Try.func37 (by kernel_rfl) rfl #[.slice A0 l0.length c0] rfl sL_ ?_; (with_reducible refine (spec_MakeMatrix.calls k _ _ l0 t1403 t1404 t1405 _ ?side1 ?side2 A3.out).mono ?_); (case side1 => repeat (first | exact HR0.out | (with_reducible refine Kd.C_alloc ?_ _) | (with_reducible refine Kd.C_drewN ?_ _) | (with_reducible refine Kd.C_drew ?_))); (case side2 => exact HC0.out); rintro e w12 ⟨v1406, rfl, ho0, hb⟩; refine ⟨_, rfl, ?_⟩; have n0_ := Aside0.mk (Kd.R_lower ho0 (below_size (sW_ HB.out))); have n1_ := Aside0.mk (below_step (sW_ HB.out) hb); clear HB; have HO1407 := n0_; have HB := n1_; clear n0_ n1_; (try clear hb); (try clear hb2); (try clear hk); (try clear hi); (try clear ho0)) | ((with_reducible refine gate_dst (N := 3) rfl ?_); refine box_event ?hg (N := 3) ?hd (cs := #[.int .i64 0, .int .i64 0, .slice none 0 0]) (t := 26) ?hr ?_; (case hd => rfl); (case hg => rfl); (case hr => first | (go_simp; done) | (go_simp; rfl)); intro gb1408 hg w13 hbox hb; have n0_ := Aside0.mk (Kd.R_below (sR_ HO1407.out) hb); have n1_ := Aside0.mk (below_step (sW_ HB.out) hb); have n2_ := Aside0.mk (hbox); have n3_ := Aside0.mk ((by rw [hg]; exact (below_size (sW_ HB.out)) : w.heap.size ≤ gb1408)); have n4_ := n3_; clear HO1407 HB; have HO1407 := n0_; have HB := n1_; have BK1408 := n2_; have GW1408 := n3_; have GE1408 := n4_; clear n0_ n1_ n2_ n3_ n4_; clear hb hbox hg; obtain ⟨hcz14_0, hcz14_1, hcz14_2, hfz14_0, hfz14_1, hfz14_2⟩ := sZ_ BK1408.out; obtain ⟨Ao15, co15, eo15⟩ := Kd.R_slice HO1407.out; subst eo15) | ((with_reducible refine gate_callee (f := 66) rfl ?_); refine goesL_ (some 20) rfl rfl Try.func66 (by kernel_rfl) rfl #[.slice A0 l0.length c0, .int .i64 3] rfl sL_ ?_; (with_reducible refine (laws_fresh.calls k _ _ l0 3 t1409 _ ?side1 ?side2 A4.out).mono ?_); (case side1 => exact Kd.C_below HR0.out (sW_ HB.out)); (case side2 => exact HC0.out); rintro e w16 ⟨v1410, rfl, ho0, hb⟩; refine ⟨_, rfl, ?_⟩; have n0_ := Aside0.mk (Kd.R_below (by (with_reducible repeat (first | apply Kd.R_alloc | apply Kd.R_drewN | apply Kd.R_drew)); exact (sF_ HO1407.out BK1408.out (by decide))) hb); have n1_ := Aside0.mk (Kd.R_lower ho0 (below_size (sW_ HB.out))); have n2_ := Aside0.mk (blk_below (g := gb1408) (o := .cells #[.int .i64 t1403, .int .i64 t1404, .slice Ao15 t1405.length co15] 26 (0, 0)) (by refine sB_ ?_; refine blk_put (cs := #[.int .i64 t1403, .int .i64 t1404, .slice none 0 0]) ?_ 2 _ rfl; refine sB_ ?_; refine blk_put (cs := #[.int .i64 t1403, .int .i64 0, .slice none 0 0]) ?_ 1 _ rfl; refine sB_ ?_; refine blk_put (cs := #[.int .i64 0, .int .i64 0, .slice none 0 0]) ?_ 0 _ rfl; refine sB_ ?_; exact BK1408.out) hb); have n3_ := Aside0.mk (below_step (sW_ HB.out) hb); clear HO1407 BK1408 HB; have HO1407 := n0_; have HO1411 := n1_; have BK1408 := n2_; have HB := n3_; clear n0_ n1_ n2_ n3_; (try clear hb); (try clear hb2); (try clear hk); (try clear hi); (try clear ho0); obtain ⟨Ao17, co17, eo17⟩ := Kd.R_slice HO1411.out; subst eo17) | ((with_reducible refine gate_callee (f := 65) rfl ?_); refine goesL_ (some 21) rfl rfl Try.func65 (by kernel_rfl) rfl #[.slice Ao17 t1409.length co17, .int .i64 9] rfl sL_ ?_; (with_reducible refine (spec_MakePicture.calls k _ _ t1409 9 t1412 t1413 t1414 _ ?side1 ?side2 A5.out).mono ?_); (case side1 => repeat (first | exact (Kd.R_reads' HO1411.out).2.2 | (with_reducible refine Kd.C_alloc ?_ _) | (with_reducible refine Kd.C_drewN ?_ _) | (with_reducible refine Kd.C_drew ?_))); (case side2 => exact (Kd.R_reads' HO1411.out).2.1); rintro e w18 ⟨v1415, rfl, ho0, hb⟩; refine ⟨_, rfl, ?_⟩; have n0_ := Aside0.mk (Kd.R_elder' (sR_ HO1407.out) (Kd.R_base ho0) hb); have n1_ := Aside0.mk (Kd.R_below (sR_ HO1411.out) hb); have n2_ := Aside0.mk (Kd.R_lower (Kd.R_new' ho0 (Kd.R_lt (sR_ HO1407.out))) (below_size (sW_ HB.out))); have n3_ := Aside0.mk (blk_below (sB_ BK1408.out) hb); have n4_ := Aside0.mk (below_step (sW_ HB.out) hb); clear HO1407 HO1411 BK1408 HB; have HO1407 := n0_; have HO1411 := n1_; have HO1416 := n2_; have BK1408 := n3_; have HB := n4_; clear n0_ n1_ n2_ n3_ n4_; (try clear hb); (try clear hb2); (try clear hk); (try clear hi); (try clear ho0)) | ((with_reducible refine gate_dst (N := 4) rfl ?_); refine box_event ?hg (N := 4) ?hd (cs := #[.int .i64 0, .int .i64 0, .slice none 0 0]) (t := 41) ?hr ?_; (case hd => rfl); (case hg => rfl); (case hr => first | (go_simp; done) | (go_simp; rfl)); intro gb1417 hg w19 hbox hb; have n0_ := Aside0.mk (Kd.R_below (sR_ HO1407.out) hb); have n1_ := Aside0.mk (Kd.R_below (sR_ HO1411.out) hb); have n2_ := Aside0.mk (Kd.R_below (sR_ HO1416.out) hb); have n3_ := Aside0.mk (blk_below (sB_ BK1408.out) hb); have n4_ := Aside0.mk (below_step (sW_ HB.out) hb); have n5_ := Aside0.mk (hbox); have n6_ := Aside0.mk ((by rw [hg]; exact (below_size (sW_ HB.out)) : w.heap.size ≤ gb1417)); have n7_ := n6_; have n8_ := Aside0.mk (sN_ hg (blk_lt (sB_ BK1408.out))); have n9_ := Aside0.mk n8_.out.symm; clear HO1407 HO1411 HO1416 BK1408 HB; have HO1407 := n0_; have HO1411 := n1_; have HO1416 := n2_; have BK1408 := n3_; have HB := n4_; have BK1417 := n5_; have GW1417 := n6_; have GE1417 := n7_; have NB1408_1417 := n8_; have NB1417_1408 := n9_; clear n0_ n1_ n2_ n3_ n4_ n5_ n6_ n7_ n8_ n9_; clear hb hbox hg; have hnb20 := NB1417_1408.out; have hnc20 := NB1408_1417.out; obtain ⟨hcz21_0, hcz21_1, hcz21_2, hfz21_0, hfz21_1, hfz21_2⟩ := sZ_ BK1417.out; obtain ⟨Ao22, co22, eo22⟩ := Kd.R_slice HO1416.out; subst eo22))
 have n0_ : Aside0 (Kd.R (Kd.int .i64) 3 (((w19.setCell ⟨gb1417, 0, none⟩ (.int .i64 t1412)).setCell ⟨gb1417, 1, none⟩ (.int .i64 t1413)).setCell ⟨gb1417, 2, none⟩ (.slice Ao22 t1414.length co22)) w.heap.size (fun k_ => some k_ ≠ (.slice Ao22 t1414.length co22 : Value).ownBlock) (.slice Ao15 t1405.length co15) t1405) := ⟨by (with_reducible repeat (first | apply Kd.R_alloc | apply Kd.R_drewN | apply Kd.R_drew)); exact Kd.R_mono (Kd.R_far (p := ⟨gb1417, 2, none⟩) (Kd.R_far (p := ⟨gb1417, 1, none⟩) (Kd.R_far (p := ⟨gb1417, 0, none⟩) (Kd.R_types HO1407.out BK1417.out (by decide)) (fun _ hk => hk.2) (.int .i64 t1412)) (fun _ hk => hk.2) (.int .i64 t1413)) (fun _ hk => hk.2) (.slice Ao22 t1414.length co22)) (fun _ hk => hk.1.2)⟩
 have n1_ : Aside0 (Kd.R (Kd.int .u8) 5 (((w19.setCell ⟨gb1417, 0, none⟩ (.int .i64 t1412)).setCell ⟨gb1417, 1, none⟩ (.int .i64 t1413)).setCell ⟨gb1417, 2, none⟩ (.slice Ao22 t1414.length co22)) w.heap.size (fun _ => True) (.slice Ao17 t1409.length co17) t1409) := ⟨by (with_reducible repeat (first | apply Kd.R_alloc | apply Kd.R_drewN | apply Kd.R_drew)); exact Kd.R_mono (Kd.R_far (p := ⟨gb1417, 2, none⟩) (Kd.R_far (p := ⟨gb1417, 1, none⟩) (Kd.R_far (p := ⟨gb1417, 0, none⟩) (Kd.R_types HO1411.out BK1417.out (by decide)) (fun _ hk => hk.2) (.int .i64 t1412)) (fun _ hk => hk.2) (.int .i64 t1413)) (fun _ hk => hk.2) (.slice Ao22 t1414.length co22)) (fun _ hk => trivial)⟩
 have n2_ : Aside0 (Kd.R (Kd.int .i64) 3 (((w19.setCell ⟨gb1417, 0, none⟩ (.int .i64 t1412)).setCell ⟨gb1417, 1, none⟩ (.int .i64 t1413)).setCell ⟨gb1417, 2, none⟩ (.slice Ao22 t1414.length co22)) w.heap.size (fun k_ => some k_ ≠ (.slice Ao15 t1405.length co15 : Value).ownBlock) (.slice Ao22 t1414.length co22) t1414) := ⟨by (with_reducible repeat (first | apply Kd.R_alloc | apply Kd.R_drewN | apply Kd.R_drew)); exact Kd.R_mono (Kd.R_far (p := ⟨gb1417, 2, none⟩) (Kd.R_far (p := ⟨gb1417, 1, none⟩) (Kd.R_far (p := ⟨gb1417, 0, none⟩) (Kd.R_types HO1416.out BK1417.out (by decide)) (fun _ hk => hk.2) (.int .i64 t1412)) (fun _ hk => hk.2) (.int .i64 t1413)) (fun _ hk => hk.2) (.slice Ao22 t1414.length co22)) (fun _ hk => hk.1.2)⟩
 have n3_ : Aside0 ((((w19.setCell ⟨gb1417, 0, none⟩ (.int .i64 t1412)).setCell ⟨gb1417, 1, none⟩ (.int .i64 t1413)).setCell ⟨gb1417, 2, none⟩ (.slice Ao22 t1414.length co22)).heap[gb1408]? = some (.cells #[.int .i64 t1403, .int .i64 t1404, .slice Ao15 t1405.length co15] 26 (0, 0))) := ⟨by refine sB_ ?_; refine blk_far ?_ NB1408_1417.out _; refine sB_ ?_; refine blk_far ?_ NB1408_1417.out _; refine sB_ ?_; refine blk_far ?_ NB1408_1417.out _; refine sB_ ?_; exact BK1408.out⟩
 have n4_ : Aside0 ((((w19.setCell ⟨gb1417, 0, none⟩ (.int .i64 t1412)).setCell ⟨gb1417, 1, none⟩ (.int .i64 t1413)).setCell ⟨gb1417, 2, none⟩ (.slice Ao22 t1414.length co22)).heap[gb1417]? = some (.cells #[.int .i64 t1412, .int .i64 t1413, .slice Ao22 t1414.length co22] 41 (0, 0))) := ⟨by refine sB_ ?_; refine blk_put (cs := #[.int .i64 t1412, .int .i64 t1413, .slice none 0 0]) ?_ 2 _ rfl; refine sB_ ?_; refine blk_put (cs := #[.int .i64 t1412, .int .i64 0, .slice none 0 0]) ?_ 1 _ rfl; refine sB_ ?_; refine blk_put (cs := #[.int .i64 0, .int .i64 0, .slice none 0 0]) ?_ 0 _ rfl; refine sB_ ?_; exact BK1417.out⟩
 have n5_ : Aside0 (Below w.heap.size w (((w19.setCell ⟨gb1417, 0, none⟩ (.int .i64 t1412)).setCell ⟨gb1417, 1, none⟩ (.int .i64 t1413)).setCell ⟨gb1417, 2, none⟩ (.slice Ao22 t1414.length co22))) := ⟨by repeat (first | (with_reducible first | exact HB.out | apply below_alloc | apply pw_below_drewN | apply below_drew1 | refine below_set ?_ GE1408.out | refine below_set ?_ GE1417.out) | exact HB.out)⟩
 (try clear HO1407)
 (try clear HO1411)
 (try clear HO1416)
 (try clear BK1408)
 (try clear BK1417)
 (try clear HB)
 generalize (((w19.setCell ⟨gb1417, 0, none⟩ (.int .i64 t1412)).setCell ⟨gb1417, 1, none⟩ (.int .i64 t1413)).setCell ⟨gb1417, 2, none⟩ (.slice Ao22 t1414.length co22)) = w23 at n0_ n1_ n2_ n3_ n4_ n5_ ⊢
 have HO1407 := n0_; have HO1411 := n1_; have HO1416 := n2_; have BK1408 := n3_; have BK1417 := n4_; have HB := n5_; clear n0_ n1_ n2_ n3_ n4_ n5_
 have n0_ := Aside0.mk (Kd.R_drew HO1407.out)
 have n1_ := Aside0.mk (Kd.R_drew HO1411.out)
 have n2_ := Aside0.mk (Kd.R_drew HO1416.out)
 have n3_ := Aside0.mk (blk_drew BK1408.out)
 have n4_ := Aside0.mk (blk_drew BK1417.out)
 have n5_ := Aside0.mk (below_drew1 HB.out)
 clear HO1407 HO1411 HO1416 BK1408 BK1417 HB; have HO1407 := n0_; have HO1411 := n1_; have HO1416 := n2_; have BK1408 := n3_; have BK1417 := n4_; have HB := n5_; clear n0_ n1_ n2_ n3_ n4_ n5_
 refine start_ (n := 12) (S := fun w' => w'.cell? ⟨gb1417, 0, none⟩ = some (.int .i64 t1412) ∧ w'.cell? ⟨gb1417, 1, none⟩ = some (.int .i64 t1413) ∧ w'.cell? ⟨gb1417, 2, none⟩ = some (.slice Ao22 t1414.length co22)) (ds := []) #[false, false, false, false, false, false, false, false, false, false, false, false] (by kernel_rfl) rfl rfl ⟨(blk_cell BK1417.out 0).trans rfl, (blk_cell BK1417.out 1).trans rfl, (blk_cell BK1417.out 2).trans rfl⟩ (fun hHeld => ?_); refine with_tabW laws_FnStacked.tab5 laws_FnStacked.bits5 (fun HT_ HW_ => ?_)
 generalize w23.drew = w24 at HO1407 HO1411 HO1416 BK1408 BK1417 HB hHeld ⊢
 refine pure_ (i := 1) (N := some 24) (v := ?_) (a' := ?_) #[false, true, false, false, false, false, false, false, false, false, false, false] rfl rfl (any_of HT_.out (by kernel_rfl)) (fun _ _ _ h => h) (Or.inl ⟨by rfl, ?_⟩) ?_ ?_
 rotate_left
 ·intro w'
  go_simp
  with_reducible rfl
 rotate_left
 ·simp only [Act.put, List.setIfInBounds_toArray, List.set_cons_zero, List.set_cons_succ, i64_w, i32_w]
  rfl
 refine take_ (i := 0) (N := some 23) (v := ?_) (a' := ?_) #[true, true, false, false, false, false, false, false, false, false, false, false] rfl rfl (take_ofW HT_.out HW_.out (by kernel_rfl)) (fun _ _ _ h => h) (Or.inl ⟨by rfl, ?_⟩) hHeld ?_ ?_
 rotate_left
 ·rintro w' ⟨s0, s1, s2⟩
  go_simp
  with_reducible rfl
 rotate_left
 ·simp only [Act.put, List.setIfInBounds_toArray, List.set_cons_zero, List.set_cons_succ, i64_w, i32_w]
  rfl
 refine take_ (i := 3) (N := some 26) (v := ?_) (a' := ?_) #[true, true, false, true, false, false, false, false, false, false, false, false] rfl rfl (take_ofW HT_.out HW_.out (by kernel_rfl)) (fun _ _ _ h => h) (Or.inl ⟨by rfl, ?_⟩) hHeld ?_ ?_
 rotate_left
 ·rintro w' ⟨s0, s1, s2⟩
  go_simp
  with_reducible rfl
 rotate_left
 ·simp only [Act.put, List.setIfInBounds_toArray, List.set_cons_zero, List.set_cons_succ, i64_w, i32_w]
  rfl
 refine join_ (σ := Value × Value × Value × Nat) 2 #[true, true, true, true, true, true, true, true, true, true, false, false] (fun s_ => [(25, s_.1), (27, .agg #[.int .i64 t1421, .int .i64 t1422, s_.2.1]), (28, .tuple #[.agg #[.int .i64 t1426, .int .i64 t1427, s_.2.2.1], .bool t1431]), (5, .pointer (some ⟨s_.2.2.2, 0, none⟩)), (22, .tuple #[.agg #[.int .i64 t1426, .int .i64 t1427, s_.2.2.1], .bool t1431]), (29, .agg #[.int .i64 t1426, .int .i64 t1427, s_.2.2.1]), (30, .bool t1431)]) (fun s_ w' => (w'.cell? ⟨gb1417, 0, none⟩ = some (.int .i64 t1412) ∧ w'.cell? ⟨gb1417, 1, none⟩ = some (.int .i64 t1413) ∧ w'.cell? ⟨gb1417, 2, none⟩ = some (.slice Ao22 t1414.length co22)) ∧ (Kd.R (Kd.int .i64) 3 w' w.heap.size (fun k_ => some k_ ≠ (.slice Ao22 t1414.length co22 : Value).ownBlock ∧ some k_ ≠ (s_.2.1 : Value).ownBlock ∧ some k_ ≠ (s_.2.2.1 : Value).ownBlock) (.slice Ao15 t1405.length co15) t1405) ∧ (Kd.R (Kd.int .u8) 5 w' w.heap.size (fun k_ => some k_ ≠ (s_.1 : Value).ownBlock) (.slice Ao17 t1409.length co17) t1409) ∧ (Kd.R (Kd.int .i64) 3 w' w.heap.size (fun k_ => some k_ ≠ (.slice Ao15 t1405.length co15 : Value).ownBlock ∧ some k_ ≠ (s_.2.1 : Value).ownBlock ∧ some k_ ≠ (s_.2.2.1 : Value).ownBlock) (.slice Ao22 t1414.length co22) t1414) ∧ (Kd.R (Kd.int .u8) 5 w' w.heap.size (fun k_ => some k_ ≠ (.slice Ao17 t1409.length co17 : Value).ownBlock) s_.1 t1418) ∧ (Kd.R (Kd.int .i64) 3 w' w.heap.size (fun k_ => some k_ ≠ (.slice Ao15 t1405.length co15 : Value).ownBlock ∧ some k_ ≠ (.slice Ao22 t1414.length co22 : Value).ownBlock ∧ some k_ ≠ (s_.2.2.1 : Value).ownBlock) s_.2.1 t1423) ∧ (Kd.R (Kd.int .i64) 3 w' w.heap.size (fun k_ => some k_ ≠ (.slice Ao15 t1405.length co15 : Value).ownBlock ∧ some k_ ≠ (.slice Ao22 t1414.length co22 : Value).ownBlock ∧ some k_ ≠ (s_.2.1 : Value).ownBlock) s_.2.2.1 t1428) ∧ (w'.heap[gb1408]? = some (.cells #[.int .i64 t1403, .int .i64 t1404, .slice Ao15 t1405.length co15] 26 (0, 0))) ∧ (w'.heap[gb1417]? = some (.cells #[.int .i64 t1412, .int .i64 t1413, .slice Ao22 t1414.length co22] 41 (0, 0))) ∧ (w'.heap[s_.2.2.2]? = some (.cells #[.int .i64 0, .int .i64 0, .slice none 0 0] 41 (0, 0))) ∧ (w.heap.size ≤ s_.2.2.2) ∧ (w.heap.size ≤ s_.2.2.2) ∧ (gb1408 ≠ s_.2.2.2) ∧ (s_.2.2.2 ≠ gb1408) ∧ (gb1417 ≠ s_.2.2.2) ∧ (s_.2.2.2 ≠ gb1417) ∧ (Below w.heap.size w w')) ?_ ?_
 rotate_left
 ·intro hCont
  refine two_ (i := 2) (j := 9) (Ni := some 25) (Nj := some 5) #[true, true, true, true, false, false, false, false, false, false, false, false] #[true, true, false, true, false, false, false, false, false, true, false, false] rfl rfl rfl rfl (two_of HT_.out (by kernel_rfl)) (by decide) (by decide) (fun K hK => ?_) (fun K hK => ?_)
  ·skip
   refine goes_ Try.func66 (by kernel_rfl) rfl #[.slice A0 l0.length c0, .int .i64 5] (by rfl) rfl rfl sL_ ?_
   with_reducible refine (laws_fresh.calls k _ _ l0 5 t1418 _ ?side1 ?side2 A6.out).mono ?_
   (case side1 => repeat (first | exact (Kd.C_below HR0.out HB.out) | (with_reducible refine Kd.C_alloc ?_ _) | (with_reducible refine Kd.C_drewN ?_ _) | (with_reducible refine Kd.C_drew ?_)))
   (case side2 => exact HC0.out)
   rintro e w25 ⟨v1419, rfl, ho0, hb⟩
   refine ⟨_, rfl, ?_⟩
   have n0_ := Aside0.mk (Kd.R_below (sR_ HO1407.out) hb)
   have n1_ := Aside0.mk (Kd.R_elder' (sR_ HO1411.out) (Kd.R_base ho0) hb)
   have n2_ := Aside0.mk (Kd.R_below (sR_ HO1416.out) hb)
   have n3_ := Aside0.mk (Kd.R_lower (Kd.R_new' ho0 (Kd.R_lt (sR_ HO1411.out))) (below_size (sW_ HB.out)))
   have n4_ := Aside0.mk (blk_below (sB_ BK1408.out) hb)
   have n5_ := Aside0.mk (blk_below (sB_ BK1417.out) hb)
   have n6_ := Aside0.mk (below_step (sW_ HB.out) hb)
   clear HO1407 HO1411 HO1416 BK1408 BK1417 HB; have HO1407 := n0_; have HO1411 := n1_; have HO1416 := n2_; have HO1420 := n3_; have BK1408 := n4_; have BK1417 := n5_; have HB := n6_; clear n0_ n1_ n2_ n3_ n4_ n5_ n6_
   (try clear hb)
   (try clear hb2)
   (try clear hk)
   (try clear hi)
   (try clear ho0)
   obtain ⟨Ao26, co26, eo26⟩ := Kd.R_slice HO1420.out
   (first | subst eo26 | (injection eo26 with f1_ f2_ f3_; have f4_ := f1_.symm; have f5_ := f3_.symm; clear f1_ f2_ f3_; subst f4_; subst f5_))
   refine hK.out _ _ ⟨(blk_cell BK1417.out 0).trans rfl, (blk_cell BK1417.out 1).trans rfl, (blk_cell BK1417.out 2).trans rfl⟩ (fun hHeld => ?_)
   clear hK K
   refine norm_ (a' := ?_) ?_ ?_
   rotate_left
   ·show Act.put _ (some 25) _ = _
    simp only [Act.put, List.setIfInBounds_toArray, List.set_cons_zero, List.set_cons_succ, i64_w, i32_w]
    rfl
   refine two_ (i := 4) (j := 9) (Ni := some 27) (Nj := some 5) #[true, true, true, true, true, false, false, false, false, false, false, false] #[true, true, true, true, false, false, false, false, false, true, false, false] rfl rfl rfl rfl (two_of HT_.out (by kernel_rfl)) (by decide) (by decide) (fun K hK => ?_) (fun K hK => ?_)
   ·skip
    refine goes_ Try.func80 (by kernel_rfl) rfl #[.slice Ao26 t1418.length co26, .agg #[.int .i64 t1412, .int .i64 t1413, .slice Ao22 t1414.length co22]] (by rfl) rfl rfl sL_ ?_
    with_reducible refine (spec_MakeLike.calls k _ _ t1418 t1412 t1413 _ _ t1414 t1421 t1422 t1423 _ ?side1 ?side2 ?side3 ?side4 A7.out).mono ?_
    (case side1 => repeat (first | exact (Kd.R_reads' HO1420.out).2.2 | (with_reducible refine Kd.C_alloc ?_ _) | (with_reducible refine Kd.C_drewN ?_ _) | (with_reducible refine Kd.C_drew ?_)))
    (case side2 => exact (Kd.R_reads' HO1420.out).2.1)
    (case side3 => repeat (first | exact (Kd.R_reads' HO1416.out).2.2 | (with_reducible refine Kd.C_alloc ?_ _) | (with_reducible refine Kd.C_drewN ?_ _) | (with_reducible refine Kd.C_drew ?_)))
    (case side4 => exact (Kd.R_reads' HO1416.out).2.1)
    rintro e w27 ⟨v1424, rfl, ho0, hb⟩
    refine ⟨_, rfl, ?_⟩
    have n0_ := Aside0.mk (Kd.R_elder' (sR_ HO1407.out) (Kd.R_base ho0) hb)
    have n1_ := Aside0.mk (Kd.R_below (sR_ HO1411.out) hb)
    have n2_ := Aside0.mk (Kd.R_elder' (sR_ HO1416.out) (Kd.R_base ho0) hb)
    have n3_ := Aside0.mk (Kd.R_below (sR_ HO1420.out) hb)
    have n4_ := Aside0.mk (Kd.R_lower (Kd.R_new' (Kd.R_new' ho0 (Kd.R_lt (sR_ HO1407.out))) (Kd.R_lt (sR_ HO1416.out))) (below_size (sW_ HB.out)))
    have n5_ := Aside0.mk (blk_below (sB_ BK1408.out) hb)
    have n6_ := Aside0.mk (blk_below (sB_ BK1417.out) hb)
    have n7_ := Aside0.mk (below_step (sW_ HB.out) hb)
    clear HO1407 HO1411 HO1416 HO1420 BK1408 BK1417 HB; have HO1407 := n0_; have HO1411 := n1_; have HO1416 := n2_; have HO1420 := n3_; have HO1425 := n4_; have BK1408 := n5_; have BK1417 := n6_; have HB := n7_; clear n0_ n1_ n2_ n3_ n4_ n5_ n6_ n7_
    (try clear hb)
    (try clear hb2)
    (try clear hk)
    (try clear hi)
    (try clear ho0)
    obtain ⟨Ao28, co28, eo28⟩ := Kd.R_slice HO1425.out
    (first | subst eo28 | (injection eo28 with f1_ f2_ f3_; have f4_ := f1_.symm; have f5_ := f3_.symm; clear f1_ f2_ f3_; subst f4_; subst f5_))
    refine hK.out _ _ ⟨(blk_cell BK1417.out 0).trans rfl, (blk_cell BK1417.out 1).trans rfl, (blk_cell BK1417.out 2).trans rfl⟩ (fun hHeld => ?_)
    clear hK K
    refine norm_ (a' := ?_) ?_ ?_
    rotate_left
    ·show Act.put _ (some 27) _ = _
     simp only [Act.put, List.setIfInBounds_toArray, List.set_cons_zero, List.set_cons_succ, i64_w, i32_w]
     rfl
    refine two_ (i := 5) (j := 9) (Ni := some 28) (Nj := some 5) #[true, true, true, true, true, true, false, false, false, false, false, false] #[true, true, true, true, true, false, false, false, false, true, false, false] rfl rfl rfl rfl (two_of HT_.out (by kernel_rfl)) (by decide) (by decide) (fun K hK => ?_) (fun K hK => ?_)
    ·skip
     refine goes_ Try.func79 (by kernel_rfl) rfl #[.agg #[.int .i64 t1412, .int .i64 t1413, .slice Ao22 t1414.length co22], .agg #[.int .i64 t1421, .int .i64 t1422, .slice Ao28 t1423.length co28]] (by rfl) rfl rfl sL_ ?_
     with_reducible refine (spec_AddPictures.calls k t1412 t1413 _ _ t1414 t1421 t1422 _ _ t1423 t1426 t1427 t1428 t1431 _ ?side1 ?side2 ?side3 ?side4 A8.out).mono ?_
     (case side1 => repeat (first | exact (Kd.R_reads' HO1416.out).2.2 | (with_reducible refine Kd.C_alloc ?_ _) | (with_reducible refine Kd.C_drewN ?_ _) | (with_reducible refine Kd.C_drew ?_)))
     (case side2 => exact (Kd.R_reads' HO1416.out).2.1)
     (case side3 => repeat (first | exact (Kd.R_reads' HO1425.out).2.2 | (with_reducible refine Kd.C_alloc ?_ _) | (with_reducible refine Kd.C_drewN ?_ _) | (with_reducible refine Kd.C_drew ?_)))
     (case side4 => exact (Kd.R_reads' HO1425.out).2.1)
     rintro e w29 ⟨v1429, rfl, ho0, hb⟩
     refine ⟨_, rfl, ?_⟩
     have n0_ := Aside0.mk (Kd.R_elder' (sR_ HO1407.out) (Kd.R_base ho0) hb)
     have n1_ := Aside0.mk (Kd.R_below (sR_ HO1411.out) hb)
     have n2_ := Aside0.mk (Kd.R_elder' (sR_ HO1416.out) (Kd.R_base ho0) hb)
     have n3_ := Aside0.mk (Kd.R_below (sR_ HO1420.out) hb)
     have n4_ := Aside0.mk (Kd.R_elder' (sR_ HO1425.out) (Kd.R_base ho0) hb)
     have n5_ := Aside0.mk (Kd.R_lower (Kd.R_new' (Kd.R_new' (Kd.R_new' ho0 (Kd.R_lt (sR_ HO1407.out))) (Kd.R_lt (sR_ HO1416.out))) (Kd.R_lt (sR_ HO1425.out))) (below_size (sW_ HB.out)))
     have n6_ := Aside0.mk (blk_below (sB_ BK1408.out) hb)
     have n7_ := Aside0.mk (blk_below (sB_ BK1417.out) hb)
     have n8_ := Aside0.mk (below_step (sW_ HB.out) hb)
     clear HO1407 HO1411 HO1416 HO1420 HO1425 BK1408 BK1417 HB; have HO1407 := n0_; have HO1411 := n1_; have HO1416 := n2_; have HO1420 := n3_; have HO1425 := n4_; have HO1430 := n5_; have BK1408 := n6_; have BK1417 := n7_; have HB := n8_; clear n0_ n1_ n2_ n3_ n4_ n5_ n6_ n7_ n8_
     (try clear hb)
     (try clear hb2)
     (try clear hk)
     (try clear hi)
     (try clear ho0)
     refine hK.out _ _ ⟨(blk_cell BK1417.out 0).trans rfl, (blk_cell BK1417.out 1).trans rfl, (blk_cell BK1417.out 2).trans rfl⟩ (fun hHeld => ?_)
     clear hK K
     refine norm_ (a' := ?_) ?_ ?_
     rotate_left
     ·show Act.put _ (some 28) _ = _
      simp only [Act.put, List.setIfInBounds_toArray, List.set_cons_zero, List.set_cons_succ, i64_w, i32_w]
      rfl
     refine pure_ (i := 6) (N := some 22) (v := ?_) (a' := ?_) #[true, true, true, true, true, true, true, false, false, false, false, false] rfl rfl (any_of HT_.out (by kernel_rfl)) (fun _ _ _ h => h) (Or.inl ⟨by rfl, ?_⟩) ?_ ?_
     rotate_left
     ·intro w'
      go_simp
      with_reducible rfl
     rotate_left
     ·simp only [Act.put, List.setIfInBounds_toArray, List.set_cons_zero, List.set_cons_succ, i64_w, i32_w]
      rfl
     refine pure_ (i := 7) (N := some 29) (v := ?_) (a' := ?_) #[true, true, true, true, true, true, true, true, false, false, false, false] rfl rfl (any_of HT_.out (by kernel_rfl)) (fun _ _ _ h => h) (Or.inl ⟨by rfl, ?_⟩) ?_ ?_
     rotate_left
     ·intro w'
      go_simp
      with_reducible rfl
     rotate_left
     ·simp only [Act.put, List.setIfInBounds_toArray, List.set_cons_zero, List.set_cons_succ, i64_w, i32_w]
      rfl
     refine pure_ (i := 8) (N := some 30) (v := ?_) (a' := ?_) #[true, true, true, true, true, true, true, true, true, false, false, false] rfl rfl (any_of HT_.out (by kernel_rfl)) (fun _ _ _ h => h) (Or.inl ⟨by rfl, ?_⟩) ?_ ?_
     rotate_left
     ·intro w'
      go_simp
      with_reducible rfl
     rotate_left
     ·simp only [Act.put, List.setIfInBounds_toArray, List.set_cons_zero, List.set_cons_succ, i64_w, i32_w]
      rfl
     refine one_ (i := 9) (N := some 5) #[true, true, true, true, true, true, true, true, true, true, false, false] rfl rfl (one_of HT_.out (by kernel_rfl)) (by decide) (fun K hK => ?_)
     refine box_step ?hg (N := 5) ?hd (cs := #[.int .i64 0, .int .i64 0, .slice none 0 0]) (t := 41) ?hr ?_; (case hd => rfl); (case hg => rfl); (case hr => first | (go_simp; done) | (go_simp; rfl))
     intro gb1432 hg w30 hbox hb
     have n0_ := Aside0.mk (Kd.R_below (sR_ HO1407.out) hb)
     have n1_ := Aside0.mk (Kd.R_below (sR_ HO1411.out) hb)
     have n2_ := Aside0.mk (Kd.R_below (sR_ HO1416.out) hb)
     have n3_ := Aside0.mk (Kd.R_below (sR_ HO1420.out) hb)
     have n4_ := Aside0.mk (Kd.R_below (sR_ HO1425.out) hb)
     have n5_ := Aside0.mk (Kd.R_below (sR_ HO1430.out) hb)
     have n6_ := Aside0.mk (blk_below (sB_ BK1408.out) hb)
     have n7_ := Aside0.mk (blk_below (sB_ BK1417.out) hb)
     have n8_ := Aside0.mk (below_step (sW_ HB.out) hb)
     have n9_ := Aside0.mk (hbox)
     have n10_ := Aside0.mk ((by rw [hg]; exact (below_size (sW_ HB.out)) : w.heap.size ≤ gb1432))
     have n11_ := n10_
     have n12_ := Aside0.mk (sN_ hg (blk_lt (sB_ BK1408.out)))
     have n13_ := Aside0.mk n12_.out.symm
     have n14_ := Aside0.mk (sN_ hg (blk_lt (sB_ BK1417.out)))
     have n15_ := Aside0.mk n14_.out.symm
     clear HO1407 HO1411 HO1416 HO1420 HO1425 HO1430 BK1408 BK1417 HB; have HO1407 := n0_; have HO1411 := n1_; have HO1416 := n2_; have HO1420 := n3_; have HO1425 := n4_; have HO1430 := n5_; have BK1408 := n6_; have BK1417 := n7_; have HB := n8_; have BK1432 := n9_; have GW1432 := n10_; have GE1432 := n11_; have NB1408_1432 := n12_; have NB1432_1408 := n13_; have NB1417_1432 := n14_; have NB1432_1417 := n15_; clear n0_ n1_ n2_ n3_ n4_ n5_ n6_ n7_ n8_ n9_ n10_ n11_ n12_ n13_ n14_ n15_ hb hbox hg
     refine hK.out _ _ ⟨(blk_cell BK1417.out 0).trans rfl, (blk_cell BK1417.out 1).trans rfl, (blk_cell BK1417.out 2).trans rfl⟩ (fun hHeld => ?_)
     clear hK K
     refine norm_ (a' := ?_) ?_ ?_
     rotate_left
     ·show Act.put _ (some 5) _ = _
      simp only [Act.put, List.setIfInBounds_toArray, List.set_cons_zero, List.set_cons_succ, i64_w, i32_w]
      rfl
     exact norm_ sP_ (hCont (.slice Ao26 t1418.length co26, .slice Ao28 t1423.length co28, v1429, gb1432) _ ⟨hHeld, (by (with_reducible repeat (first | apply Kd.R_alloc | apply Kd.R_drewN | apply Kd.R_drew)); exact Kd.R_mono HO1407.out (fun _ hk => ⟨hk.1.1, ⟨hk.1.2, hk.2⟩⟩)), (by (with_reducible repeat (first | apply Kd.R_alloc | apply Kd.R_drewN | apply Kd.R_drew)); exact Kd.R_mono HO1411.out (fun _ hk => hk.2)), (by (with_reducible repeat (first | apply Kd.R_alloc | apply Kd.R_drewN | apply Kd.R_drew)); exact Kd.R_mono HO1416.out (fun _ hk => ⟨hk.1.1, ⟨hk.1.2, hk.2⟩⟩)), (by (with_reducible repeat (first | apply Kd.R_alloc | apply Kd.R_drewN | apply Kd.R_drew)); exact Kd.R_mono HO1420.out (fun _ hk => hk.2)), (by (with_reducible repeat (first | apply Kd.R_alloc | apply Kd.R_drewN | apply Kd.R_drew)); exact Kd.R_mono HO1425.out (fun _ hk => ⟨hk.1.1.2, ⟨hk.1.2, hk.2⟩⟩)), (by (with_reducible repeat (first | apply Kd.R_alloc | apply Kd.R_drewN | apply Kd.R_drew)); exact Kd.R_mono HO1430.out (fun _ hk => ⟨hk.1.1.2, ⟨hk.1.2, hk.2⟩⟩)), (sB_ BK1408.out), (sB_ BK1417.out), (sB_ BK1432.out), GW1432.out, GE1432.out, NB1408_1432.out, NB1432_1408.out, NB1417_1432.out, NB1432_1417.out, (sW_ HB.out)⟩)
    skip
    refine box_step ?hg (N := 5) ?hd (cs := #[.int .i64 0, .int .i64 0, .slice none 0 0]) (t := 41) ?hr ?_; (case hd => rfl); (case hg => rfl); (case hr => first | (go_simp; done) | (go_simp; rfl))
    intro gb1432 hg w28 hbox hb
    have n0_ := Aside0.mk (Kd.R_below (sR_ HO1407.out) hb)
    have n1_ := Aside0.mk (Kd.R_below (sR_ HO1411.out) hb)
    have n2_ := Aside0.mk (Kd.R_below (sR_ HO1416.out) hb)
    have n3_ := Aside0.mk (Kd.R_below (sR_ HO1420.out) hb)
    have n4_ := Aside0.mk (Kd.R_below (sR_ HO1425.out) hb)
    have n5_ := Aside0.mk (blk_below (sB_ BK1408.out) hb)
    have n6_ := Aside0.mk (blk_below (sB_ BK1417.out) hb)
    have n7_ := Aside0.mk (below_step (sW_ HB.out) hb)
    have n8_ := Aside0.mk (hbox)
    have n9_ := Aside0.mk ((by rw [hg]; exact (below_size (sW_ HB.out)) : w.heap.size ≤ gb1432))
    have n10_ := n9_
    have n11_ := Aside0.mk (sN_ hg (blk_lt (sB_ BK1408.out)))
    have n12_ := Aside0.mk n11_.out.symm
    have n13_ := Aside0.mk (sN_ hg (blk_lt (sB_ BK1417.out)))
    have n14_ := Aside0.mk n13_.out.symm
    clear HO1407 HO1411 HO1416 HO1420 HO1425 BK1408 BK1417 HB; have HO1407 := n0_; have HO1411 := n1_; have HO1416 := n2_; have HO1420 := n3_; have HO1425 := n4_; have BK1408 := n5_; have BK1417 := n6_; have HB := n7_; have BK1432 := n8_; have GW1432 := n9_; have GE1432 := n10_; have NB1408_1432 := n11_; have NB1432_1408 := n12_; have NB1417_1432 := n13_; have NB1432_1417 := n14_; clear n0_ n1_ n2_ n3_ n4_ n5_ n6_ n7_ n8_ n9_ n10_ n11_ n12_ n13_ n14_ hb hbox hg
    obtain ⟨Ao29, co29, eo29⟩ := Kd.R_slice HO1425.out
    (first | subst eo29 | (injection eo29 with f1_ f2_ f3_; have f4_ := f1_.symm; have f5_ := f3_.symm; clear f1_ f2_ f3_; subst f4_; subst f5_))
    refine hK.out _ _ ⟨(blk_cell BK1417.out 0).trans rfl, (blk_cell BK1417.out 1).trans rfl, (blk_cell BK1417.out 2).trans rfl⟩ (fun hHeld => ?_)
    clear hK K
    refine norm_ (a' := ?_) ?_ ?_
    rotate_left
    ·show Act.put _ (some 5) _ = _
     simp only [Act.put, List.setIfInBounds_toArray, List.set_cons_zero, List.set_cons_succ, i64_w, i32_w]
     rfl
    refine one_ (i := 5) (N := some 28) #[true, true, true, true, true, true, false, false, false, true, false, false] rfl rfl (one_of HT_.out (by kernel_rfl)) (by decide) (fun K hK => ?_)
    refine goes_ Try.func79 (by kernel_rfl) rfl #[.agg #[.int .i64 t1412, .int .i64 t1413, .slice Ao22 t1414.length co22], .agg #[.int .i64 t1421, .int .i64 t1422, .slice Ao29 t1423.length co29]] (by rfl) rfl rfl sL_ ?_
    with_reducible refine (spec_AddPictures.calls k t1412 t1413 _ _ t1414 t1421 t1422 _ _ t1423 t1426 t1427 t1428 t1431 _ ?side1 ?side2 ?side3 ?side4 A8.out).mono ?_
    (case side1 => repeat (first | exact (Kd.R_reads' HO1416.out).2.2 | (with_reducible refine Kd.C_alloc ?_ _) | (with_reducible refine Kd.C_drewN ?_ _) | (with_reducible refine Kd.C_drew ?_)))
    (case side2 => exact (Kd.R_reads' HO1416.out).2.1)
    (case side3 => repeat (first | exact (Kd.R_reads' HO1425.out).2.2 | (with_reducible refine Kd.C_alloc ?_ _) | (with_reducible refine Kd.C_drewN ?_ _) | (with_reducible refine Kd.C_drew ?_)))
    (case side4 => exact (Kd.R_reads' HO1425.out).2.1)
    rintro e w30 ⟨v1429, rfl, ho0, hb⟩
    refine ⟨_, rfl, ?_⟩
    have n0_ := Aside0.mk (Kd.R_elder' (sR_ HO1407.out) (Kd.R_base ho0) hb)
    have n1_ := Aside0.mk (Kd.R_below (sR_ HO1411.out) hb)
    have n2_ := Aside0.mk (Kd.R_elder' (sR_ HO1416.out) (Kd.R_base ho0) hb)
    have n3_ := Aside0.mk (Kd.R_below (sR_ HO1420.out) hb)
    have n4_ := Aside0.mk (Kd.R_elder' (sR_ HO1425.out) (Kd.R_base ho0) hb)
    have n5_ := Aside0.mk (Kd.R_lower (Kd.R_new' (Kd.R_new' (Kd.R_new' ho0 (Kd.R_lt (sR_ HO1407.out))) (Kd.R_lt (sR_ HO1416.out))) (Kd.R_lt (sR_ HO1425.out))) (below_size (sW_ HB.out)))
    have n6_ := Aside0.mk (blk_below (sB_ BK1408.out) hb)
    have n7_ := Aside0.mk (blk_below (sB_ BK1417.out) hb)
    have n8_ := Aside0.mk (blk_below (sB_ BK1432.out) hb)
    have n9_ := Aside0.mk (below_step (sW_ HB.out) hb)
    clear HO1407 HO1411 HO1416 HO1420 HO1425 BK1408 BK1417 BK1432 HB; have HO1407 := n0_; have HO1411 := n1_; have HO1416 := n2_; have HO1420 := n3_; have HO1425 := n4_; have HO1430 := n5_; have BK1408 := n6_; have BK1417 := n7_; have BK1432 := n8_; have HB := n9_; clear n0_ n1_ n2_ n3_ n4_ n5_ n6_ n7_ n8_ n9_
    (try clear hb)
    (try clear hb2)
    (try clear hk)
    (try clear hi)
    (try clear ho0)
    refine hK.out _ _ ⟨(blk_cell BK1417.out 0).trans rfl, (blk_cell BK1417.out 1).trans rfl, (blk_cell BK1417.out 2).trans rfl⟩ (fun hHeld => ?_)
    clear hK K
    refine norm_ (a' := ?_) ?_ ?_
    rotate_left
    ·show Act.put _ (some 28) _ = _
     simp only [Act.put, List.setIfInBounds_toArray, List.set_cons_zero, List.set_cons_succ, i64_w, i32_w]
     rfl
    refine pure_ (i := 6) (N := some 22) (v := ?_) (a' := ?_) #[true, true, true, true, true, true, true, false, false, true, false, false] rfl rfl (any_of HT_.out (by kernel_rfl)) (fun _ _ _ h => h) (Or.inl ⟨by rfl, ?_⟩) ?_ ?_
    rotate_left
    ·intro w'
     go_simp
     with_reducible rfl
    rotate_left
    ·simp only [Act.put, List.setIfInBounds_toArray, List.set_cons_zero, List.set_cons_succ, i64_w, i32_w]
     rfl
    refine pure_ (i := 7) (N := some 29) (v := ?_) (a' := ?_) #[true, true, true, true, true, true, true, true, false, true, false, false] rfl rfl (any_of HT_.out (by kernel_rfl)) (fun _ _ _ h => h) (Or.inl ⟨by rfl, ?_⟩) ?_ ?_
    rotate_left
    ·intro w'
     go_simp
     with_reducible rfl
    rotate_left
    ·simp only [Act.put, List.setIfInBounds_toArray, List.set_cons_zero, List.set_cons_succ, i64_w, i32_w]
     rfl
    refine pure_ (i := 8) (N := some 30) (v := ?_) (a' := ?_) #[true, true, true, true, true, true, true, true, true, true, false, false] rfl rfl (any_of HT_.out (by kernel_rfl)) (fun _ _ _ h => h) (Or.inl ⟨by rfl, ?_⟩) ?_ ?_
    rotate_left
    ·intro w'
     go_simp
     with_reducible rfl
    rotate_left
    ·simp only [Act.put, List.setIfInBounds_toArray, List.set_cons_zero, List.set_cons_succ, i64_w, i32_w]
     rfl
    exact norm_ sP_ (hCont (.slice Ao26 t1418.length co26, .slice Ao29 t1423.length co29, v1429, gb1432) _ ⟨hHeld, (by (with_reducible repeat (first | apply Kd.R_alloc | apply Kd.R_drewN | apply Kd.R_drew)); exact Kd.R_mono HO1407.out (fun _ hk => ⟨hk.1.1, ⟨hk.1.2, hk.2⟩⟩)), (by (with_reducible repeat (first | apply Kd.R_alloc | apply Kd.R_drewN | apply Kd.R_drew)); exact Kd.R_mono HO1411.out (fun _ hk => hk.2)), (by (with_reducible repeat (first | apply Kd.R_alloc | apply Kd.R_drewN | apply Kd.R_drew)); exact Kd.R_mono HO1416.out (fun _ hk => ⟨hk.1.1, ⟨hk.1.2, hk.2⟩⟩)), (by (with_reducible repeat (first | apply Kd.R_alloc | apply Kd.R_drewN | apply Kd.R_drew)); exact Kd.R_mono HO1420.out (fun _ hk => hk.2)), (by (with_reducible repeat (first | apply Kd.R_alloc | apply Kd.R_drewN | apply Kd.R_drew)); exact Kd.R_mono HO1425.out (fun _ hk => ⟨hk.1.1.2, ⟨hk.1.2, hk.2⟩⟩)), (by (with_reducible repeat (first | apply Kd.R_alloc | apply Kd.R_drewN | apply Kd.R_drew)); exact Kd.R_mono HO1430.out (fun _ hk => ⟨hk.1.1.2, ⟨hk.1.2, hk.2⟩⟩)), (sB_ BK1408.out), (sB_ BK1417.out), (sB_ BK1432.out), GW1432.out, GE1432.out, NB1408_1432.out, NB1432_1408.out, NB1417_1432.out, NB1432_1417.out, (sW_ HB.out)⟩)
   skip
   refine box_step ?hg (N := 5) ?hd (cs := #[.int .i64 0, .int .i64 0, .slice none 0 0]) (t := 41) ?hr ?_; (case hd => rfl); (case hg => rfl); (case hr => first | (go_simp; done) | (go_simp; rfl))
   intro gb1432 hg w26 hbox hb
   have n0_ := Aside0.mk (Kd.R_below (sR_ HO1407.out) hb)
   have n1_ := Aside0.mk (Kd.R_below (sR_ HO1411.out) hb)
   have n2_ := Aside0.mk (Kd.R_below (sR_ HO1416.out) hb)
   have n3_ := Aside0.mk (Kd.R_below (sR_ HO1420.out) hb)
   have n4_ := Aside0.mk (blk_below (sB_ BK1408.out) hb)
   have n5_ := Aside0.mk (blk_below (sB_ BK1417.out) hb)
   have n6_ := Aside0.mk (below_step (sW_ HB.out) hb)
   have n7_ := Aside0.mk (hbox)
   have n8_ := Aside0.mk ((by rw [hg]; exact (below_size (sW_ HB.out)) : w.heap.size ≤ gb1432))
   have n9_ := n8_
   have n10_ := Aside0.mk (sN_ hg (blk_lt (sB_ BK1408.out)))
   have n11_ := Aside0.mk n10_.out.symm
   have n12_ := Aside0.mk (sN_ hg (blk_lt (sB_ BK1417.out)))
   have n13_ := Aside0.mk n12_.out.symm
   clear HO1407 HO1411 HO1416 HO1420 BK1408 BK1417 HB; have HO1407 := n0_; have HO1411 := n1_; have HO1416 := n2_; have HO1420 := n3_; have BK1408 := n4_; have BK1417 := n5_; have HB := n6_; have BK1432 := n7_; have GW1432 := n8_; have GE1432 := n9_; have NB1408_1432 := n10_; have NB1432_1408 := n11_; have NB1417_1432 := n12_; have NB1432_1417 := n13_; clear n0_ n1_ n2_ n3_ n4_ n5_ n6_ n7_ n8_ n9_ n10_ n11_ n12_ n13_ hb hbox hg
   obtain ⟨Ao27, co27, eo27⟩ := Kd.R_slice HO1420.out
   (first | subst eo27 | (injection eo27 with f1_ f2_ f3_; have f4_ := f1_.symm; have f5_ := f3_.symm; clear f1_ f2_ f3_; subst f4_; subst f5_))
   refine hK.out _ _ ⟨(blk_cell BK1417.out 0).trans rfl, (blk_cell BK1417.out 1).trans rfl, (blk_cell BK1417.out 2).trans rfl⟩ (fun hHeld => ?_)
   clear hK K
   refine norm_ (a' := ?_) ?_ ?_
   rotate_left
   ·show Act.put _ (some 5) _ = _
    simp only [Act.put, List.setIfInBounds_toArray, List.set_cons_zero, List.set_cons_succ, i64_w, i32_w]
    rfl
   refine one_ (i := 4) (N := some 27) #[true, true, true, true, true, false, false, false, false, true, false, false] rfl rfl (one_of HT_.out (by kernel_rfl)) (by decide) (fun K hK => ?_)
   refine goes_ Try.func80 (by kernel_rfl) rfl #[.slice Ao27 t1418.length co27, .agg #[.int .i64 t1412, .int .i64 t1413, .slice Ao22 t1414.length co22]] (by rfl) rfl rfl sL_ ?_
   with_reducible refine (spec_MakeLike.calls k _ _ t1418 t1412 t1413 _ _ t1414 t1421 t1422 t1423 _ ?side1 ?side2 ?side3 ?side4 A7.out).mono ?_
   (case side1 => repeat (first | exact (Kd.R_reads' HO1420.out).2.2 | (with_reducible refine Kd.C_alloc ?_ _) | (with_reducible refine Kd.C_drewN ?_ _) | (with_reducible refine Kd.C_drew ?_)))
   (case side2 => exact (Kd.R_reads' HO1420.out).2.1)
   (case side3 => repeat (first | exact (Kd.R_reads' HO1416.out).2.2 | (with_reducible refine Kd.C_alloc ?_ _) | (with_reducible refine Kd.C_drewN ?_ _) | (with_reducible refine Kd.C_drew ?_)))
   (case side4 => exact (Kd.R_reads' HO1416.out).2.1)
   rintro e w28 ⟨v1424, rfl, ho0, hb⟩
   refine ⟨_, rfl, ?_⟩
   have n0_ := Aside0.mk (Kd.R_elder' (sR_ HO1407.out) (Kd.R_base ho0) hb)
   have n1_ := Aside0.mk (Kd.R_below (sR_ HO1411.out) hb)
   have n2_ := Aside0.mk (Kd.R_elder' (sR_ HO1416.out) (Kd.R_base ho0) hb)
   have n3_ := Aside0.mk (Kd.R_below (sR_ HO1420.out) hb)
   have n4_ := Aside0.mk (Kd.R_lower (Kd.R_new' (Kd.R_new' ho0 (Kd.R_lt (sR_ HO1407.out))) (Kd.R_lt (sR_ HO1416.out))) (below_size (sW_ HB.out)))
   have n5_ := Aside0.mk (blk_below (sB_ BK1408.out) hb)
   have n6_ := Aside0.mk (blk_below (sB_ BK1417.out) hb)
   have n7_ := Aside0.mk (blk_below (sB_ BK1432.out) hb)
   have n8_ := Aside0.mk (below_step (sW_ HB.out) hb)
   clear HO1407 HO1411 HO1416 HO1420 BK1408 BK1417 BK1432 HB; have HO1407 := n0_; have HO1411 := n1_; have HO1416 := n2_; have HO1420 := n3_; have HO1425 := n4_; have BK1408 := n5_; have BK1417 := n6_; have BK1432 := n7_; have HB := n8_; clear n0_ n1_ n2_ n3_ n4_ n5_ n6_ n7_ n8_
   (try clear hb)
   (try clear hb2)
   (try clear hk)
   (try clear hi)
   (try clear ho0)
   obtain ⟨Ao29, co29, eo29⟩ := Kd.R_slice HO1425.out
   (first | subst eo29 | (injection eo29 with f1_ f2_ f3_; have f4_ := f1_.symm; have f5_ := f3_.symm; clear f1_ f2_ f3_; subst f4_; subst f5_))
   refine hK.out _ _ ⟨(blk_cell BK1417.out 0).trans rfl, (blk_cell BK1417.out 1).trans rfl, (blk_cell BK1417.out 2).trans rfl⟩ (fun hHeld => ?_)
   clear hK K
   refine norm_ (a' := ?_) ?_ ?_
   rotate_left
   ·show Act.put _ (some 27) _ = _
    simp only [Act.put, List.setIfInBounds_toArray, List.set_cons_zero, List.set_cons_succ, i64_w, i32_w]
    rfl
   refine one_ (i := 5) (N := some 28) #[true, true, true, true, true, true, false, false, false, true, false, false] rfl rfl (one_of HT_.out (by kernel_rfl)) (by decide) (fun K hK => ?_)
   refine goes_ Try.func79 (by kernel_rfl) rfl #[.agg #[.int .i64 t1412, .int .i64 t1413, .slice Ao22 t1414.length co22], .agg #[.int .i64 t1421, .int .i64 t1422, .slice Ao29 t1423.length co29]] (by rfl) rfl rfl sL_ ?_
   with_reducible refine (spec_AddPictures.calls k t1412 t1413 _ _ t1414 t1421 t1422 _ _ t1423 t1426 t1427 t1428 t1431 _ ?side1 ?side2 ?side3 ?side4 A8.out).mono ?_
   (case side1 => repeat (first | exact (Kd.R_reads' HO1416.out).2.2 | (with_reducible refine Kd.C_alloc ?_ _) | (with_reducible refine Kd.C_drewN ?_ _) | (with_reducible refine Kd.C_drew ?_)))
   (case side2 => exact (Kd.R_reads' HO1416.out).2.1)
   (case side3 => repeat (first | exact (Kd.R_reads' HO1425.out).2.2 | (with_reducible refine Kd.C_alloc ?_ _) | (with_reducible refine Kd.C_drewN ?_ _) | (with_reducible refine Kd.C_drew ?_)))
   (case side4 => exact (Kd.R_reads' HO1425.out).2.1)
   rintro e w30 ⟨v1429, rfl, ho0, hb⟩
   refine ⟨_, rfl, ?_⟩
   have n0_ := Aside0.mk (Kd.R_elder' (sR_ HO1407.out) (Kd.R_base ho0) hb)
   have n1_ := Aside0.mk (Kd.R_below (sR_ HO1411.out) hb)
   have n2_ := Aside0.mk (Kd.R_elder' (sR_ HO1416.out) (Kd.R_base ho0) hb)
   have n3_ := Aside0.mk (Kd.R_below (sR_ HO1420.out) hb)
   have n4_ := Aside0.mk (Kd.R_elder' (sR_ HO1425.out) (Kd.R_base ho0) hb)
   have n5_ := Aside0.mk (Kd.R_lower (Kd.R_new' (Kd.R_new' (Kd.R_new' ho0 (Kd.R_lt (sR_ HO1407.out))) (Kd.R_lt (sR_ HO1416.out))) (Kd.R_lt (sR_ HO1425.out))) (below_size (sW_ HB.out)))
   have n6_ := Aside0.mk (blk_below (sB_ BK1408.out) hb)
   have n7_ := Aside0.mk (blk_below (sB_ BK1417.out) hb)
   have n8_ := Aside0.mk (blk_below (sB_ BK1432.out) hb)
   have n9_ := Aside0.mk (below_step (sW_ HB.out) hb)
   clear HO1407 HO1411 HO1416 HO1420 HO1425 BK1408 BK1417 BK1432 HB; have HO1407 := n0_; have HO1411 := n1_; have HO1416 := n2_; have HO1420 := n3_; have HO1425 := n4_; have HO1430 := n5_; have BK1408 := n6_; have BK1417 := n7_; have BK1432 := n8_; have HB := n9_; clear n0_ n1_ n2_ n3_ n4_ n5_ n6_ n7_ n8_ n9_
   (try clear hb)
   (try clear hb2)
   (try clear hk)
   (try clear hi)
   (try clear ho0)
   refine hK.out _ _ ⟨(blk_cell BK1417.out 0).trans rfl, (blk_cell BK1417.out 1).trans rfl, (blk_cell BK1417.out 2).trans rfl⟩ (fun hHeld => ?_)
   clear hK K
   refine norm_ (a' := ?_) ?_ ?_
   rotate_left
   ·show Act.put _ (some 28) _ = _
    simp only [Act.put, List.setIfInBounds_toArray, List.set_cons_zero, List.set_cons_succ, i64_w, i32_w]
    rfl
   refine pure_ (i := 6) (N := some 22) (v := ?_) (a' := ?_) #[true, true, true, true, true, true, true, false, false, true, false, false] rfl rfl (any_of HT_.out (by kernel_rfl)) (fun _ _ _ h => h) (Or.inl ⟨by rfl, ?_⟩) ?_ ?_
   rotate_left
   ·intro w'
    go_simp
    with_reducible rfl
   rotate_left
   ·simp only [Act.put, List.setIfInBounds_toArray, List.set_cons_zero, List.set_cons_succ, i64_w, i32_w]
    rfl
   refine pure_ (i := 7) (N := some 29) (v := ?_) (a' := ?_) #[true, true, true, true, true, true, true, true, false, true, false, false] rfl rfl (any_of HT_.out (by kernel_rfl)) (fun _ _ _ h => h) (Or.inl ⟨by rfl, ?_⟩) ?_ ?_
   rotate_left
   ·intro w'
    go_simp
    with_reducible rfl
   rotate_left
   ·simp only [Act.put, List.setIfInBounds_toArray, List.set_cons_zero, List.set_cons_succ, i64_w, i32_w]
    rfl
   refine pure_ (i := 8) (N := some 30) (v := ?_) (a' := ?_) #[true, true, true, true, true, true, true, true, true, true, false, false] rfl rfl (any_of HT_.out (by kernel_rfl)) (fun _ _ _ h => h) (Or.inl ⟨by rfl, ?_⟩) ?_ ?_
   rotate_left
   ·intro w'
    go_simp
    with_reducible rfl
   rotate_left
   ·simp only [Act.put, List.setIfInBounds_toArray, List.set_cons_zero, List.set_cons_succ, i64_w, i32_w]
    rfl
   exact norm_ sP_ (hCont (.slice Ao27 t1418.length co27, .slice Ao29 t1423.length co29, v1429, gb1432) _ ⟨hHeld, (by (with_reducible repeat (first | apply Kd.R_alloc | apply Kd.R_drewN | apply Kd.R_drew)); exact Kd.R_mono HO1407.out (fun _ hk => ⟨hk.1.1, ⟨hk.1.2, hk.2⟩⟩)), (by (with_reducible repeat (first | apply Kd.R_alloc | apply Kd.R_drewN | apply Kd.R_drew)); exact Kd.R_mono HO1411.out (fun _ hk => hk.2)), (by (with_reducible repeat (first | apply Kd.R_alloc | apply Kd.R_drewN | apply Kd.R_drew)); exact Kd.R_mono HO1416.out (fun _ hk => ⟨hk.1.1, ⟨hk.1.2, hk.2⟩⟩)), (by (with_reducible repeat (first | apply Kd.R_alloc | apply Kd.R_drewN | apply Kd.R_drew)); exact Kd.R_mono HO1420.out (fun _ hk => hk.2)), (by (with_reducible repeat (first | apply Kd.R_alloc | apply Kd.R_drewN | apply Kd.R_drew)); exact Kd.R_mono HO1425.out (fun _ hk => ⟨hk.1.1.2, ⟨hk.1.2, hk.2⟩⟩)), (by (with_reducible repeat (first | apply Kd.R_alloc | apply Kd.R_drewN | apply Kd.R_drew)); exact Kd.R_mono HO1430.out (fun _ hk => ⟨hk.1.1.2, ⟨hk.1.2, hk.2⟩⟩)), (sB_ BK1408.out), (sB_ BK1417.out), (sB_ BK1432.out), GW1432.out, GE1432.out, NB1408_1432.out, NB1432_1408.out, NB1417_1432.out, NB1432_1417.out, (sW_ HB.out)⟩)
  skip
  refine box_step ?hg (N := 5) ?hd (cs := #[.int .i64 0, .int .i64 0, .slice none 0 0]) (t := 41) ?hr ?_; (case hd => rfl); (case hg => rfl); (case hr => first | (go_simp; done) | (go_simp; rfl))
  intro gb1432 hg w25 hbox hb
  have n0_ := Aside0.mk (Kd.R_below (sR_ HO1407.out) hb)
  have n1_ := Aside0.mk (Kd.R_below (sR_ HO1411.out) hb)
  have n2_ := Aside0.mk (Kd.R_below (sR_ HO1416.out) hb)
  have n3_ := Aside0.mk (blk_below (sB_ BK1408.out) hb)
  have n4_ := Aside0.mk (blk_below (sB_ BK1417.out) hb)
  have n5_ := Aside0.mk (below_step (sW_ HB.out) hb)
  have n6_ := Aside0.mk (hbox)
  have n7_ := Aside0.mk ((by rw [hg]; exact (below_size (sW_ HB.out)) : w.heap.size ≤ gb1432))
  have n8_ := n7_
  have n9_ := Aside0.mk (sN_ hg (blk_lt (sB_ BK1408.out)))
  have n10_ := Aside0.mk n9_.out.symm
  have n11_ := Aside0.mk (sN_ hg (blk_lt (sB_ BK1417.out)))
  have n12_ := Aside0.mk n11_.out.symm
  clear HO1407 HO1411 HO1416 BK1408 BK1417 HB; have HO1407 := n0_; have HO1411 := n1_; have HO1416 := n2_; have BK1408 := n3_; have BK1417 := n4_; have HB := n5_; have BK1432 := n6_; have GW1432 := n7_; have GE1432 := n8_; have NB1408_1432 := n9_; have NB1432_1408 := n10_; have NB1417_1432 := n11_; have NB1432_1417 := n12_; clear n0_ n1_ n2_ n3_ n4_ n5_ n6_ n7_ n8_ n9_ n10_ n11_ n12_ hb hbox hg
  refine hK.out _ _ ⟨(blk_cell BK1417.out 0).trans rfl, (blk_cell BK1417.out 1).trans rfl, (blk_cell BK1417.out 2).trans rfl⟩ (fun hHeld => ?_)
  clear hK K
  refine norm_ (a' := ?_) ?_ ?_
  rotate_left
  ·show Act.put _ (some 5) _ = _
   simp only [Act.put, List.setIfInBounds_toArray, List.set_cons_zero, List.set_cons_succ, i64_w, i32_w]
   rfl
  refine one_ (i := 2) (N := some 25) #[true, true, true, true, false, false, false, false, false, true, false, false] rfl rfl (one_of HT_.out (by kernel_rfl)) (by decide) (fun K hK => ?_)
  refine goes_ Try.func66 (by kernel_rfl) rfl #[.slice A0 l0.length c0, .int .i64 5] (by rfl) rfl rfl sL_ ?_
  with_reducible refine (laws_fresh.calls k _ _ l0 5 t1418 _ ?side1 ?side2 A6.out).mono ?_
  (case side1 => repeat (first | exact (Kd.C_below HR0.out HB.out) | (with_reducible refine Kd.C_alloc ?_ _) | (with_reducible refine Kd.C_drewN ?_ _) | (with_reducible refine Kd.C_drew ?_)))
  (case side2 => exact HC0.out)
  rintro e w26 ⟨v1419, rfl, ho0, hb⟩
  refine ⟨_, rfl, ?_⟩
  have n0_ := Aside0.mk (Kd.R_below (sR_ HO1407.out) hb)
  have n1_ := Aside0.mk (Kd.R_elder' (sR_ HO1411.out) (Kd.R_base ho0) hb)
  have n2_ := Aside0.mk (Kd.R_below (sR_ HO1416.out) hb)
  have n3_ := Aside0.mk (Kd.R_lower (Kd.R_new' ho0 (Kd.R_lt (sR_ HO1411.out))) (below_size (sW_ HB.out)))
  have n4_ := Aside0.mk (blk_below (sB_ BK1408.out) hb)
  have n5_ := Aside0.mk (blk_below (sB_ BK1417.out) hb)
  have n6_ := Aside0.mk (blk_below (sB_ BK1432.out) hb)
  have n7_ := Aside0.mk (below_step (sW_ HB.out) hb)
  clear HO1407 HO1411 HO1416 BK1408 BK1417 BK1432 HB; have HO1407 := n0_; have HO1411 := n1_; have HO1416 := n2_; have HO1420 := n3_; have BK1408 := n4_; have BK1417 := n5_; have BK1432 := n6_; have HB := n7_; clear n0_ n1_ n2_ n3_ n4_ n5_ n6_ n7_
  (try clear hb)
  (try clear hb2)
  (try clear hk)
  (try clear hi)
  (try clear ho0)
  obtain ⟨Ao27, co27, eo27⟩ := Kd.R_slice HO1420.out
  (first | subst eo27 | (injection eo27 with f1_ f2_ f3_; have f4_ := f1_.symm; have f5_ := f3_.symm; clear f1_ f2_ f3_; subst f4_; subst f5_))
  refine hK.out _ _ ⟨(blk_cell BK1417.out 0).trans rfl, (blk_cell BK1417.out 1).trans rfl, (blk_cell BK1417.out 2).trans rfl⟩ (fun hHeld => ?_)
  clear hK K
  refine norm_ (a' := ?_) ?_ ?_
  rotate_left
  ·show Act.put _ (some 25) _ = _
   simp only [Act.put, List.setIfInBounds_toArray, List.set_cons_zero, List.set_cons_succ, i64_w, i32_w]
   rfl
  refine one_ (i := 4) (N := some 27) #[true, true, true, true, true, false, false, false, false, true, false, false] rfl rfl (one_of HT_.out (by kernel_rfl)) (by decide) (fun K hK => ?_)
  refine goes_ Try.func80 (by kernel_rfl) rfl #[.slice Ao27 t1418.length co27, .agg #[.int .i64 t1412, .int .i64 t1413, .slice Ao22 t1414.length co22]] (by rfl) rfl rfl sL_ ?_
  with_reducible refine (spec_MakeLike.calls k _ _ t1418 t1412 t1413 _ _ t1414 t1421 t1422 t1423 _ ?side1 ?side2 ?side3 ?side4 A7.out).mono ?_
  (case side1 => repeat (first | exact (Kd.R_reads' HO1420.out).2.2 | (with_reducible refine Kd.C_alloc ?_ _) | (with_reducible refine Kd.C_drewN ?_ _) | (with_reducible refine Kd.C_drew ?_)))
  (case side2 => exact (Kd.R_reads' HO1420.out).2.1)
  (case side3 => repeat (first | exact (Kd.R_reads' HO1416.out).2.2 | (with_reducible refine Kd.C_alloc ?_ _) | (with_reducible refine Kd.C_drewN ?_ _) | (with_reducible refine Kd.C_drew ?_)))
  (case side4 => exact (Kd.R_reads' HO1416.out).2.1)
  rintro e w28 ⟨v1424, rfl, ho0, hb⟩
  refine ⟨_, rfl, ?_⟩
  have n0_ := Aside0.mk (Kd.R_elder' (sR_ HO1407.out) (Kd.R_base ho0) hb)
  have n1_ := Aside0.mk (Kd.R_below (sR_ HO1411.out) hb)
  have n2_ := Aside0.mk (Kd.R_elder' (sR_ HO1416.out) (Kd.R_base ho0) hb)
  have n3_ := Aside0.mk (Kd.R_below (sR_ HO1420.out) hb)
  have n4_ := Aside0.mk (Kd.R_lower (Kd.R_new' (Kd.R_new' ho0 (Kd.R_lt (sR_ HO1407.out))) (Kd.R_lt (sR_ HO1416.out))) (below_size (sW_ HB.out)))
  have n5_ := Aside0.mk (blk_below (sB_ BK1408.out) hb)
  have n6_ := Aside0.mk (blk_below (sB_ BK1417.out) hb)
  have n7_ := Aside0.mk (blk_below (sB_ BK1432.out) hb)
  have n8_ := Aside0.mk (below_step (sW_ HB.out) hb)
  clear HO1407 HO1411 HO1416 HO1420 BK1408 BK1417 BK1432 HB; have HO1407 := n0_; have HO1411 := n1_; have HO1416 := n2_; have HO1420 := n3_; have HO1425 := n4_; have BK1408 := n5_; have BK1417 := n6_; have BK1432 := n7_; have HB := n8_; clear n0_ n1_ n2_ n3_ n4_ n5_ n6_ n7_ n8_
  (try clear hb)
  (try clear hb2)
  (try clear hk)
  (try clear hi)
  (try clear ho0)
  obtain ⟨Ao29, co29, eo29⟩ := Kd.R_slice HO1425.out
  (first | subst eo29 | (injection eo29 with f1_ f2_ f3_; have f4_ := f1_.symm; have f5_ := f3_.symm; clear f1_ f2_ f3_; subst f4_; subst f5_))
  refine hK.out _ _ ⟨(blk_cell BK1417.out 0).trans rfl, (blk_cell BK1417.out 1).trans rfl, (blk_cell BK1417.out 2).trans rfl⟩ (fun hHeld => ?_)
  clear hK K
  refine norm_ (a' := ?_) ?_ ?_
  rotate_left
  ·show Act.put _ (some 27) _ = _
   simp only [Act.put, List.setIfInBounds_toArray, List.set_cons_zero, List.set_cons_succ, i64_w, i32_w]
   rfl
  refine one_ (i := 5) (N := some 28) #[true, true, true, true, true, true, false, false, false, true, false, false] rfl rfl (one_of HT_.out (by kernel_rfl)) (by decide) (fun K hK => ?_)
  refine goes_ Try.func79 (by kernel_rfl) rfl #[.agg #[.int .i64 t1412, .int .i64 t1413, .slice Ao22 t1414.length co22], .agg #[.int .i64 t1421, .int .i64 t1422, .slice Ao29 t1423.length co29]] (by rfl) rfl rfl sL_ ?_
  with_reducible refine (spec_AddPictures.calls k t1412 t1413 _ _ t1414 t1421 t1422 _ _ t1423 t1426 t1427 t1428 t1431 _ ?side1 ?side2 ?side3 ?side4 A8.out).mono ?_
  (case side1 => repeat (first | exact (Kd.R_reads' HO1416.out).2.2 | (with_reducible refine Kd.C_alloc ?_ _) | (with_reducible refine Kd.C_drewN ?_ _) | (with_reducible refine Kd.C_drew ?_)))
  (case side2 => exact (Kd.R_reads' HO1416.out).2.1)
  (case side3 => repeat (first | exact (Kd.R_reads' HO1425.out).2.2 | (with_reducible refine Kd.C_alloc ?_ _) | (with_reducible refine Kd.C_drewN ?_ _) | (with_reducible refine Kd.C_drew ?_)))
  (case side4 => exact (Kd.R_reads' HO1425.out).2.1)
  rintro e w30 ⟨v1429, rfl, ho0, hb⟩
  refine ⟨_, rfl, ?_⟩
  have n0_ := Aside0.mk (Kd.R_elder' (sR_ HO1407.out) (Kd.R_base ho0) hb)
  have n1_ := Aside0.mk (Kd.R_below (sR_ HO1411.out) hb)
  have n2_ := Aside0.mk (Kd.R_elder' (sR_ HO1416.out) (Kd.R_base ho0) hb)
  have n3_ := Aside0.mk (Kd.R_below (sR_ HO1420.out) hb)
  have n4_ := Aside0.mk (Kd.R_elder' (sR_ HO1425.out) (Kd.R_base ho0) hb)
  have n5_ := Aside0.mk (Kd.R_lower (Kd.R_new' (Kd.R_new' (Kd.R_new' ho0 (Kd.R_lt (sR_ HO1407.out))) (Kd.R_lt (sR_ HO1416.out))) (Kd.R_lt (sR_ HO1425.out))) (below_size (sW_ HB.out)))
  have n6_ := Aside0.mk (blk_below (sB_ BK1408.out) hb)
  have n7_ := Aside0.mk (blk_below (sB_ BK1417.out) hb)
  have n8_ := Aside0.mk (blk_below (sB_ BK1432.out) hb)
  have n9_ := Aside0.mk (below_step (sW_ HB.out) hb)
  clear HO1407 HO1411 HO1416 HO1420 HO1425 BK1408 BK1417 BK1432 HB; have HO1407 := n0_; have HO1411 := n1_; have HO1416 := n2_; have HO1420 := n3_; have HO1425 := n4_; have HO1430 := n5_; have BK1408 := n6_; have BK1417 := n7_; have BK1432 := n8_; have HB := n9_; clear n0_ n1_ n2_ n3_ n4_ n5_ n6_ n7_ n8_ n9_
  (try clear hb)
  (try clear hb2)
  (try clear hk)
  (try clear hi)
  (try clear ho0)
  refine hK.out _ _ ⟨(blk_cell BK1417.out 0).trans rfl, (blk_cell BK1417.out 1).trans rfl, (blk_cell BK1417.out 2).trans rfl⟩ (fun hHeld => ?_)
  clear hK K
  refine norm_ (a' := ?_) ?_ ?_
  rotate_left
  ·show Act.put _ (some 28) _ = _
   simp only [Act.put, List.setIfInBounds_toArray, List.set_cons_zero, List.set_cons_succ, i64_w, i32_w]
   rfl
  refine pure_ (i := 6) (N := some 22) (v := ?_) (a' := ?_) #[true, true, true, true, true, true, true, false, false, true, false, false] rfl rfl (any_of HT_.out (by kernel_rfl)) (fun _ _ _ h => h) (Or.inl ⟨by rfl, ?_⟩) ?_ ?_
  rotate_left
  ·intro w'
   go_simp
   with_reducible rfl
  rotate_left
  ·simp only [Act.put, List.setIfInBounds_toArray, List.set_cons_zero, List.set_cons_succ, i64_w, i32_w]
   rfl
  refine pure_ (i := 7) (N := some 29) (v := ?_) (a' := ?_) #[true, true, true, true, true, true, true, true, false, true, false, false] rfl rfl (any_of HT_.out (by kernel_rfl)) (fun _ _ _ h => h) (Or.inl ⟨by rfl, ?_⟩) ?_ ?_
  rotate_left
  ·intro w'
   go_simp
   with_reducible rfl
  rotate_left
  ·simp only [Act.put, List.setIfInBounds_toArray, List.set_cons_zero, List.set_cons_succ, i64_w, i32_w]
   rfl
  refine pure_ (i := 8) (N := some 30) (v := ?_) (a' := ?_) #[true, true, true, true, true, true, true, true, true, true, false, false] rfl rfl (any_of HT_.out (by kernel_rfl)) (fun _ _ _ h => h) (Or.inl ⟨by rfl, ?_⟩) ?_ ?_
  rotate_left
  ·intro w'
   go_simp
   with_reducible rfl
  rotate_left
  ·simp only [Act.put, List.setIfInBounds_toArray, List.set_cons_zero, List.set_cons_succ, i64_w, i32_w]
   rfl
  exact norm_ sP_ (hCont (.slice Ao27 t1418.length co27, .slice Ao29 t1423.length co29, v1429, gb1432) _ ⟨hHeld, (by (with_reducible repeat (first | apply Kd.R_alloc | apply Kd.R_drewN | apply Kd.R_drew)); exact Kd.R_mono HO1407.out (fun _ hk => ⟨hk.1.1, ⟨hk.1.2, hk.2⟩⟩)), (by (with_reducible repeat (first | apply Kd.R_alloc | apply Kd.R_drewN | apply Kd.R_drew)); exact Kd.R_mono HO1411.out (fun _ hk => hk.2)), (by (with_reducible repeat (first | apply Kd.R_alloc | apply Kd.R_drewN | apply Kd.R_drew)); exact Kd.R_mono HO1416.out (fun _ hk => ⟨hk.1.1, ⟨hk.1.2, hk.2⟩⟩)), (by (with_reducible repeat (first | apply Kd.R_alloc | apply Kd.R_drewN | apply Kd.R_drew)); exact Kd.R_mono HO1420.out (fun _ hk => hk.2)), (by (with_reducible repeat (first | apply Kd.R_alloc | apply Kd.R_drewN | apply Kd.R_drew)); exact Kd.R_mono HO1425.out (fun _ hk => ⟨hk.1.1.2, ⟨hk.1.2, hk.2⟩⟩)), (by (with_reducible repeat (first | apply Kd.R_alloc | apply Kd.R_drewN | apply Kd.R_drew)); exact Kd.R_mono HO1430.out (fun _ hk => ⟨hk.1.1.2, ⟨hk.1.2, hk.2⟩⟩)), (sB_ BK1408.out), (sB_ BK1417.out), (sB_ BK1432.out), GW1432.out, GE1432.out, NB1408_1432.out, NB1432_1408.out, NB1417_1432.out, NB1432_1417.out, (sW_ HB.out)⟩)
 rintro ⟨v1419, v1424, v1429, gb1432⟩ w31 ⟨hS_, h0_, h1_, h2_, h3_, h4_, h5_, h6_, h7_, h8_, h9_, h10_, h11_, h12_, h13_, h14_, h15_⟩
 have n0_ : Aside0 (Kd.R (Kd.int .i64) 3 w31 w.heap.size (fun k_ => some k_ ≠ (.slice Ao22 t1414.length co22 : Value).ownBlock ∧ some k_ ≠ (v1424 : Value).ownBlock ∧ some k_ ≠ (v1429 : Value).ownBlock) (.slice Ao15 t1405.length co15) t1405) := ⟨h0_⟩
 have n1_ : Aside0 (Kd.R (Kd.int .u8) 5 w31 w.heap.size (fun k_ => some k_ ≠ (v1419 : Value).ownBlock) (.slice Ao17 t1409.length co17) t1409) := ⟨h1_⟩
 have n2_ : Aside0 (Kd.R (Kd.int .i64) 3 w31 w.heap.size (fun k_ => some k_ ≠ (.slice Ao15 t1405.length co15 : Value).ownBlock ∧ some k_ ≠ (v1424 : Value).ownBlock ∧ some k_ ≠ (v1429 : Value).ownBlock) (.slice Ao22 t1414.length co22) t1414) := ⟨h2_⟩
 have n3_ : Aside0 (Kd.R (Kd.int .u8) 5 w31 w.heap.size (fun k_ => some k_ ≠ (.slice Ao17 t1409.length co17 : Value).ownBlock) v1419 t1418) := ⟨h3_⟩
 have n4_ : Aside0 (Kd.R (Kd.int .i64) 3 w31 w.heap.size (fun k_ => some k_ ≠ (.slice Ao15 t1405.length co15 : Value).ownBlock ∧ some k_ ≠ (.slice Ao22 t1414.length co22 : Value).ownBlock ∧ some k_ ≠ (v1429 : Value).ownBlock) v1424 t1423) := ⟨h4_⟩
 have n5_ : Aside0 (Kd.R (Kd.int .i64) 3 w31 w.heap.size (fun k_ => some k_ ≠ (.slice Ao15 t1405.length co15 : Value).ownBlock ∧ some k_ ≠ (.slice Ao22 t1414.length co22 : Value).ownBlock ∧ some k_ ≠ (v1424 : Value).ownBlock) v1429 t1428) := ⟨h5_⟩
 have n6_ : Aside0 (w31.heap[gb1408]? = some (.cells #[.int .i64 t1403, .int .i64 t1404, .slice Ao15 t1405.length co15] 26 (0, 0))) := ⟨h6_⟩
 have n7_ : Aside0 (w31.heap[gb1417]? = some (.cells #[.int .i64 t1412, .int .i64 t1413, .slice Ao22 t1414.length co22] 41 (0, 0))) := ⟨h7_⟩
 have n8_ : Aside0 (w31.heap[gb1432]? = some (.cells #[.int .i64 0, .int .i64 0, .slice none 0 0] 41 (0, 0))) := ⟨h8_⟩
 have n9_ : Aside0 (w.heap.size ≤ gb1432) := ⟨h9_⟩
 have n10_ : Aside0 (w.heap.size ≤ gb1432) := ⟨h10_⟩
 have n11_ : Aside0 (gb1408 ≠ gb1432) := ⟨h11_⟩
 have n12_ : Aside0 (gb1432 ≠ gb1408) := ⟨h12_⟩
 have n13_ : Aside0 (gb1417 ≠ gb1432) := ⟨h13_⟩
 have n14_ : Aside0 (gb1432 ≠ gb1417) := ⟨h14_⟩
 have n15_ : Aside0 (Below w.heap.size w w31) := ⟨h15_⟩
 clear HO1407 HO1411 HO1416 BK1408 BK1417 HB h0_ h1_ h2_ h3_ h4_ h5_ h6_ h7_ h8_ h9_ h10_ h11_ h12_ h13_ h14_ h15_; have HO1407 := n0_; have HO1411 := n1_; have HO1416 := n2_; have HO1420 := n3_; have HO1425 := n4_; have HO1430 := n5_; have BK1408 := n6_; have BK1417 := n7_; have BK1432 := n8_; have GW1432 := n9_; have GE1432 := n10_; have NB1408_1432 := n11_; have NB1432_1408 := n12_; have NB1417_1432 := n13_; have NB1432_1417 := n14_; have HB := n15_; clear n0_ n1_ n2_ n3_ n4_ n5_ n6_ n7_ n8_ n9_ n10_ n11_ n12_ n13_ n14_ n15_
 have hHeld : w31.cell? ⟨gb1417, 0, none⟩ = some (.int .i64 t1412) ∧ w31.cell? ⟨gb1417, 1, none⟩ = some (.int .i64 t1413) ∧ w31.cell? ⟨gb1417, 2, none⟩ = some (.slice Ao22 t1414.length co22) := hS_
 obtain ⟨Ao34, co34, eo34⟩ := Kd.R_slice HO1430.out
 (first | subst eo34 | (injection eo34 with f1_ f2_ f3_; have f4_ := f1_.symm; have f5_ := f3_.symm; clear f1_ f2_ f3_; subst f4_; subst f5_))
 refine norm_ (a' := ?_) ?_ ?_
 rotate_left
 ·simp only [putAll, Act.put, List.setIfInBounds_toArray, List.set_cons_zero, List.set_cons_succ]
  rfl
 refine one_ (i := 10) (N := none) #[true, true, true, true, true, true, true, true, true, true, true, false] rfl rfl (one_of HT_.out (by kernel_rfl)) (by decide) (fun K hK => ?_)
 have hs32 : w31.cell? ⟨gb1432, 0, none⟩ = some (.int .i64 0) := (blk_cell BK1432.out 0).trans rfl
 have hfs32 := blk_frozen BK1432.out 0
 have hns32_0 := NB1408_1432.out; have hns32_1 := NB1417_1432.out; have hms32_0 := NB1432_1408.out; have hms32_1 := NB1432_1417.out
 have hs33 : w31.cell? ⟨gb1432, 1, none⟩ = some (.int .i64 0) := (blk_cell BK1432.out 1).trans rfl
 have hfs33 := blk_frozen BK1432.out 1
 have hns33_0 := NB1408_1432.out; have hns33_1 := NB1417_1432.out; have hms33_0 := NB1432_1408.out; have hms33_1 := NB1432_1417.out
 have hs35 : w31.cell? ⟨gb1432, 2, none⟩ = some (.slice none 0 0) := (blk_cell BK1432.out 2).trans rfl
 have hfs35 := blk_frozen BK1432.out 2
 have hns35_0 := NB1408_1432.out; have hns35_1 := NB1417_1432.out; have hms35_0 := NB1432_1408.out; have hms35_1 := NB1432_1417.out
 refine skip_ (w1 := ?_) (by rfl) rfl ?_ ?_
 rotate_left
 ·go_simp
  rfl
 refine hK.out _ _ ⟨((cell_far (p := ⟨gb1432, _, none⟩) NB1417_1432.out _).trans (((cell_far (p := ⟨gb1432, _, none⟩) NB1417_1432.out _).trans (((cell_far (p := ⟨gb1432, _, none⟩) NB1417_1432.out _).trans (hHeld.1)))))), ((cell_far (p := ⟨gb1432, _, none⟩) NB1417_1432.out _).trans (((cell_far (p := ⟨gb1432, _, none⟩) NB1417_1432.out _).trans (((cell_far (p := ⟨gb1432, _, none⟩) NB1417_1432.out _).trans (hHeld.2.1)))))), ((cell_far (p := ⟨gb1432, _, none⟩) NB1417_1432.out _).trans (((cell_far (p := ⟨gb1432, _, none⟩) NB1417_1432.out _).trans (((cell_far (p := ⟨gb1432, _, none⟩) NB1417_1432.out _).trans (hHeld.2.2))))))⟩ (fun hHeld => ?_)
 clear hK K
 refine pure_ (i := 11) (N := some 6) (v := ?_) (a' := ?_) #[true, true, true, true, true, true, true, true, true, true, true, true] rfl rfl (any_of HT_.out (by kernel_rfl)) (fun _ _ _ h => h) (Or.inl ⟨by rfl, ?_⟩) ?_ ?_
 rotate_left
 ·intro w'
  go_simp
  with_reducible rfl
 rotate_left
 ·simp only [Act.put, List.setIfInBounds_toArray, List.set_cons_zero, List.set_cons_succ, i64_w, i32_w]
  rfl
 refine done_ (done_of HT_.out (by kernel_rfl)) ?_
 have hnb36 := NB1408_1432.out; have hnc36 := NB1432_1408.out
 obtain ⟨hcz37_0, hcz37_1, hcz37_2, hfz37_0, hfz37_1, hfz37_2⟩ := sZ_ BK1408.out
 have hnb38 := NB1417_1432.out; have hnc38 := NB1432_1417.out
 obtain ⟨hcz39_0, hcz39_1, hcz39_2, hfz39_0, hfz39_1, hfz39_2⟩ := sZ_ BK1417.out
 go_upto_region 8 with (first | ((with_reducible refine gate_callee (f := 72) rfl ?_); refine goesL_ (some 33) rfl rfl Try.func72 (by kernel_rfl) rfl #[.agg #[.int .i64 t1403, .int .i64 t1404, .slice Ao15 t1405.length co15], .agg #[.int .i64 t1412, .int .i64 t1413, .slice Ao22 t1414.length co22]] rfl sL_ ?_; (with_reducible refine (impl_ScreenPicture.calls t1403 t1404 _ _ t1405 t1412 t1413 _ _ t1414 t1433 t1434 t1435 _ ?side1 ?side2 ?side3 ?side4 A9.out).mono ?_); (case side1 => refine (Kd.R_reads' (e := 3) (base := w.heap.size) (ok := fun k_ => (some k_ ≠ (.slice Ao22 t1414.length co22 : Value).ownBlock ∧ (some k_ ≠ (v1424 : Value).ownBlock ∧ some k_ ≠ (.slice Ao34 t1428.length co34 : Value).ownBlock))) (n := t1405.length) (c := co15) ?_).2.2; exact (by (with_reducible repeat (first | apply Kd.R_alloc | apply Kd.R_drewN | apply Kd.R_drew)); exact (sF_ HO1407.out BK1432.out (by decide)))); (case side2 => exact (Kd.R_reads' HO1407.out).2.1); (case side3 => refine (Kd.R_reads' (e := 3) (base := w.heap.size) (ok := fun k_ => (some k_ ≠ (.slice Ao15 t1405.length co15 : Value).ownBlock ∧ (some k_ ≠ (v1424 : Value).ownBlock ∧ some k_ ≠ (.slice Ao34 t1428.length co34 : Value).ownBlock))) (n := t1414.length) (c := co22) ?_).2.2; exact (by (with_reducible repeat (first | apply Kd.R_alloc | apply Kd.R_drewN | apply Kd.R_drew)); exact (sF_ HO1416.out BK1432.out (by decide)))); (case side4 => exact (Kd.R_reads' HO1416.out).2.1); rintro e w40 ⟨v1436, rfl, ho0, hb⟩; refine ⟨_, rfl, ?_⟩; have n0_ := Aside0.mk (Kd.R_elder' (by (with_reducible repeat (first | apply Kd.R_alloc | apply Kd.R_drewN | apply Kd.R_drew)); exact (sF_ HO1407.out BK1432.out (by decide))) (Kd.R_base ho0) hb); have n1_ := Aside0.mk (Kd.R_below (by (with_reducible repeat (first | apply Kd.R_alloc | apply Kd.R_drewN | apply Kd.R_drew)); exact (sF_ HO1411.out BK1432.out (by decide))) hb); have n2_ := Aside0.mk (Kd.R_elder' (by (with_reducible repeat (first | apply Kd.R_alloc | apply Kd.R_drewN | apply Kd.R_drew)); exact (sF_ HO1416.out BK1432.out (by decide))) (Kd.R_base ho0) hb); have n3_ := Aside0.mk (Kd.R_below (by (with_reducible repeat (first | apply Kd.R_alloc | apply Kd.R_drewN | apply Kd.R_drew)); exact (sF_ HO1420.out BK1432.out (by decide))) hb); have n4_ := Aside0.mk (Kd.R_elder' (by (with_reducible repeat (first | apply Kd.R_alloc | apply Kd.R_drewN | apply Kd.R_drew)); exact (sF_ HO1425.out BK1432.out (by decide))) (Kd.R_base ho0) hb); have n5_ := Aside0.mk (Kd.R_elder' (by (with_reducible repeat (first | apply Kd.R_alloc | apply Kd.R_drewN | apply Kd.R_drew)); exact (sF_ HO1430.out BK1432.out (by decide))) (Kd.R_base ho0) hb); have n6_ := Aside0.mk (Kd.R_lower (Kd.R_new' (Kd.R_new' (Kd.R_new' (Kd.R_new' ho0 (Kd.R_lt (by (with_reducible repeat (first | apply Kd.R_alloc | apply Kd.R_drewN | apply Kd.R_drew)); exact (sF_ HO1407.out BK1432.out (by decide))))) (Kd.R_lt (by (with_reducible repeat (first | apply Kd.R_alloc | apply Kd.R_drewN | apply Kd.R_drew)); exact (sF_ HO1416.out BK1432.out (by decide))))) (Kd.R_lt (by (with_reducible repeat (first | apply Kd.R_alloc | apply Kd.R_drewN | apply Kd.R_drew)); exact (sF_ HO1425.out BK1432.out (by decide))))) (Kd.R_lt (by (with_reducible repeat (first | apply Kd.R_alloc | apply Kd.R_drewN | apply Kd.R_drew)); exact (sF_ HO1430.out BK1432.out (by decide))))) (below_size (sW_ HB.out))); have n7_ := Aside0.mk (blk_below (g := gb1408) (o := .cells #[.int .i64 t1403, .int .i64 t1404, .slice Ao15 t1405.length co15] 26 (0, 0)) (by refine sB_ ?_; refine blk_far ?_ NB1408_1432.out _; refine sB_ ?_; refine blk_far ?_ NB1408_1432.out _; refine sB_ ?_; refine blk_far ?_ NB1408_1432.out _; refine sB_ ?_; exact BK1408.out) hb); have n8_ := Aside0.mk (blk_below (g := gb1417) (o := .cells #[.int .i64 t1412, .int .i64 t1413, .slice Ao22 t1414.length co22] 41 (0, 0)) (by refine sB_ ?_; refine blk_far ?_ NB1417_1432.out _; refine sB_ ?_; refine blk_far ?_ NB1417_1432.out _; refine sB_ ?_; refine blk_far ?_ NB1417_1432.out _; refine sB_ ?_; exact BK1417.out) hb); have n9_ := Aside0.mk (blk_below (g := gb1432) (o := .cells #[.int .i64 t1426, .int .i64 t1427, .slice Ao34 t1428.length co34] 41 (0, 0)) (by refine sB_ ?_; refine blk_put (cs := #[.int .i64 t1426, .int .i64 t1427, .slice none 0 0]) ?_ 2 _ rfl; refine sB_ ?_; refine blk_put (cs := #[.int .i64 t1426, .int .i64 0, .slice none 0 0]) ?_ 1 _ rfl; refine sB_ ?_; refine blk_put (cs := #[.int .i64 0, .int .i64 0, .slice none 0 0]) ?_ 0 _ rfl; refine sB_ ?_; exact BK1432.out) hb); have n10_ := Aside0.mk (below_step (sW_ HB.out) hb); clear HO1407 HO1411 HO1416 HO1420 HO1425 HO1430 BK1408 BK1417 BK1432 HB; have HO1407 := n0_; have HO1411 := n1_; have HO1416 := n2_; have HO1420 := n3_; have HO1425 := n4_; have HO1430 := n5_; have HO1437 := n6_; have BK1408 := n7_; have BK1417 := n8_; have BK1432 := n9_; have HB := n10_; clear n0_ n1_ n2_ n3_ n4_ n5_ n6_ n7_ n8_ n9_ n10_; (try clear hb); (try clear hb2); (try clear hk); (try clear hi); (try clear ho0)) | ((with_reducible refine gate_dst (N := 7) rfl ?_); refine box_event ?hg (N := 7) ?hd (cs := #[.int .i64 0, .int .i64 0, .slice none 0 0]) (t := 41) ?hr ?_; (case hd => rfl); (case hg => rfl); (case hr => first | (go_simp; done) | (go_simp; rfl)); intro gb1438 hg w41 hbox hb; have n0_ := Aside0.mk (Kd.R_below (sR_ HO1407.out) hb); have n1_ := Aside0.mk (Kd.R_below (sR_ HO1411.out) hb); have n2_ := Aside0.mk (Kd.R_below (sR_ HO1416.out) hb); have n3_ := Aside0.mk (Kd.R_below (sR_ HO1420.out) hb); have n4_ := Aside0.mk (Kd.R_below (sR_ HO1425.out) hb); have n5_ := Aside0.mk (Kd.R_below (sR_ HO1430.out) hb); have n6_ := Aside0.mk (Kd.R_below (sR_ HO1437.out) hb); have n7_ := Aside0.mk (blk_below (sB_ BK1408.out) hb); have n8_ := Aside0.mk (blk_below (sB_ BK1417.out) hb); have n9_ := Aside0.mk (blk_below (sB_ BK1432.out) hb); have n10_ := Aside0.mk (below_step (sW_ HB.out) hb); have n11_ := Aside0.mk (hbox); have n12_ := Aside0.mk ((by rw [hg]; exact (below_size (sW_ HB.out)) : w.heap.size ≤ gb1438)); have n13_ := n12_; have n14_ := Aside0.mk (sN_ hg (blk_lt (sB_ BK1408.out))); have n15_ := Aside0.mk n14_.out.symm; have n16_ := Aside0.mk (sN_ hg (blk_lt (sB_ BK1417.out))); have n17_ := Aside0.mk n16_.out.symm; have n18_ := Aside0.mk (sN_ hg (blk_lt (sB_ BK1432.out))); have n19_ := Aside0.mk n18_.out.symm; clear HO1407 HO1411 HO1416 HO1420 HO1425 HO1430 HO1437 BK1408 BK1417 BK1432 HB; have HO1407 := n0_; have HO1411 := n1_; have HO1416 := n2_; have HO1420 := n3_; have HO1425 := n4_; have HO1430 := n5_; have HO1437 := n6_; have BK1408 := n7_; have BK1417 := n8_; have BK1432 := n9_; have HB := n10_; have BK1438 := n11_; have GW1438 := n12_; have GE1438 := n13_; have NB1408_1438 := n14_; have NB1438_1408 := n15_; have NB1417_1438 := n16_; have NB1438_1417 := n17_; have NB1432_1438 := n18_; have NB1438_1432 := n19_; clear n0_ n1_ n2_ n3_ n4_ n5_ n6_ n7_ n8_ n9_ n10_ n11_ n12_ n13_ n14_ n15_ n16_ n17_ n18_ n19_; clear hb hbox hg; have hnb42 := NB1438_1408.out; have hnc42 := NB1408_1438.out; have hnb43 := NB1438_1417.out; have hnc43 := NB1417_1438.out; have hnb44 := NB1438_1432.out; have hnc44 := NB1432_1438.out; obtain ⟨hcz45_0, hcz45_1, hcz45_2, hfz45_0, hfz45_1, hfz45_2⟩ := sZ_ BK1438.out; obtain ⟨Ao46, co46, eo46⟩ := Kd.R_slice HO1437.out; subst eo46; obtain ⟨hcz47_0, hcz47_1, hcz47_2, hfz47_0, hfz47_1, hfz47_2⟩ := sZ_ BK1408.out; obtain ⟨hcz48_0, hcz48_1, hcz48_2, hfz48_0, hfz48_1, hfz48_2⟩ := sZ_ BK1432.out) | ((with_reducible refine gate_callee (f := 72) rfl ?_); refine goesL_ (some 36) rfl rfl Try.func72 (by kernel_rfl) rfl #[.agg #[.int .i64 t1403, .int .i64 t1404, .slice Ao15 t1405.length co15], .agg #[.int .i64 t1426, .int .i64 t1427, .slice Ao34 t1428.length co34]] rfl sL_ ?_; (with_reducible refine (impl_ScreenPicture.calls t1403 t1404 _ _ t1405 t1426 t1427 _ _ t1428 t1439 t1440 t1441 _ ?side1 ?side2 ?side3 ?side4 A10.out).mono ?_); (case side1 => refine (Kd.R_reads' (e := 3) (base := w.heap.size) (ok := fun k_ => ((some k_ ≠ (.slice Ao22 t1414.length co22 : Value).ownBlock ∧ (some k_ ≠ (v1424 : Value).ownBlock ∧ some k_ ≠ (.slice Ao34 t1428.length co34 : Value).ownBlock)) ∧ some k_ ≠ (.slice Ao46 t1435.length co46 : Value).ownBlock)) (n := t1405.length) (c := co15) ?_).2.2; exact (by (with_reducible repeat (first | apply Kd.R_alloc | apply Kd.R_drewN | apply Kd.R_drew)); exact (sF_ HO1407.out BK1438.out (by decide)))); (case side2 => exact (Kd.R_reads' HO1407.out).2.1); (case side3 => refine (Kd.R_reads' (e := 3) (base := w.heap.size) (ok := fun k_ => ((some k_ ≠ (.slice Ao15 t1405.length co15 : Value).ownBlock ∧ (some k_ ≠ (.slice Ao22 t1414.length co22 : Value).ownBlock ∧ some k_ ≠ (v1424 : Value).ownBlock)) ∧ some k_ ≠ (.slice Ao46 t1435.length co46 : Value).ownBlock)) (n := t1428.length) (c := co34) ?_).2.2; exact (by (with_reducible repeat (first | apply Kd.R_alloc | apply Kd.R_drewN | apply Kd.R_drew)); exact (sF_ HO1430.out BK1438.out (by decide)))); (case side4 => exact (Kd.R_reads' HO1430.out).2.1); rintro e w49 ⟨v1442, rfl, ho0, hb⟩; refine ⟨_, rfl, ?_⟩; have n0_ := Aside0.mk (Kd.R_elder' (by (with_reducible repeat (first | apply Kd.R_alloc | apply Kd.R_drewN | apply Kd.R_drew)); exact (sF_ HO1407.out BK1438.out (by decide))) (Kd.R_base ho0) hb); have n1_ := Aside0.mk (Kd.R_below (by (with_reducible repeat (first | apply Kd.R_alloc | apply Kd.R_drewN | apply Kd.R_drew)); exact (sF_ HO1411.out BK1438.out (by decide))) hb); have n2_ := Aside0.mk (Kd.R_elder' (by (with_reducible repeat (first | apply Kd.R_alloc | apply Kd.R_drewN | apply Kd.R_drew)); exact (sF_ HO1416.out BK1438.out (by decide))) (Kd.R_base ho0) hb); have n3_ := Aside0.mk (Kd.R_below (by (with_reducible repeat (first | apply Kd.R_alloc | apply Kd.R_drewN | apply Kd.R_drew)); exact (sF_ HO1420.out BK1438.out (by decide))) hb); have n4_ := Aside0.mk (Kd.R_elder' (by (with_reducible repeat (first | apply Kd.R_alloc | apply Kd.R_drewN | apply Kd.R_drew)); exact (sF_ HO1425.out BK1438.out (by decide))) (Kd.R_base ho0) hb); have n5_ := Aside0.mk (Kd.R_elder' (by (with_reducible repeat (first | apply Kd.R_alloc | apply Kd.R_drewN | apply Kd.R_drew)); exact (sF_ HO1430.out BK1438.out (by decide))) (Kd.R_base ho0) hb); have n6_ := Aside0.mk (Kd.R_elder' (by (with_reducible repeat (first | apply Kd.R_alloc | apply Kd.R_drewN | apply Kd.R_drew)); exact (sF_ HO1437.out BK1438.out (by decide))) (Kd.R_base ho0) hb); have n7_ := Aside0.mk (Kd.R_lower (Kd.R_new' (Kd.R_new' (Kd.R_new' (Kd.R_new' (Kd.R_new' ho0 (Kd.R_lt (by (with_reducible repeat (first | apply Kd.R_alloc | apply Kd.R_drewN | apply Kd.R_drew)); exact (sF_ HO1407.out BK1438.out (by decide))))) (Kd.R_lt (by (with_reducible repeat (first | apply Kd.R_alloc | apply Kd.R_drewN | apply Kd.R_drew)); exact (sF_ HO1416.out BK1438.out (by decide))))) (Kd.R_lt (by (with_reducible repeat (first | apply Kd.R_alloc | apply Kd.R_drewN | apply Kd.R_drew)); exact (sF_ HO1425.out BK1438.out (by decide))))) (Kd.R_lt (by (with_reducible repeat (first | apply Kd.R_alloc | apply Kd.R_drewN | apply Kd.R_drew)); exact (sF_ HO1430.out BK1438.out (by decide))))) (Kd.R_lt (by (with_reducible repeat (first | apply Kd.R_alloc | apply Kd.R_drewN | apply Kd.R_drew)); exact (sF_ HO1437.out BK1438.out (by decide))))) (below_size (sW_ HB.out))); have n8_ := Aside0.mk (blk_below (g := gb1408) (o := .cells #[.int .i64 t1403, .int .i64 t1404, .slice Ao15 t1405.length co15] 26 (0, 0)) (by refine sB_ ?_; refine blk_far ?_ NB1408_1438.out _; refine sB_ ?_; refine blk_far ?_ NB1408_1438.out _; refine sB_ ?_; refine blk_far ?_ NB1408_1438.out _; refine sB_ ?_; exact BK1408.out) hb); have n9_ := Aside0.mk (blk_below (g := gb1417) (o := .cells #[.int .i64 t1412, .int .i64 t1413, .slice Ao22 t1414.length co22] 41 (0, 0)) (by refine sB_ ?_; refine blk_far ?_ NB1417_1438.out _; refine sB_ ?_; refine blk_far ?_ NB1417_1438.out _; refine sB_ ?_; refine blk_far ?_ NB1417_1438.out _; refine sB_ ?_; exact BK1417.out) hb); have n10_ := Aside0.mk (blk_below (g := gb1432) (o := .cells #[.int .i64 t1426, .int .i64 t1427, .slice Ao34 t1428.length co34] 41 (0, 0)) (by refine sB_ ?_; refine blk_far ?_ NB1432_1438.out _; refine sB_ ?_; refine blk_far ?_ NB1432_1438.out _; refine sB_ ?_; refine blk_far ?_ NB1432_1438.out _; refine sB_ ?_; exact BK1432.out) hb); have n11_ := Aside0.mk (blk_below (g := gb1438) (o := .cells #[.int .i64 t1433, .int .i64 t1434, .slice Ao46 t1435.length co46] 41 (0, 0)) (by refine sB_ ?_; refine blk_put (cs := #[.int .i64 t1433, .int .i64 t1434, .slice none 0 0]) ?_ 2 _ rfl; refine sB_ ?_; refine blk_put (cs := #[.int .i64 t1433, .int .i64 0, .slice none 0 0]) ?_ 1 _ rfl; refine sB_ ?_; refine blk_put (cs := #[.int .i64 0, .int .i64 0, .slice none 0 0]) ?_ 0 _ rfl; refine sB_ ?_; exact BK1438.out) hb); have n12_ := Aside0.mk (below_step (sW_ HB.out) hb); clear HO1407 HO1411 HO1416 HO1420 HO1425 HO1430 HO1437 BK1408 BK1417 BK1432 BK1438 HB; have HO1407 := n0_; have HO1411 := n1_; have HO1416 := n2_; have HO1420 := n3_; have HO1425 := n4_; have HO1430 := n5_; have HO1437 := n6_; have HO1443 := n7_; have BK1408 := n8_; have BK1417 := n9_; have BK1432 := n10_; have BK1438 := n11_; have HB := n12_; clear n0_ n1_ n2_ n3_ n4_ n5_ n6_ n7_ n8_ n9_ n10_ n11_ n12_; (try clear hb); (try clear hb2); (try clear hk); (try clear hi); (try clear ho0)) | ((with_reducible refine gate_dst (N := 8) rfl ?_); refine box_event ?hg (N := 8) ?hd (cs := #[.int .i64 0, .int .i64 0, .slice none 0 0]) (t := 41) ?hr ?_; (case hd => rfl); (case hg => rfl); (case hr => first | (go_simp; done) | (go_simp; rfl)); intro gb1444 hg w50 hbox hb; have n0_ := Aside0.mk (Kd.R_below (sR_ HO1407.out) hb); have n1_ := Aside0.mk (Kd.R_below (sR_ HO1411.out) hb); have n2_ := Aside0.mk (Kd.R_below (sR_ HO1416.out) hb); have n3_ := Aside0.mk (Kd.R_below (sR_ HO1420.out) hb); have n4_ := Aside0.mk (Kd.R_below (sR_ HO1425.out) hb); have n5_ := Aside0.mk (Kd.R_below (sR_ HO1430.out) hb); have n6_ := Aside0.mk (Kd.R_below (sR_ HO1437.out) hb); have n7_ := Aside0.mk (Kd.R_below (sR_ HO1443.out) hb); have n8_ := Aside0.mk (blk_below (sB_ BK1408.out) hb); have n9_ := Aside0.mk (blk_below (sB_ BK1417.out) hb); have n10_ := Aside0.mk (blk_below (sB_ BK1432.out) hb); have n11_ := Aside0.mk (blk_below (sB_ BK1438.out) hb); have n12_ := Aside0.mk (below_step (sW_ HB.out) hb); have n13_ := Aside0.mk (hbox); have n14_ := Aside0.mk ((by rw [hg]; exact (below_size (sW_ HB.out)) : w.heap.size ≤ gb1444)); have n15_ := n14_; have n16_ := Aside0.mk (sN_ hg (blk_lt (sB_ BK1408.out))); have n17_ := Aside0.mk n16_.out.symm; have n18_ := Aside0.mk (sN_ hg (blk_lt (sB_ BK1417.out))); have n19_ := Aside0.mk n18_.out.symm; have n20_ := Aside0.mk (sN_ hg (blk_lt (sB_ BK1432.out))); have n21_ := Aside0.mk n20_.out.symm; have n22_ := Aside0.mk (sN_ hg (blk_lt (sB_ BK1438.out))); have n23_ := Aside0.mk n22_.out.symm; clear HO1407 HO1411 HO1416 HO1420 HO1425 HO1430 HO1437 HO1443 BK1408 BK1417 BK1432 BK1438 HB; have HO1407 := n0_; have HO1411 := n1_; have HO1416 := n2_; have HO1420 := n3_; have HO1425 := n4_; have HO1430 := n5_; have HO1437 := n6_; have HO1443 := n7_; have BK1408 := n8_; have BK1417 := n9_; have BK1432 := n10_; have BK1438 := n11_; have HB := n12_; have BK1444 := n13_; have GW1444 := n14_; have GE1444 := n15_; have NB1408_1444 := n16_; have NB1444_1408 := n17_; have NB1417_1444 := n18_; have NB1444_1417 := n19_; have NB1432_1444 := n20_; have NB1444_1432 := n21_; have NB1438_1444 := n22_; have NB1444_1438 := n23_; clear n0_ n1_ n2_ n3_ n4_ n5_ n6_ n7_ n8_ n9_ n10_ n11_ n12_ n13_ n14_ n15_ n16_ n17_ n18_ n19_ n20_ n21_ n22_ n23_; clear hb hbox hg; have hnb51 := NB1444_1408.out; have hnc51 := NB1408_1444.out; have hnb52 := NB1444_1417.out; have hnc52 := NB1417_1444.out; have hnb53 := NB1444_1432.out; have hnc53 := NB1432_1444.out; have hnb54 := NB1444_1438.out; have hnc54 := NB1438_1444.out; obtain ⟨hcz55_0, hcz55_1, hcz55_2, hfz55_0, hfz55_1, hfz55_2⟩ := sZ_ BK1444.out; obtain ⟨Ao56, co56, eo56⟩ := Kd.R_slice HO1443.out; subst eo56))
 (try simp only [Act.put, List.setIfInBounds_toArray, List.set_cons_zero, List.set_cons_succ])
 go_cut [50] (fun v50 wc => ∃ (kq : Nat) (x50_10 : Bool), v50 = .bool x50_10 ∧ Aside0 (laws_FnStacked.j0 kq l0 x50_10 t1403 t1404 t1405 t1412 t1413 t1414 = some r) ∧ Aside0 (kq ≤ k) ∧ Aside0 (Kd.R (Kd.int .i64) 3 wc w.heap.size (fun k_ => some k_ ≠ ((.slice Ao22 t1414.length co22) : Value).ownBlock ∧ some k_ ≠ ((.slice Ao34 t1428.length co34) : Value).ownBlock ∧ some k_ ≠ ((.slice Ao46 t1435.length co46) : Value).ownBlock ∧ some k_ ≠ ((.slice Ao56 t1441.length co56) : Value).ownBlock) (.slice Ao15 t1405.length co15) t1405) ∧ Aside0 (Kd.R (Kd.int .i64) 3 wc w.heap.size (fun k_ => some k_ ≠ ((.slice Ao15 t1405.length co15) : Value).ownBlock ∧ some k_ ≠ ((.slice Ao34 t1428.length co34) : Value).ownBlock ∧ some k_ ≠ ((.slice Ao46 t1435.length co46) : Value).ownBlock ∧ some k_ ≠ ((.slice Ao56 t1441.length co56) : Value).ownBlock) (.slice Ao22 t1414.length co22) t1414) ∧ Aside0 (Kd.R (Kd.int .i64) 3 wc w.heap.size (fun k_ => some k_ ≠ ((.slice Ao15 t1405.length co15) : Value).ownBlock ∧ some k_ ≠ ((.slice Ao22 t1414.length co22) : Value).ownBlock ∧ some k_ ≠ ((.slice Ao46 t1435.length co46) : Value).ownBlock ∧ some k_ ≠ ((.slice Ao56 t1441.length co56) : Value).ownBlock) (.slice Ao34 t1428.length co34) t1428) ∧ Aside0 (Kd.R (Kd.int .i64) 3 wc w.heap.size (fun k_ => some k_ ≠ ((.slice Ao15 t1405.length co15) : Value).ownBlock ∧ some k_ ≠ ((.slice Ao22 t1414.length co22) : Value).ownBlock ∧ some k_ ≠ ((.slice Ao34 t1428.length co34) : Value).ownBlock ∧ some k_ ≠ ((.slice Ao56 t1441.length co56) : Value).ownBlock) (.slice Ao46 t1435.length co46) t1435) ∧ Aside0 (Kd.R (Kd.int .i64) 3 wc w.heap.size (fun k_ => some k_ ≠ ((.slice Ao15 t1405.length co15) : Value).ownBlock ∧ some k_ ≠ ((.slice Ao22 t1414.length co22) : Value).ownBlock ∧ some k_ ≠ ((.slice Ao34 t1428.length co34) : Value).ownBlock ∧ some k_ ≠ ((.slice Ao46 t1435.length co46) : Value).ownBlock) (.slice Ao56 t1441.length co56) t1441) ∧ Aside0 (wc.heap[gb1408]? = some (.cells #[.int .i64 t1403, .int .i64 t1404, (.slice Ao15 t1405.length co15)] 26 (0, 0))) ∧ Aside0 (wc.heap[gb1417]? = some (.cells #[.int .i64 t1412, .int .i64 t1413, (.slice Ao22 t1414.length co22)] 41 (0, 0))) ∧ Aside0 (wc.heap[gb1432]? = some (.cells #[.int .i64 t1426, .int .i64 t1427, (.slice Ao34 t1428.length co34)] 41 (0, 0))) ∧ Aside0 (wc.heap[gb1438]? = some (.cells #[.int .i64 t1433, .int .i64 t1434, (.slice Ao46 t1435.length co46)] 41 (0, 0))) ∧ Aside0 (wc.heap[gb1444]? = some (.cells #[.int .i64 t1439, .int .i64 t1440, (.slice Ao56 t1441.length co56)] 41 (0, 0))) ∧ Aside0 (Below w.heap.size w wc))
 case first =>
  have H := HC11.out; clear HC11
  replace H := Option.bind_eq_some_iff.mp H
  obtain ⟨t1445, A570, H⟩ := H
  replace H : (if t1445 = true then ((impl_IsPlate.f t1439 t1440 t1441).bind fun t1446 => (if t1446 = true then ((impl_CoversPicture.f k t1439 t1440 t1441 t1433 t1434 t1435).bind fun t1447 => (laws_FnStacked.j0 k l0 (!t1447) t1403 t1404 t1405 t1412 t1413 t1414)) else (laws_FnStacked.j0 k l0 true t1403 t1404 t1405 t1412 t1413 t1414))) else (laws_FnStacked.j0 k l0 true t1403 t1404 t1405 t1412 t1413 t1414)) = some r := H
  have A57 := Aside0.mk A570
  clear A570
  by_cases c58 : t1445 = true
  ·subst c58
   have H1 : ((impl_IsPlate.f t1439 t1440 t1441).bind fun t1446 => (if t1446 = true then ((impl_CoversPicture.f k t1439 t1440 t1441 t1433 t1434 t1435).bind fun t1447 => (laws_FnStacked.j0 k l0 (!t1447) t1403 t1404 t1405 t1412 t1413 t1414)) else (laws_FnStacked.j0 k l0 true t1403 t1404 t1405 t1412 t1413 t1414))) = some r := by rw [if_pos rfl] at H; exact H
   clear H; have H := H1; clear H1
   replace H := Option.bind_eq_some_iff.mp H
   obtain ⟨t1446, A590, H⟩ := H
   replace H : (if t1446 = true then ((impl_CoversPicture.f k t1439 t1440 t1441 t1433 t1434 t1435).bind fun t1447 => (laws_FnStacked.j0 k l0 (!t1447) t1403 t1404 t1405 t1412 t1413 t1414)) else (laws_FnStacked.j0 k l0 true t1403 t1404 t1405 t1412 t1413 t1414)) = some r := H
   have A59 := Aside0.mk A590
   clear A590
   by_cases c60 : t1446 = true
   ·subst c60
    have H1 : ((impl_CoversPicture.f k t1439 t1440 t1441 t1433 t1434 t1435).bind fun t1447 => (laws_FnStacked.j0 k l0 (!t1447) t1403 t1404 t1405 t1412 t1413 t1414)) = some r := by rw [if_pos rfl] at H; exact H
    clear H; have H := H1; clear H1
    replace H := Option.bind_eq_some_iff.mp H
    obtain ⟨t1447, A610, H⟩ := H
    replace H : (laws_FnStacked.j0 k l0 (!t1447) t1403 t1404 t1405 t1412 t1413 t1414) = some r := H
    have A61 := Aside0.mk A610
    clear A610
    have H' := Aside0.mk H
    clear H; have hnb62 := NB1438_1408.out; have hnc62 := NB1408_1438.out; have hnb63 := NB1438_1417.out; have hnc63 := NB1417_1438.out; have hnb64 := NB1438_1432.out; have hnc64 := NB1432_1438.out; have hnb65 := NB1438_1444.out; have hnc65 := NB1444_1438.out
    obtain ⟨hcz66_0, hcz66_1, hcz66_2, hfz66_0, hfz66_1, hfz66_2⟩ := sZ_ BK1438.out
    go_wp2_with (first | ((with_reducible refine gate_callee (f := 68) rfl ?_); refine goesL_ (some 38) rfl rfl Try.func68 (by kernel_rfl) rfl #[.agg #[.int .i64 t1433, .int .i64 t1434, .slice Ao46 t1435.length co46]] rfl sL_ ?_; (with_reducible refine (impl_IsPlate.calls t1433 t1434 _ _ t1435 true _ ?side1 ?side2 A57.out).mono ?_); (case side1 => refine (Kd.R_reads' (e := 3) (base := w.heap.size) (ok := fun k_ => (((((True ∧ some k_ ≠ (.slice Ao15 t1405.length co15 : Value).ownBlock) ∧ some k_ ≠ (.slice Ao22 t1414.length co22 : Value).ownBlock) ∧ some k_ ≠ (v1424 : Value).ownBlock) ∧ some k_ ≠ (.slice Ao34 t1428.length co34 : Value).ownBlock) ∧ some k_ ≠ (.slice Ao56 t1441.length co56 : Value).ownBlock)) (n := t1435.length) (c := co46) ?_).2.2; exact (by (with_reducible repeat (first | apply Kd.R_alloc | apply Kd.R_drewN | apply Kd.R_drew)); exact (sF_ HO1437.out BK1444.out (by decide)))); (case side2 => exact (Kd.R_reads' HO1437.out).2.1); rintro e w67 ⟨rfl, hb⟩; refine ⟨_, rfl, ?_⟩; have n0_ := Aside0.mk (Kd.R_below (by (with_reducible repeat (first | apply Kd.R_alloc | apply Kd.R_drewN | apply Kd.R_drew)); exact (sF_ HO1407.out BK1444.out (by decide))) hb); have n1_ := Aside0.mk (Kd.R_below (by (with_reducible repeat (first | apply Kd.R_alloc | apply Kd.R_drewN | apply Kd.R_drew)); exact (sF_ HO1411.out BK1444.out (by decide))) hb); have n2_ := Aside0.mk (Kd.R_below (by (with_reducible repeat (first | apply Kd.R_alloc | apply Kd.R_drewN | apply Kd.R_drew)); exact (sF_ HO1416.out BK1444.out (by decide))) hb); have n3_ := Aside0.mk (Kd.R_below (by (with_reducible repeat (first | apply Kd.R_alloc | apply Kd.R_drewN | apply Kd.R_drew)); exact (sF_ HO1420.out BK1444.out (by decide))) hb); have n4_ := Aside0.mk (Kd.R_below (by (with_reducible repeat (first | apply Kd.R_alloc | apply Kd.R_drewN | apply Kd.R_drew)); exact (sF_ HO1425.out BK1444.out (by decide))) hb); have n5_ := Aside0.mk (Kd.R_below (by (with_reducible repeat (first | apply Kd.R_alloc | apply Kd.R_drewN | apply Kd.R_drew)); exact (sF_ HO1430.out BK1444.out (by decide))) hb); have n6_ := Aside0.mk (Kd.R_below (by (with_reducible repeat (first | apply Kd.R_alloc | apply Kd.R_drewN | apply Kd.R_drew)); exact (sF_ HO1437.out BK1444.out (by decide))) hb); have n7_ := Aside0.mk (Kd.R_below (by (with_reducible repeat (first | apply Kd.R_alloc | apply Kd.R_drewN | apply Kd.R_drew)); exact (sF_ HO1443.out BK1444.out (by decide))) hb); have n8_ := Aside0.mk (blk_below (g := gb1408) (o := .cells #[.int .i64 t1403, .int .i64 t1404, .slice Ao15 t1405.length co15] 26 (0, 0)) (by refine sB_ ?_; refine blk_far ?_ NB1408_1444.out _; refine sB_ ?_; refine blk_far ?_ NB1408_1444.out _; refine sB_ ?_; refine blk_far ?_ NB1408_1444.out _; refine sB_ ?_; exact BK1408.out) hb); have n9_ := Aside0.mk (blk_below (g := gb1417) (o := .cells #[.int .i64 t1412, .int .i64 t1413, .slice Ao22 t1414.length co22] 41 (0, 0)) (by refine sB_ ?_; refine blk_far ?_ NB1417_1444.out _; refine sB_ ?_; refine blk_far ?_ NB1417_1444.out _; refine sB_ ?_; refine blk_far ?_ NB1417_1444.out _; refine sB_ ?_; exact BK1417.out) hb); have n10_ := Aside0.mk (blk_below (g := gb1432) (o := .cells #[.int .i64 t1426, .int .i64 t1427, .slice Ao34 t1428.length co34] 41 (0, 0)) (by refine sB_ ?_; refine blk_far ?_ NB1432_1444.out _; refine sB_ ?_; refine blk_far ?_ NB1432_1444.out _; refine sB_ ?_; refine blk_far ?_ NB1432_1444.out _; refine sB_ ?_; exact BK1432.out) hb); have n11_ := Aside0.mk (blk_below (g := gb1438) (o := .cells #[.int .i64 t1433, .int .i64 t1434, .slice Ao46 t1435.length co46] 41 (0, 0)) (by refine sB_ ?_; refine blk_far ?_ NB1438_1444.out _; refine sB_ ?_; refine blk_far ?_ NB1438_1444.out _; refine sB_ ?_; refine blk_far ?_ NB1438_1444.out _; refine sB_ ?_; exact BK1438.out) hb); have n12_ := Aside0.mk (blk_below (g := gb1444) (o := .cells #[.int .i64 t1439, .int .i64 t1440, .slice Ao56 t1441.length co56] 41 (0, 0)) (by refine sB_ ?_; refine blk_put (cs := #[.int .i64 t1439, .int .i64 t1440, .slice none 0 0]) ?_ 2 _ rfl; refine sB_ ?_; refine blk_put (cs := #[.int .i64 t1439, .int .i64 0, .slice none 0 0]) ?_ 1 _ rfl; refine sB_ ?_; refine blk_put (cs := #[.int .i64 0, .int .i64 0, .slice none 0 0]) ?_ 0 _ rfl; refine sB_ ?_; exact BK1444.out) hb); have n13_ := Aside0.mk (below_step (sW_ HB.out) hb); clear HO1407 HO1411 HO1416 HO1420 HO1425 HO1430 HO1437 HO1443 BK1408 BK1417 BK1432 BK1438 BK1444 HB; have HO1407 := n0_; have HO1411 := n1_; have HO1416 := n2_; have HO1420 := n3_; have HO1425 := n4_; have HO1430 := n5_; have HO1437 := n6_; have HO1443 := n7_; have BK1408 := n8_; have BK1417 := n9_; have BK1432 := n10_; have BK1438 := n11_; have BK1444 := n12_; have HB := n13_; clear n0_ n1_ n2_ n3_ n4_ n5_ n6_ n7_ n8_ n9_ n10_ n11_ n12_ n13_; (try clear hb); (try clear hb2); (try clear hk); (try clear hi); have hnb68 := NB1444_1408.out; have hnc68 := NB1408_1444.out; have hnb69 := NB1444_1417.out; have hnc69 := NB1417_1444.out; have hnb70 := NB1444_1432.out; have hnc70 := NB1432_1444.out; obtain ⟨hcz71_0, hcz71_1, hcz71_2, hfz71_0, hfz71_1, hfz71_2⟩ := sZ_ BK1444.out) | (go_at_call 68; (with_reducible refine (impl_IsPlate.calls t1439 t1440 _ _ t1441 true _ ?side1 ?side2 A59.out).mono ?_); (case side1 => repeat (first | exact (Kd.R_reads' HO1443.out).2.2 | (with_reducible refine Kd.C_alloc ?_ _) | (with_reducible refine Kd.C_drewN ?_ _) | (with_reducible refine Kd.C_drew ?_))); (case side2 => exact (Kd.R_reads' HO1443.out).2.1); rintro e w72 ⟨rfl, hb⟩; have n0_ := Aside0.mk (Kd.R_below (sR_ HO1407.out) hb); have n1_ := Aside0.mk (Kd.R_below (sR_ HO1411.out) hb); have n2_ := Aside0.mk (Kd.R_below (sR_ HO1416.out) hb); have n3_ := Aside0.mk (Kd.R_below (sR_ HO1420.out) hb); have n4_ := Aside0.mk (Kd.R_below (sR_ HO1425.out) hb); have n5_ := Aside0.mk (Kd.R_below (sR_ HO1430.out) hb); have n6_ := Aside0.mk (Kd.R_below (sR_ HO1437.out) hb); have n7_ := Aside0.mk (Kd.R_below (sR_ HO1443.out) hb); have n8_ := Aside0.mk (blk_below (sB_ BK1408.out) hb); have n9_ := Aside0.mk (blk_below (sB_ BK1417.out) hb); have n10_ := Aside0.mk (blk_below (sB_ BK1432.out) hb); have n11_ := Aside0.mk (blk_below (sB_ BK1438.out) hb); have n12_ := Aside0.mk (blk_below (sB_ BK1444.out) hb); have n13_ := Aside0.mk (below_step (sW_ HB.out) hb); clear HO1407 HO1411 HO1416 HO1420 HO1425 HO1430 HO1437 HO1443 BK1408 BK1417 BK1432 BK1438 BK1444 HB; have HO1407 := n0_; have HO1411 := n1_; have HO1416 := n2_; have HO1420 := n3_; have HO1425 := n4_; have HO1430 := n5_; have HO1437 := n6_; have HO1443 := n7_; have BK1408 := n8_; have BK1417 := n9_; have BK1432 := n10_; have BK1438 := n11_; have BK1444 := n12_; have HB := n13_; clear n0_ n1_ n2_ n3_ n4_ n5_ n6_ n7_ n8_ n9_ n10_ n11_ n12_ n13_; (try clear hb); (try clear hb2); (try clear hk); (try clear hi); obtain ⟨hcz73_0, hcz73_1, hcz73_2, hfz73_0, hfz73_1, hfz73_2⟩ := sZ_ BK1444.out; obtain ⟨hcz74_0, hcz74_1, hcz74_2, hfz74_0, hfz74_1, hfz74_2⟩ := sZ_ BK1438.out) | (go_at_call 70; (with_reducible refine (impl_CoversPicture.calls k t1439 t1440 _ _ t1441 t1433 t1434 _ _ t1435 t1447 _ ?side1 ?side2 ?side3 ?side4 A61.out).mono ?_); (case side1 => repeat (first | exact (Kd.R_reads' HO1443.out).2.2 | (with_reducible refine Kd.C_alloc ?_ _) | (with_reducible refine Kd.C_drewN ?_ _) | (with_reducible refine Kd.C_drew ?_))); (case side2 => exact (Kd.R_reads' HO1443.out).2.1); (case side3 => repeat (first | exact (Kd.R_reads' HO1437.out).2.2 | (with_reducible refine Kd.C_alloc ?_ _) | (with_reducible refine Kd.C_drewN ?_ _) | (with_reducible refine Kd.C_drew ?_))); (case side4 => exact (Kd.R_reads' HO1437.out).2.1); rintro e w75 ⟨rfl, hb⟩; have n0_ := Aside0.mk (Kd.R_below (sR_ HO1407.out) hb); have n1_ := Aside0.mk (Kd.R_below (sR_ HO1411.out) hb); have n2_ := Aside0.mk (Kd.R_below (sR_ HO1416.out) hb); have n3_ := Aside0.mk (Kd.R_below (sR_ HO1420.out) hb); have n4_ := Aside0.mk (Kd.R_below (sR_ HO1425.out) hb); have n5_ := Aside0.mk (Kd.R_below (sR_ HO1430.out) hb); have n6_ := Aside0.mk (Kd.R_below (sR_ HO1437.out) hb); have n7_ := Aside0.mk (Kd.R_below (sR_ HO1443.out) hb); have n8_ := Aside0.mk (blk_below (sB_ BK1408.out) hb); have n9_ := Aside0.mk (blk_below (sB_ BK1417.out) hb); have n10_ := Aside0.mk (blk_below (sB_ BK1432.out) hb); have n11_ := Aside0.mk (blk_below (sB_ BK1438.out) hb); have n12_ := Aside0.mk (blk_below (sB_ BK1444.out) hb); have n13_ := Aside0.mk (below_step (sW_ HB.out) hb); clear HO1407 HO1411 HO1416 HO1420 HO1425 HO1430 HO1437 HO1443 BK1408 BK1417 BK1432 BK1438 BK1444 HB; have HO1407 := n0_; have HO1411 := n1_; have HO1416 := n2_; have HO1420 := n3_; have HO1425 := n4_; have HO1430 := n5_; have HO1437 := n6_; have HO1443 := n7_; have BK1408 := n8_; have BK1417 := n9_; have BK1432 := n10_; have BK1438 := n11_; have BK1444 := n12_; have HB := n13_; clear n0_ n1_ n2_ n3_ n4_ n5_ n6_ n7_ n8_ n9_ n10_ n11_ n12_ n13_; (try clear hb); (try clear hb2); (try clear hk); (try clear hi)))
    go_meet
    case rel => exact ⟨_, (!t1447), (by first | rfl | (simp; done) | (simp [*]; done)), H', ⟨by first | omega | exact Nat.le_refl _⟩, ⟨by (with_reducible repeat (first | apply Kd.R_alloc | apply Kd.R_drewN | apply Kd.R_drew)); exact Kd.R_mono HO1407.out (fun _ hk => ⟨hk.1.1.1, ⟨hk.1.1.2.2, ⟨hk.1.2, hk.2⟩⟩⟩)⟩, ⟨by (with_reducible repeat (first | apply Kd.R_alloc | apply Kd.R_drewN | apply Kd.R_drew)); exact Kd.R_mono HO1416.out (fun _ hk => ⟨hk.1.1.1, ⟨hk.1.1.2.2, ⟨hk.1.2, hk.2⟩⟩⟩)⟩, ⟨by (with_reducible repeat (first | apply Kd.R_alloc | apply Kd.R_drewN | apply Kd.R_drew)); exact Kd.R_mono HO1430.out (fun _ hk => ⟨hk.1.1.1, ⟨hk.1.1.2.1, ⟨hk.1.2, hk.2⟩⟩⟩)⟩, ⟨by (with_reducible repeat (first | apply Kd.R_alloc | apply Kd.R_drewN | apply Kd.R_drew)); exact Kd.R_mono HO1437.out (fun _ hk => ⟨hk.1.1.1.1.2, ⟨hk.1.1.1.2, ⟨hk.1.2, hk.2⟩⟩⟩)⟩, ⟨by (with_reducible repeat (first | apply Kd.R_alloc | apply Kd.R_drewN | apply Kd.R_drew)); exact Kd.R_mono HO1443.out (fun _ hk => ⟨hk.1.1.1.1.2, ⟨hk.1.1.1.2, ⟨hk.1.2, hk.2⟩⟩⟩)⟩, ⟨by refine sB_ ?_; exact BK1408.out⟩, ⟨by refine sB_ ?_; exact BK1417.out⟩, ⟨by refine sB_ ?_; exact BK1432.out⟩, ⟨by refine sB_ ?_; exact BK1438.out⟩, ⟨by refine sB_ ?_; exact BK1444.out⟩, ⟨by repeat (first | (with_reducible first | exact HB.out | apply below_alloc | apply pw_below_drewN | apply below_drew1 | refine below_set ?_ GE1408.out | refine below_set ?_ GE1417.out | refine below_set ?_ GE1432.out | refine below_set ?_ GE1438.out | refine below_set ?_ GE1444.out) | exact HB.out)⟩⟩
   replace c60 := Bool.eq_false_iff.mpr c60
   subst c60
   have H1 : (laws_FnStacked.j0 k l0 true t1403 t1404 t1405 t1412 t1413 t1414) = some r := by rw [if_neg (show ¬ (false = true) by decide)] at H; exact H
   clear H; have H := H1; clear H1
   have H' := Aside0.mk H
   clear H; have hnb76 := NB1438_1408.out; have hnc76 := NB1408_1438.out; have hnb77 := NB1438_1417.out; have hnc77 := NB1417_1438.out; have hnb78 := NB1438_1432.out; have hnc78 := NB1432_1438.out; have hnb79 := NB1438_1444.out; have hnc79 := NB1444_1438.out
   obtain ⟨hcz80_0, hcz80_1, hcz80_2, hfz80_0, hfz80_1, hfz80_2⟩ := sZ_ BK1438.out
   go_wp2_with (first | ((with_reducible refine gate_callee (f := 68) rfl ?_); refine goesL_ (some 38) rfl rfl Try.func68 (by kernel_rfl) rfl #[.agg #[.int .i64 t1433, .int .i64 t1434, .slice Ao46 t1435.length co46]] rfl sL_ ?_; (with_reducible refine (impl_IsPlate.calls t1433 t1434 _ _ t1435 true _ ?side1 ?side2 A57.out).mono ?_); (case side1 => refine (Kd.R_reads' (e := 3) (base := w.heap.size) (ok := fun k_ => (((((True ∧ some k_ ≠ (.slice Ao15 t1405.length co15 : Value).ownBlock) ∧ some k_ ≠ (.slice Ao22 t1414.length co22 : Value).ownBlock) ∧ some k_ ≠ (v1424 : Value).ownBlock) ∧ some k_ ≠ (.slice Ao34 t1428.length co34 : Value).ownBlock) ∧ some k_ ≠ (.slice Ao56 t1441.length co56 : Value).ownBlock)) (n := t1435.length) (c := co46) ?_).2.2; exact (by (with_reducible repeat (first | apply Kd.R_alloc | apply Kd.R_drewN | apply Kd.R_drew)); exact (sF_ HO1437.out BK1444.out (by decide)))); (case side2 => exact (Kd.R_reads' HO1437.out).2.1); rintro e w81 ⟨rfl, hb⟩; refine ⟨_, rfl, ?_⟩; have n0_ := Aside0.mk (Kd.R_below (by (with_reducible repeat (first | apply Kd.R_alloc | apply Kd.R_drewN | apply Kd.R_drew)); exact (sF_ HO1407.out BK1444.out (by decide))) hb); have n1_ := Aside0.mk (Kd.R_below (by (with_reducible repeat (first | apply Kd.R_alloc | apply Kd.R_drewN | apply Kd.R_drew)); exact (sF_ HO1411.out BK1444.out (by decide))) hb); have n2_ := Aside0.mk (Kd.R_below (by (with_reducible repeat (first | apply Kd.R_alloc | apply Kd.R_drewN | apply Kd.R_drew)); exact (sF_ HO1416.out BK1444.out (by decide))) hb); have n3_ := Aside0.mk (Kd.R_below (by (with_reducible repeat (first | apply Kd.R_alloc | apply Kd.R_drewN | apply Kd.R_drew)); exact (sF_ HO1420.out BK1444.out (by decide))) hb); have n4_ := Aside0.mk (Kd.R_below (by (with_reducible repeat (first | apply Kd.R_alloc | apply Kd.R_drewN | apply Kd.R_drew)); exact (sF_ HO1425.out BK1444.out (by decide))) hb); have n5_ := Aside0.mk (Kd.R_below (by (with_reducible repeat (first | apply Kd.R_alloc | apply Kd.R_drewN | apply Kd.R_drew)); exact (sF_ HO1430.out BK1444.out (by decide))) hb); have n6_ := Aside0.mk (Kd.R_below (by (with_reducible repeat (first | apply Kd.R_alloc | apply Kd.R_drewN | apply Kd.R_drew)); exact (sF_ HO1437.out BK1444.out (by decide))) hb); have n7_ := Aside0.mk (Kd.R_below (by (with_reducible repeat (first | apply Kd.R_alloc | apply Kd.R_drewN | apply Kd.R_drew)); exact (sF_ HO1443.out BK1444.out (by decide))) hb); have n8_ := Aside0.mk (blk_below (g := gb1408) (o := .cells #[.int .i64 t1403, .int .i64 t1404, .slice Ao15 t1405.length co15] 26 (0, 0)) (by refine sB_ ?_; refine blk_far ?_ NB1408_1444.out _; refine sB_ ?_; refine blk_far ?_ NB1408_1444.out _; refine sB_ ?_; refine blk_far ?_ NB1408_1444.out _; refine sB_ ?_; exact BK1408.out) hb); have n9_ := Aside0.mk (blk_below (g := gb1417) (o := .cells #[.int .i64 t1412, .int .i64 t1413, .slice Ao22 t1414.length co22] 41 (0, 0)) (by refine sB_ ?_; refine blk_far ?_ NB1417_1444.out _; refine sB_ ?_; refine blk_far ?_ NB1417_1444.out _; refine sB_ ?_; refine blk_far ?_ NB1417_1444.out _; refine sB_ ?_; exact BK1417.out) hb); have n10_ := Aside0.mk (blk_below (g := gb1432) (o := .cells #[.int .i64 t1426, .int .i64 t1427, .slice Ao34 t1428.length co34] 41 (0, 0)) (by refine sB_ ?_; refine blk_far ?_ NB1432_1444.out _; refine sB_ ?_; refine blk_far ?_ NB1432_1444.out _; refine sB_ ?_; refine blk_far ?_ NB1432_1444.out _; refine sB_ ?_; exact BK1432.out) hb); have n11_ := Aside0.mk (blk_below (g := gb1438) (o := .cells #[.int .i64 t1433, .int .i64 t1434, .slice Ao46 t1435.length co46] 41 (0, 0)) (by refine sB_ ?_; refine blk_far ?_ NB1438_1444.out _; refine sB_ ?_; refine blk_far ?_ NB1438_1444.out _; refine sB_ ?_; refine blk_far ?_ NB1438_1444.out _; refine sB_ ?_; exact BK1438.out) hb); have n12_ := Aside0.mk (blk_below (g := gb1444) (o := .cells #[.int .i64 t1439, .int .i64 t1440, .slice Ao56 t1441.length co56] 41 (0, 0)) (by refine sB_ ?_; refine blk_put (cs := #[.int .i64 t1439, .int .i64 t1440, .slice none 0 0]) ?_ 2 _ rfl; refine sB_ ?_; refine blk_put (cs := #[.int .i64 t1439, .int .i64 0, .slice none 0 0]) ?_ 1 _ rfl; refine sB_ ?_; refine blk_put (cs := #[.int .i64 0, .int .i64 0, .slice none 0 0]) ?_ 0 _ rfl; refine sB_ ?_; exact BK1444.out) hb); have n13_ := Aside0.mk (below_step (sW_ HB.out) hb); clear HO1407 HO1411 HO1416 HO1420 HO1425 HO1430 HO1437 HO1443 BK1408 BK1417 BK1432 BK1438 BK1444 HB; have HO1407 := n0_; have HO1411 := n1_; have HO1416 := n2_; have HO1420 := n3_; have HO1425 := n4_; have HO1430 := n5_; have HO1437 := n6_; have HO1443 := n7_; have BK1408 := n8_; have BK1417 := n9_; have BK1432 := n10_; have BK1438 := n11_; have BK1444 := n12_; have HB := n13_; clear n0_ n1_ n2_ n3_ n4_ n5_ n6_ n7_ n8_ n9_ n10_ n11_ n12_ n13_; (try clear hb); (try clear hb2); (try clear hk); (try clear hi); have hnb82 := NB1444_1408.out; have hnc82 := NB1408_1444.out; have hnb83 := NB1444_1417.out; have hnc83 := NB1417_1444.out; have hnb84 := NB1444_1432.out; have hnc84 := NB1432_1444.out; obtain ⟨hcz85_0, hcz85_1, hcz85_2, hfz85_0, hfz85_1, hfz85_2⟩ := sZ_ BK1444.out) | (go_at_call 68; (with_reducible refine (impl_IsPlate.calls t1439 t1440 _ _ t1441 false _ ?side1 ?side2 A59.out).mono ?_); (case side1 => repeat (first | exact (Kd.R_reads' HO1443.out).2.2 | (with_reducible refine Kd.C_alloc ?_ _) | (with_reducible refine Kd.C_drewN ?_ _) | (with_reducible refine Kd.C_drew ?_))); (case side2 => exact (Kd.R_reads' HO1443.out).2.1); rintro e w86 ⟨rfl, hb⟩; have n0_ := Aside0.mk (Kd.R_below (sR_ HO1407.out) hb); have n1_ := Aside0.mk (Kd.R_below (sR_ HO1411.out) hb); have n2_ := Aside0.mk (Kd.R_below (sR_ HO1416.out) hb); have n3_ := Aside0.mk (Kd.R_below (sR_ HO1420.out) hb); have n4_ := Aside0.mk (Kd.R_below (sR_ HO1425.out) hb); have n5_ := Aside0.mk (Kd.R_below (sR_ HO1430.out) hb); have n6_ := Aside0.mk (Kd.R_below (sR_ HO1437.out) hb); have n7_ := Aside0.mk (Kd.R_below (sR_ HO1443.out) hb); have n8_ := Aside0.mk (blk_below (sB_ BK1408.out) hb); have n9_ := Aside0.mk (blk_below (sB_ BK1417.out) hb); have n10_ := Aside0.mk (blk_below (sB_ BK1432.out) hb); have n11_ := Aside0.mk (blk_below (sB_ BK1438.out) hb); have n12_ := Aside0.mk (blk_below (sB_ BK1444.out) hb); have n13_ := Aside0.mk (below_step (sW_ HB.out) hb); clear HO1407 HO1411 HO1416 HO1420 HO1425 HO1430 HO1437 HO1443 BK1408 BK1417 BK1432 BK1438 BK1444 HB; have HO1407 := n0_; have HO1411 := n1_; have HO1416 := n2_; have HO1420 := n3_; have HO1425 := n4_; have HO1430 := n5_; have HO1437 := n6_; have HO1443 := n7_; have BK1408 := n8_; have BK1417 := n9_; have BK1432 := n10_; have BK1438 := n11_; have BK1444 := n12_; have HB := n13_; clear n0_ n1_ n2_ n3_ n4_ n5_ n6_ n7_ n8_ n9_ n10_ n11_ n12_ n13_; (try clear hb); (try clear hb2); (try clear hk); (try clear hi)))
   go_meet
   case rel => exact ⟨_, (true), (by first | rfl | (simp; done) | (simp [*]; done)), H', ⟨by first | omega | exact Nat.le_refl _⟩, ⟨by (with_reducible repeat (first | apply Kd.R_alloc | apply Kd.R_drewN | apply Kd.R_drew)); exact Kd.R_mono HO1407.out (fun _ hk => ⟨hk.1.1.1, ⟨hk.1.1.2.2, ⟨hk.1.2, hk.2⟩⟩⟩)⟩, ⟨by (with_reducible repeat (first | apply Kd.R_alloc | apply Kd.R_drewN | apply Kd.R_drew)); exact Kd.R_mono HO1416.out (fun _ hk => ⟨hk.1.1.1, ⟨hk.1.1.2.2, ⟨hk.1.2, hk.2⟩⟩⟩)⟩, ⟨by (with_reducible repeat (first | apply Kd.R_alloc | apply Kd.R_drewN | apply Kd.R_drew)); exact Kd.R_mono HO1430.out (fun _ hk => ⟨hk.1.1.1, ⟨hk.1.1.2.1, ⟨hk.1.2, hk.2⟩⟩⟩)⟩, ⟨by (with_reducible repeat (first | apply Kd.R_alloc | apply Kd.R_drewN | apply Kd.R_drew)); exact Kd.R_mono HO1437.out (fun _ hk => ⟨hk.1.1.1.1.2, ⟨hk.1.1.1.2, ⟨hk.1.2, hk.2⟩⟩⟩)⟩, ⟨by (with_reducible repeat (first | apply Kd.R_alloc | apply Kd.R_drewN | apply Kd.R_drew)); exact Kd.R_mono HO1443.out (fun _ hk => ⟨hk.1.1.1.1.2, ⟨hk.1.1.1.2, ⟨hk.1.2, hk.2⟩⟩⟩)⟩, ⟨by refine sB_ ?_; exact BK1408.out⟩, ⟨by refine sB_ ?_; exact BK1417.out⟩, ⟨by refine sB_ ?_; exact BK1432.out⟩, ⟨by refine sB_ ?_; exact BK1438.out⟩, ⟨by refine sB_ ?_; exact BK1444.out⟩, ⟨by repeat (first | (with_reducible first | exact HB.out | apply below_alloc | apply pw_below_drewN | apply below_drew1 | refine below_set ?_ GE1408.out | refine below_set ?_ GE1417.out | refine below_set ?_ GE1432.out | refine below_set ?_ GE1438.out | refine below_set ?_ GE1444.out) | exact HB.out)⟩⟩
  replace c58 := Bool.eq_false_iff.mpr c58
  subst c58
  have H1 : (laws_FnStacked.j0 k l0 true t1403 t1404 t1405 t1412 t1413 t1414) = some r := by rw [if_neg (show ¬ (false = true) by decide)] at H; exact H
  clear H; have H := H1; clear H1
  have H' := Aside0.mk H
  clear H; have hnb87 := NB1438_1408.out; have hnc87 := NB1408_1438.out; have hnb88 := NB1438_1417.out; have hnc88 := NB1417_1438.out; have hnb89 := NB1438_1432.out; have hnc89 := NB1432_1438.out; have hnb90 := NB1438_1444.out; have hnc90 := NB1444_1438.out
  obtain ⟨hcz91_0, hcz91_1, hcz91_2, hfz91_0, hfz91_1, hfz91_2⟩ := sZ_ BK1438.out
  go_wp2_with (first | ((with_reducible refine gate_callee (f := 68) rfl ?_); refine goesL_ (some 38) rfl rfl Try.func68 (by kernel_rfl) rfl #[.agg #[.int .i64 t1433, .int .i64 t1434, .slice Ao46 t1435.length co46]] rfl sL_ ?_; (with_reducible refine (impl_IsPlate.calls t1433 t1434 _ _ t1435 false _ ?side1 ?side2 A57.out).mono ?_); (case side1 => refine (Kd.R_reads' (e := 3) (base := w.heap.size) (ok := fun k_ => (((((True ∧ some k_ ≠ (.slice Ao15 t1405.length co15 : Value).ownBlock) ∧ some k_ ≠ (.slice Ao22 t1414.length co22 : Value).ownBlock) ∧ some k_ ≠ (v1424 : Value).ownBlock) ∧ some k_ ≠ (.slice Ao34 t1428.length co34 : Value).ownBlock) ∧ some k_ ≠ (.slice Ao56 t1441.length co56 : Value).ownBlock)) (n := t1435.length) (c := co46) ?_).2.2; exact (by (with_reducible repeat (first | apply Kd.R_alloc | apply Kd.R_drewN | apply Kd.R_drew)); exact (sF_ HO1437.out BK1444.out (by decide)))); (case side2 => exact (Kd.R_reads' HO1437.out).2.1); rintro e w92 ⟨rfl, hb⟩; refine ⟨_, rfl, ?_⟩; have n0_ := Aside0.mk (Kd.R_below (by (with_reducible repeat (first | apply Kd.R_alloc | apply Kd.R_drewN | apply Kd.R_drew)); exact (sF_ HO1407.out BK1444.out (by decide))) hb); have n1_ := Aside0.mk (Kd.R_below (by (with_reducible repeat (first | apply Kd.R_alloc | apply Kd.R_drewN | apply Kd.R_drew)); exact (sF_ HO1411.out BK1444.out (by decide))) hb); have n2_ := Aside0.mk (Kd.R_below (by (with_reducible repeat (first | apply Kd.R_alloc | apply Kd.R_drewN | apply Kd.R_drew)); exact (sF_ HO1416.out BK1444.out (by decide))) hb); have n3_ := Aside0.mk (Kd.R_below (by (with_reducible repeat (first | apply Kd.R_alloc | apply Kd.R_drewN | apply Kd.R_drew)); exact (sF_ HO1420.out BK1444.out (by decide))) hb); have n4_ := Aside0.mk (Kd.R_below (by (with_reducible repeat (first | apply Kd.R_alloc | apply Kd.R_drewN | apply Kd.R_drew)); exact (sF_ HO1425.out BK1444.out (by decide))) hb); have n5_ := Aside0.mk (Kd.R_below (by (with_reducible repeat (first | apply Kd.R_alloc | apply Kd.R_drewN | apply Kd.R_drew)); exact (sF_ HO1430.out BK1444.out (by decide))) hb); have n6_ := Aside0.mk (Kd.R_below (by (with_reducible repeat (first | apply Kd.R_alloc | apply Kd.R_drewN | apply Kd.R_drew)); exact (sF_ HO1437.out BK1444.out (by decide))) hb); have n7_ := Aside0.mk (Kd.R_below (by (with_reducible repeat (first | apply Kd.R_alloc | apply Kd.R_drewN | apply Kd.R_drew)); exact (sF_ HO1443.out BK1444.out (by decide))) hb); have n8_ := Aside0.mk (blk_below (g := gb1408) (o := .cells #[.int .i64 t1403, .int .i64 t1404, .slice Ao15 t1405.length co15] 26 (0, 0)) (by refine sB_ ?_; refine blk_far ?_ NB1408_1444.out _; refine sB_ ?_; refine blk_far ?_ NB1408_1444.out _; refine sB_ ?_; refine blk_far ?_ NB1408_1444.out _; refine sB_ ?_; exact BK1408.out) hb); have n9_ := Aside0.mk (blk_below (g := gb1417) (o := .cells #[.int .i64 t1412, .int .i64 t1413, .slice Ao22 t1414.length co22] 41 (0, 0)) (by refine sB_ ?_; refine blk_far ?_ NB1417_1444.out _; refine sB_ ?_; refine blk_far ?_ NB1417_1444.out _; refine sB_ ?_; refine blk_far ?_ NB1417_1444.out _; refine sB_ ?_; exact BK1417.out) hb); have n10_ := Aside0.mk (blk_below (g := gb1432) (o := .cells #[.int .i64 t1426, .int .i64 t1427, .slice Ao34 t1428.length co34] 41 (0, 0)) (by refine sB_ ?_; refine blk_far ?_ NB1432_1444.out _; refine sB_ ?_; refine blk_far ?_ NB1432_1444.out _; refine sB_ ?_; refine blk_far ?_ NB1432_1444.out _; refine sB_ ?_; exact BK1432.out) hb); have n11_ := Aside0.mk (blk_below (g := gb1438) (o := .cells #[.int .i64 t1433, .int .i64 t1434, .slice Ao46 t1435.length co46] 41 (0, 0)) (by refine sB_ ?_; refine blk_far ?_ NB1438_1444.out _; refine sB_ ?_; refine blk_far ?_ NB1438_1444.out _; refine sB_ ?_; refine blk_far ?_ NB1438_1444.out _; refine sB_ ?_; exact BK1438.out) hb); have n12_ := Aside0.mk (blk_below (g := gb1444) (o := .cells #[.int .i64 t1439, .int .i64 t1440, .slice Ao56 t1441.length co56] 41 (0, 0)) (by refine sB_ ?_; refine blk_put (cs := #[.int .i64 t1439, .int .i64 t1440, .slice none 0 0]) ?_ 2 _ rfl; refine sB_ ?_; refine blk_put (cs := #[.int .i64 t1439, .int .i64 0, .slice none 0 0]) ?_ 1 _ rfl; refine sB_ ?_; refine blk_put (cs := #[.int .i64 0, .int .i64 0, .slice none 0 0]) ?_ 0 _ rfl; refine sB_ ?_; exact BK1444.out) hb); have n13_ := Aside0.mk (below_step (sW_ HB.out) hb); clear HO1407 HO1411 HO1416 HO1420 HO1425 HO1430 HO1437 HO1443 BK1408 BK1417 BK1432 BK1438 BK1444 HB; have HO1407 := n0_; have HO1411 := n1_; have HO1416 := n2_; have HO1420 := n3_; have HO1425 := n4_; have HO1430 := n5_; have HO1437 := n6_; have HO1443 := n7_; have BK1408 := n8_; have BK1417 := n9_; have BK1432 := n10_; have BK1438 := n11_; have BK1444 := n12_; have HB := n13_; clear n0_ n1_ n2_ n3_ n4_ n5_ n6_ n7_ n8_ n9_ n10_ n11_ n12_ n13_; (try clear hb); (try clear hb2); (try clear hk); (try clear hi)))
  go_meet
  case rel => exact ⟨_, (true), (by first | rfl | (simp; done) | (simp [*]; done)), H', ⟨by first | omega | exact Nat.le_refl _⟩, ⟨by (with_reducible repeat (first | apply Kd.R_alloc | apply Kd.R_drewN | apply Kd.R_drew)); exact Kd.R_mono HO1407.out (fun _ hk => ⟨hk.1.1.1, ⟨hk.1.1.2.2, ⟨hk.1.2, hk.2⟩⟩⟩)⟩, ⟨by (with_reducible repeat (first | apply Kd.R_alloc | apply Kd.R_drewN | apply Kd.R_drew)); exact Kd.R_mono HO1416.out (fun _ hk => ⟨hk.1.1.1, ⟨hk.1.1.2.2, ⟨hk.1.2, hk.2⟩⟩⟩)⟩, ⟨by (with_reducible repeat (first | apply Kd.R_alloc | apply Kd.R_drewN | apply Kd.R_drew)); exact Kd.R_mono HO1430.out (fun _ hk => ⟨hk.1.1.1, ⟨hk.1.1.2.1, ⟨hk.1.2, hk.2⟩⟩⟩)⟩, ⟨by (with_reducible repeat (first | apply Kd.R_alloc | apply Kd.R_drewN | apply Kd.R_drew)); exact Kd.R_mono HO1437.out (fun _ hk => ⟨hk.1.1.1.1.2, ⟨hk.1.1.1.2, ⟨hk.1.2, hk.2⟩⟩⟩)⟩, ⟨by (with_reducible repeat (first | apply Kd.R_alloc | apply Kd.R_drewN | apply Kd.R_drew)); exact Kd.R_mono HO1443.out (fun _ hk => ⟨hk.1.1.1.1.2, ⟨hk.1.1.1.2, ⟨hk.1.2, hk.2⟩⟩⟩)⟩, ⟨by refine sB_ ?_; exact BK1408.out⟩, ⟨by refine sB_ ?_; exact BK1417.out⟩, ⟨by refine sB_ ?_; exact BK1432.out⟩, ⟨by refine sB_ ?_; exact BK1438.out⟩, ⟨by refine sB_ ?_; exact BK1444.out⟩, ⟨by repeat (first | (with_reducible first | exact HB.out | apply below_alloc | apply pw_below_drewN | apply below_drew1 | refine below_set ?_ GE1408.out | refine below_set ?_ GE1417.out | refine below_set ?_ GE1432.out | refine below_set ?_ GE1438.out | refine below_set ?_ GE1444.out) | exact HB.out)⟩⟩
 case rest =>
  clear HC11
  try clear p2
  try clear c3
  try clear c4
  try clear c5
  try clear c6
  try clear c7
  try clear c8
  try clear c9
  try clear c36
  try clear c38
  try clear c42
  try clear c43
  try clear c44
  try clear c51
  try clear c52
  try clear c53
  try clear c54
  try clear c58
  try clear c60
  try clear c62
  try clear c63
  try clear c64
  try clear c65
  try clear c66
  try clear c68
  try clear c69
  try clear c70
  try clear c72
  try clear c76
  try clear c77
  try clear c78
  try clear c79
  try clear c80
  try clear c82
  try clear c83
  try clear c84
  try clear c87
  try clear c88
  try clear c89
  try clear c90
  try clear hcz37_0
  try clear hcz37_1
  try clear hcz37_2
  try clear hcz39_0
  try clear hcz39_1
  try clear hcz39_2
  try clear hcz45_0
  try clear hcz45_1
  try clear hcz45_2
  try clear hcz47_0
  try clear hcz47_1
  try clear hcz47_2
  try clear hcz48_0
  try clear hcz48_1
  try clear hcz48_2
  try clear hcz55_0
  try clear hcz55_1
  try clear hcz55_2
  try clear hcz66_0
  try clear hcz66_1
  try clear hcz66_2
  try clear hcz71_0
  try clear hcz71_1
  try clear hcz71_2
  try clear hcz73_0
  try clear hcz73_1
  try clear hcz73_2
  try clear hcz74_0
  try clear hcz74_1
  try clear hcz74_2
  try clear hcz80_0
  try clear hcz80_1
  try clear hcz80_2
  try clear hcz85_0
  try clear hcz85_1
  try clear hcz85_2
  try clear hcz91_0
  try clear hcz91_1
  try clear hcz91_2
  try clear hfz37_0
  try clear hfz37_1
  try clear hfz37_2
  try clear hfz39_0
  try clear hfz39_1
  try clear hfz39_2
  try clear hfz45_0
  try clear hfz45_1
  try clear hfz45_2
  try clear hfz47_0
  try clear hfz47_1
  try clear hfz47_2
  try clear hfz48_0
  try clear hfz48_1
  try clear hfz48_2
  try clear hfz55_0
  try clear hfz55_1
  try clear hfz55_2
  try clear hfz66_0
  try clear hfz66_1
  try clear hfz66_2
  try clear hfz71_0
  try clear hfz71_1
  try clear hfz71_2
  try clear hfz73_0
  try clear hfz73_1
  try clear hfz73_2
  try clear hfz74_0
  try clear hfz74_1
  try clear hfz74_2
  try clear hfz80_0
  try clear hfz80_1
  try clear hfz80_2
  try clear hfz85_0
  try clear hfz85_1
  try clear hfz85_2
  try clear hfz91_0
  try clear hfz91_1
  try clear hfz91_2
  obtain ⟨kq, x50_10, rfl, HA, HJ10, HO_1409002, HO_1418002, HO_1433002, HO_1439002, HO_1445002, BK1408, BK1417, BK1432, BK1438, BK1444, HB⟩ := hcut
  cases kq with
  | zero => exact absurd HA.out (by simp [laws_FnStacked.j0])
  | succ kj10 =>
   have H := HA.out; clear HA
   simp only [laws_FnStacked.j0] at H
   by_cases c93 : x50_10 = true
   ·subst c93
    have H1 : (some false) = some r := by rw [if_pos rfl] at H; exact H
    clear H; have H := H1; clear H1
    exact absurd ((Option.some.inj H).trans hT.out) (by decide)
   replace c93 := Bool.eq_false_iff.mpr c93
   subst c93
   have H1 : ((laws_at.f l0 1).bind fun t1448 => ((impl_FlatPicture.f t1412 t1413 t1448).bind fun bt1449 => ((impl_LevelOf.f t1403 t1404 t1405 t1448).bind fun t1456 => ((impl_ScreenLevel.f t1403 t1404 t1405 t1456 t1412 t1413).bind fun bt1457 => (if bt1449.2.2.2 = true then (if bt1457.2.2.2 = true then ((impl_ScreenPicture.f t1403 t1404 t1405 bt1449.1 bt1449.2.1 bt1449.2.2.1).bind fun bt1464 => ((laws_same.f kj10 bt1464.1 bt1464.2.1 bt1464.2.2 bt1457.1 bt1457.2.1 bt1457.2.2.1).bind fun t1469 => (some t1469))) else (some false)) else (some false)))))) = some r := by rw [if_neg (show ¬ (false = true) by decide)] at H; exact H
   clear H; have H := H1; clear H1
   replace H := Option.bind_eq_some_iff.mp H
   obtain ⟨t1448, A940, H⟩ := H
   replace H : ((impl_FlatPicture.f t1412 t1413 t1448).bind fun bt1449 => ((impl_LevelOf.f t1403 t1404 t1405 t1448).bind fun t1456 => ((impl_ScreenLevel.f t1403 t1404 t1405 t1456 t1412 t1413).bind fun bt1457 => (if bt1449.2.2.2 = true then (if bt1457.2.2.2 = true then ((impl_ScreenPicture.f t1403 t1404 t1405 bt1449.1 bt1449.2.1 bt1449.2.2.1).bind fun bt1464 => ((laws_same.f kj10 bt1464.1 bt1464.2.1 bt1464.2.2 bt1457.1 bt1457.2.1 bt1457.2.2.1).bind fun t1469 => (some t1469))) else (some false)) else (some false))))) = some r := H
   have A94 := Aside0.mk A940
   clear A940
   replace H := Option.bind_eq_some_iff.mp H
   obtain ⟨⟨t1449, t1450, t1451, t1454⟩, A950, H⟩ := H
   replace H : ((impl_LevelOf.f t1403 t1404 t1405 t1448).bind fun t1456 => ((impl_ScreenLevel.f t1403 t1404 t1405 t1456 t1412 t1413).bind fun bt1457 => (if t1454 = true then (if bt1457.2.2.2 = true then ((impl_ScreenPicture.f t1403 t1404 t1405 t1449 t1450 t1451).bind fun bt1464 => ((laws_same.f kj10 bt1464.1 bt1464.2.1 bt1464.2.2 bt1457.1 bt1457.2.1 bt1457.2.2.1).bind fun t1469 => (some t1469))) else (some false)) else (some false)))) = some r := H
   have A95 := Aside0.mk A950
   clear A950
   replace H := Option.bind_eq_some_iff.mp H
   obtain ⟨t1456, A960, H⟩ := H
   replace H : ((impl_ScreenLevel.f t1403 t1404 t1405 t1456 t1412 t1413).bind fun bt1457 => (if t1454 = true then (if bt1457.2.2.2 = true then ((impl_ScreenPicture.f t1403 t1404 t1405 t1449 t1450 t1451).bind fun bt1464 => ((laws_same.f kj10 bt1464.1 bt1464.2.1 bt1464.2.2 bt1457.1 bt1457.2.1 bt1457.2.2.1).bind fun t1469 => (some t1469))) else (some false)) else (some false))) = some r := H
   have A96 := Aside0.mk A960
   clear A960
   replace H := Option.bind_eq_some_iff.mp H
   obtain ⟨⟨t1457, t1458, t1459, t1462⟩, A970, H⟩ := H
   replace H : (if t1454 = true then (if t1462 = true then ((impl_ScreenPicture.f t1403 t1404 t1405 t1449 t1450 t1451).bind fun bt1464 => ((laws_same.f kj10 bt1464.1 bt1464.2.1 bt1464.2.2 t1457 t1458 t1459).bind fun t1469 => (some t1469))) else (some false)) else (some false)) = some r := H
   have A97 := Aside0.mk A970
   clear A970
   by_cases c98 : t1454 = true
   ·subst c98
    have H1 : (if t1462 = true then ((impl_ScreenPicture.f t1403 t1404 t1405 t1449 t1450 t1451).bind fun bt1464 => ((laws_same.f kj10 bt1464.1 bt1464.2.1 bt1464.2.2 t1457 t1458 t1459).bind fun t1469 => (some t1469))) else (some false)) = some r := by rw [if_pos rfl] at H; exact H
    clear H; have H := H1; clear H1
    by_cases c99 : t1462 = true
    ·subst c99
     have H1 : ((impl_ScreenPicture.f t1403 t1404 t1405 t1449 t1450 t1451).bind fun bt1464 => ((laws_same.f kj10 bt1464.1 bt1464.2.1 bt1464.2.2 t1457 t1458 t1459).bind fun t1469 => (some t1469))) = some r := by rw [if_pos rfl] at H; exact H
     clear H; have H := H1; clear H1
     replace H := Option.bind_eq_some_iff.mp H
     obtain ⟨⟨t1464, t1465, t1466⟩, A1000, H⟩ := H
     replace H : ((laws_same.f kj10 t1464 t1465 t1466 t1457 t1458 t1459).bind fun t1469 => (some t1469)) = some r := H
     have A100 := Aside0.mk A1000
     clear A1000
     replace H := Option.bind_eq_some_iff.mp H
     obtain ⟨t1469, A1010, H⟩ := H
     replace H : (some t1469) = some r := H
     have A101 := Aside0.mk A1010
     clear A1010
     obtain rfl := Option.some.inj H
     try go_wp2_with (first | ((with_reducible refine gate_callee (f := 23) rfl ?_); refine goesL_ (some 52) rfl rfl Try.func23 (by kernel_rfl) rfl #[.slice A0 l0.length c0, .int .i64 1] rfl sL_ ?_; (with_reducible refine (laws_at.calls _ _ l0 1 t1448 _ ?side1 ?side2 A94.out).mono ?_); (case side1 => repeat (first | exact (Kd.C_below HR0.out HB.out) | (with_reducible refine Kd.C_alloc ?_ _) | (with_reducible refine Kd.C_drewN ?_ _) | (with_reducible refine Kd.C_drew ?_))); (case side2 => exact HC0.out); rintro e w' ⟨rfl, ⟨nd, rfl⟩⟩; refine ⟨_, rfl, ?_⟩; (try (rw [drewN_self wc]; generalize hq_ : World.drewN wc _ = wc; have n0_ : Aside0 (Kd.R (Kd.int .i64) 3 wc w.heap.size (fun k_ => some k_ ≠ (.slice Ao22 t1414.length co22 : Value).ownBlock ∧ some k_ ≠ (.slice Ao34 t1428.length co34 : Value).ownBlock ∧ some k_ ≠ (.slice Ao46 t1435.length co46 : Value).ownBlock ∧ some k_ ≠ (.slice Ao56 t1441.length co56 : Value).ownBlock) (.slice Ao15 t1405.length co15) t1405) := ⟨by rw [← hq_]; exact (sR_ HO_1409002.out)⟩; have n1_ : Aside0 (Kd.R (Kd.int .i64) 3 wc w.heap.size (fun k_ => some k_ ≠ (.slice Ao15 t1405.length co15 : Value).ownBlock ∧ some k_ ≠ (.slice Ao34 t1428.length co34 : Value).ownBlock ∧ some k_ ≠ (.slice Ao46 t1435.length co46 : Value).ownBlock ∧ some k_ ≠ (.slice Ao56 t1441.length co56 : Value).ownBlock) (.slice Ao22 t1414.length co22) t1414) := ⟨by rw [← hq_]; exact (sR_ HO_1418002.out)⟩; have n2_ : Aside0 (Kd.R (Kd.int .i64) 3 wc w.heap.size (fun k_ => some k_ ≠ (.slice Ao15 t1405.length co15 : Value).ownBlock ∧ some k_ ≠ (.slice Ao22 t1414.length co22 : Value).ownBlock ∧ some k_ ≠ (.slice Ao46 t1435.length co46 : Value).ownBlock ∧ some k_ ≠ (.slice Ao56 t1441.length co56 : Value).ownBlock) (.slice Ao34 t1428.length co34) t1428) := ⟨by rw [← hq_]; exact (sR_ HO_1433002.out)⟩; have n3_ : Aside0 (Kd.R (Kd.int .i64) 3 wc w.heap.size (fun k_ => some k_ ≠ (.slice Ao15 t1405.length co15 : Value).ownBlock ∧ some k_ ≠ (.slice Ao22 t1414.length co22 : Value).ownBlock ∧ some k_ ≠ (.slice Ao34 t1428.length co34 : Value).ownBlock ∧ some k_ ≠ (.slice Ao56 t1441.length co56 : Value).ownBlock) (.slice Ao46 t1435.length co46) t1435) := ⟨by rw [← hq_]; exact (sR_ HO_1439002.out)⟩; have n4_ : Aside0 (Kd.R (Kd.int .i64) 3 wc w.heap.size (fun k_ => some k_ ≠ (.slice Ao15 t1405.length co15 : Value).ownBlock ∧ some k_ ≠ (.slice Ao22 t1414.length co22 : Value).ownBlock ∧ some k_ ≠ (.slice Ao34 t1428.length co34 : Value).ownBlock ∧ some k_ ≠ (.slice Ao46 t1435.length co46 : Value).ownBlock) (.slice Ao56 t1441.length co56) t1441) := ⟨by rw [← hq_]; exact (sR_ HO_1445002.out)⟩; have n5_ : Aside0 (wc.heap[gb1408]? = some (.cells #[.int .i64 t1403, .int .i64 t1404, .slice Ao15 t1405.length co15] 26 (0, 0))) := ⟨by rw [← hq_]; exact (sB_ BK1408.out)⟩; have n6_ : Aside0 (wc.heap[gb1417]? = some (.cells #[.int .i64 t1412, .int .i64 t1413, .slice Ao22 t1414.length co22] 41 (0, 0))) := ⟨by rw [← hq_]; exact (sB_ BK1417.out)⟩; have n7_ : Aside0 (wc.heap[gb1432]? = some (.cells #[.int .i64 t1426, .int .i64 t1427, .slice Ao34 t1428.length co34] 41 (0, 0))) := ⟨by rw [← hq_]; exact (sB_ BK1432.out)⟩; have n8_ : Aside0 (wc.heap[gb1438]? = some (.cells #[.int .i64 t1433, .int .i64 t1434, .slice Ao46 t1435.length co46] 41 (0, 0))) := ⟨by rw [← hq_]; exact (sB_ BK1438.out)⟩; have n9_ : Aside0 (wc.heap[gb1444]? = some (.cells #[.int .i64 t1439, .int .i64 t1440, .slice Ao56 t1441.length co56] 41 (0, 0))) := ⟨by rw [← hq_]; exact (sB_ BK1444.out)⟩; have n10_ : Aside0 (Below w.heap.size w wc) := ⟨by rw [← hq_]; exact (sW_ HB.out)⟩; clear HO_1409002 HO_1418002 HO_1433002 HO_1439002 HO_1445002 BK1408 BK1417 BK1432 BK1438 BK1444 HB hq_; have HO_1409002 := n0_; have HO_1418002 := n1_; have HO_1433002 := n2_; have HO_1439002 := n3_; have HO_1445002 := n4_; have BK1408 := n5_; have BK1417 := n6_; have BK1432 := n7_; have BK1438 := n8_; have BK1444 := n9_; have HB := n10_; clear n0_ n1_ n2_ n3_ n4_ n5_ n6_ n7_ n8_ n9_ n10_)); have hnb102 := NB1417_1408.out; have hnc102 := NB1408_1417.out; have hnb103 := NB1417_1432.out; have hnc103 := NB1432_1417.out; have hnb104 := NB1417_1438.out; have hnc104 := NB1438_1417.out; have hnb105 := NB1417_1444.out; have hnc105 := NB1444_1417.out; obtain ⟨hcz106_0, hcz106_1, hcz106_2, hfz106_0, hfz106_1, hfz106_2⟩ := sZ_ BK1417.out) | ((with_reducible refine gate_callee (f := 81) rfl ?_); refine goesL_ (some 59) rfl rfl Try.func81 (by kernel_rfl) rfl #[.int .i64 t1412, .int .i64 t1413, .int .i64 t1448] rfl sL_ ?_; (with_reducible refine (impl_FlatPicture.calls t1412 t1413 t1448 t1449 t1450 t1451 true _ A95.out).mono ?_); rintro e w107 ⟨v1452, rfl, ho0, hb⟩; refine ⟨_, rfl, ?_⟩; have n0_ := Aside0.mk (Kd.R_elder' (sR_ HO_1409002.out) (Kd.R_base ho0) hb); have n1_ := Aside0.mk (Kd.R_elder' (sR_ HO_1418002.out) (Kd.R_base ho0) hb); have n2_ := Aside0.mk (Kd.R_elder' (sR_ HO_1433002.out) (Kd.R_base ho0) hb); have n3_ := Aside0.mk (Kd.R_elder' (sR_ HO_1439002.out) (Kd.R_base ho0) hb); have n4_ := Aside0.mk (Kd.R_elder' (sR_ HO_1445002.out) (Kd.R_base ho0) hb); have n5_ := Aside0.mk (Kd.R_lower (Kd.R_new' (Kd.R_new' (Kd.R_new' (Kd.R_new' (Kd.R_new' ho0 (Kd.R_lt (sR_ HO_1409002.out))) (Kd.R_lt (sR_ HO_1418002.out))) (Kd.R_lt (sR_ HO_1433002.out))) (Kd.R_lt (sR_ HO_1439002.out))) (Kd.R_lt (sR_ HO_1445002.out))) (below_size (sW_ HB.out))); have n6_ := Aside0.mk (blk_below (sB_ BK1408.out) hb); have n7_ := Aside0.mk (blk_below (sB_ BK1417.out) hb); have n8_ := Aside0.mk (blk_below (sB_ BK1432.out) hb); have n9_ := Aside0.mk (blk_below (sB_ BK1438.out) hb); have n10_ := Aside0.mk (blk_below (sB_ BK1444.out) hb); have n11_ := Aside0.mk (below_step (sW_ HB.out) hb); clear HO_1409002 HO_1418002 HO_1433002 HO_1439002 HO_1445002 BK1408 BK1417 BK1432 BK1438 BK1444 HB; have HO_1409002 := n0_; have HO_1418002 := n1_; have HO_1433002 := n2_; have HO_1439002 := n3_; have HO_1445002 := n4_; have HO1453 := n5_; have BK1408 := n6_; have BK1417 := n7_; have BK1432 := n8_; have BK1438 := n9_; have BK1444 := n10_; have HB := n11_; clear n0_ n1_ n2_ n3_ n4_ n5_ n6_ n7_ n8_ n9_ n10_ n11_; (try clear hb); (try clear hb2); (try clear hk); (try clear hi); (try clear ho0)) | ((with_reducible refine gate_dst (N := 10) rfl ?_); refine box_event ?hg (N := 10) ?hd (cs := #[.int .i64 0, .int .i64 0, .slice none 0 0]) (t := 41) ?hr ?_; (case hd => rfl); (case hg => rfl); (case hr => first | (go_simp; done) | (go_simp; rfl)); intro gb1455 hg w108 hbox hb; have n0_ := Aside0.mk (Kd.R_below (sR_ HO_1409002.out) hb); have n1_ := Aside0.mk (Kd.R_below (sR_ HO_1418002.out) hb); have n2_ := Aside0.mk (Kd.R_below (sR_ HO_1433002.out) hb); have n3_ := Aside0.mk (Kd.R_below (sR_ HO_1439002.out) hb); have n4_ := Aside0.mk (Kd.R_below (sR_ HO_1445002.out) hb); have n5_ := Aside0.mk (Kd.R_below (sR_ HO1453.out) hb); have n6_ := Aside0.mk (blk_below (sB_ BK1408.out) hb); have n7_ := Aside0.mk (blk_below (sB_ BK1417.out) hb); have n8_ := Aside0.mk (blk_below (sB_ BK1432.out) hb); have n9_ := Aside0.mk (blk_below (sB_ BK1438.out) hb); have n10_ := Aside0.mk (blk_below (sB_ BK1444.out) hb); have n11_ := Aside0.mk (below_step (sW_ HB.out) hb); have n12_ := Aside0.mk (hbox); have n13_ := Aside0.mk ((by rw [hg]; exact (below_size (sW_ HB.out)) : w.heap.size ≤ gb1455)); have n14_ := n13_; have n15_ := Aside0.mk (sN_ hg (blk_lt (sB_ BK1408.out))); have n16_ := Aside0.mk n15_.out.symm; have n17_ := Aside0.mk (sN_ hg (blk_lt (sB_ BK1417.out))); have n18_ := Aside0.mk n17_.out.symm; have n19_ := Aside0.mk (sN_ hg (blk_lt (sB_ BK1432.out))); have n20_ := Aside0.mk n19_.out.symm; have n21_ := Aside0.mk (sN_ hg (blk_lt (sB_ BK1438.out))); have n22_ := Aside0.mk n21_.out.symm; have n23_ := Aside0.mk (sN_ hg (blk_lt (sB_ BK1444.out))); have n24_ := Aside0.mk n23_.out.symm; clear HO_1409002 HO_1418002 HO_1433002 HO_1439002 HO_1445002 HO1453 BK1408 BK1417 BK1432 BK1438 BK1444 HB; have HO_1409002 := n0_; have HO_1418002 := n1_; have HO_1433002 := n2_; have HO_1439002 := n3_; have HO_1445002 := n4_; have HO1453 := n5_; have BK1408 := n6_; have BK1417 := n7_; have BK1432 := n8_; have BK1438 := n9_; have BK1444 := n10_; have HB := n11_; have BK1455 := n12_; have GW1455 := n13_; have GE1455 := n14_; have NB1408_1455 := n15_; have NB1455_1408 := n16_; have NB1417_1455 := n17_; have NB1455_1417 := n18_; have NB1432_1455 := n19_; have NB1455_1432 := n20_; have NB1438_1455 := n21_; have NB1455_1438 := n22_; have NB1444_1455 := n23_; have NB1455_1444 := n24_; clear n0_ n1_ n2_ n3_ n4_ n5_ n6_ n7_ n8_ n9_ n10_ n11_ n12_ n13_ n14_ n15_ n16_ n17_ n18_ n19_ n20_ n21_ n22_ n23_ n24_; clear hb hbox hg; have hnb109 := NB1455_1408.out; have hnc109 := NB1408_1455.out; have hnb110 := NB1455_1417.out; have hnc110 := NB1417_1455.out; have hnb111 := NB1455_1432.out; have hnc111 := NB1432_1455.out; have hnb112 := NB1455_1438.out; have hnc112 := NB1438_1455.out; have hnb113 := NB1455_1444.out; have hnc113 := NB1444_1455.out; obtain ⟨hcz114_0, hcz114_1, hcz114_2, hfz114_0, hfz114_1, hfz114_2⟩ := sZ_ BK1455.out; obtain ⟨Ao115, co115, eo115⟩ := Kd.R_slice HO1453.out; subst eo115))
     have n0_ : Aside0 (Kd.R (Kd.int .i64) 3 (((w108.setCell ⟨gb1455, 0, none⟩ (.int .i64 t1449)).setCell ⟨gb1455, 1, none⟩ (.int .i64 t1450)).setCell ⟨gb1455, 2, none⟩ (.slice Ao115 t1451.length co115)) w.heap.size (fun k_ => some k_ ≠ (.slice Ao22 t1414.length co22 : Value).ownBlock ∧ some k_ ≠ (.slice Ao34 t1428.length co34 : Value).ownBlock ∧ some k_ ≠ (.slice Ao46 t1435.length co46 : Value).ownBlock ∧ some k_ ≠ (.slice Ao56 t1441.length co56 : Value).ownBlock ∧ some k_ ≠ (.slice Ao115 t1451.length co115 : Value).ownBlock) (.slice Ao15 t1405.length co15) t1405) := ⟨by (with_reducible repeat (first | apply Kd.R_alloc | apply Kd.R_drewN | apply Kd.R_drew)); exact Kd.R_mono (Kd.R_far (p := ⟨gb1455, 2, none⟩) (Kd.R_far (p := ⟨gb1455, 1, none⟩) (Kd.R_far (p := ⟨gb1455, 0, none⟩) (Kd.R_types HO_1409002.out BK1455.out (by decide)) (fun _ hk => hk.2) (.int .i64 t1449)) (fun _ hk => hk.2) (.int .i64 t1450)) (fun _ hk => hk.2) (.slice Ao115 t1451.length co115)) (fun _ hk => ⟨hk.1.1.1, ⟨hk.1.1.2.1, ⟨hk.1.1.2.2.1, ⟨hk.1.1.2.2.2, hk.1.2⟩⟩⟩⟩)⟩
     have n1_ : Aside0 (Kd.R (Kd.int .i64) 3 (((w108.setCell ⟨gb1455, 0, none⟩ (.int .i64 t1449)).setCell ⟨gb1455, 1, none⟩ (.int .i64 t1450)).setCell ⟨gb1455, 2, none⟩ (.slice Ao115 t1451.length co115)) w.heap.size (fun k_ => some k_ ≠ (.slice Ao15 t1405.length co15 : Value).ownBlock ∧ some k_ ≠ (.slice Ao34 t1428.length co34 : Value).ownBlock ∧ some k_ ≠ (.slice Ao46 t1435.length co46 : Value).ownBlock ∧ some k_ ≠ (.slice Ao56 t1441.length co56 : Value).ownBlock ∧ some k_ ≠ (.slice Ao115 t1451.length co115 : Value).ownBlock) (.slice Ao22 t1414.length co22) t1414) := ⟨by (with_reducible repeat (first | apply Kd.R_alloc | apply Kd.R_drewN | apply Kd.R_drew)); exact Kd.R_mono (Kd.R_far (p := ⟨gb1455, 2, none⟩) (Kd.R_far (p := ⟨gb1455, 1, none⟩) (Kd.R_far (p := ⟨gb1455, 0, none⟩) (Kd.R_types HO_1418002.out BK1455.out (by decide)) (fun _ hk => hk.2) (.int .i64 t1449)) (fun _ hk => hk.2) (.int .i64 t1450)) (fun _ hk => hk.2) (.slice Ao115 t1451.length co115)) (fun _ hk => ⟨hk.1.1.1, ⟨hk.1.1.2.1, ⟨hk.1.1.2.2.1, ⟨hk.1.1.2.2.2, hk.1.2⟩⟩⟩⟩)⟩
     have n2_ : Aside0 (Kd.R (Kd.int .i64) 3 (((w108.setCell ⟨gb1455, 0, none⟩ (.int .i64 t1449)).setCell ⟨gb1455, 1, none⟩ (.int .i64 t1450)).setCell ⟨gb1455, 2, none⟩ (.slice Ao115 t1451.length co115)) w.heap.size (fun k_ => some k_ ≠ (.slice Ao15 t1405.length co15 : Value).ownBlock ∧ some k_ ≠ (.slice Ao22 t1414.length co22 : Value).ownBlock ∧ some k_ ≠ (.slice Ao46 t1435.length co46 : Value).ownBlock ∧ some k_ ≠ (.slice Ao56 t1441.length co56 : Value).ownBlock ∧ some k_ ≠ (.slice Ao115 t1451.length co115 : Value).ownBlock) (.slice Ao34 t1428.length co34) t1428) := ⟨by (with_reducible repeat (first | apply Kd.R_alloc | apply Kd.R_drewN | apply Kd.R_drew)); exact Kd.R_mono (Kd.R_far (p := ⟨gb1455, 2, none⟩) (Kd.R_far (p := ⟨gb1455, 1, none⟩) (Kd.R_far (p := ⟨gb1455, 0, none⟩) (Kd.R_types HO_1433002.out BK1455.out (by decide)) (fun _ hk => hk.2) (.int .i64 t1449)) (fun _ hk => hk.2) (.int .i64 t1450)) (fun _ hk => hk.2) (.slice Ao115 t1451.length co115)) (fun _ hk => ⟨hk.1.1.1, ⟨hk.1.1.2.1, ⟨hk.1.1.2.2.1, ⟨hk.1.1.2.2.2, hk.1.2⟩⟩⟩⟩)⟩
     have n3_ : Aside0 (Kd.R (Kd.int .i64) 3 (((w108.setCell ⟨gb1455, 0, none⟩ (.int .i64 t1449)).setCell ⟨gb1455, 1, none⟩ (.int .i64 t1450)).setCell ⟨gb1455, 2, none⟩ (.slice Ao115 t1451.length co115)) w.heap.size (fun k_ => some k_ ≠ (.slice Ao15 t1405.length co15 : Value).ownBlock ∧ some k_ ≠ (.slice Ao22 t1414.length co22 : Value).ownBlock ∧ some k_ ≠ (.slice Ao34 t1428.length co34 : Value).ownBlock ∧ some k_ ≠ (.slice Ao56 t1441.length co56 : Value).ownBlock ∧ some k_ ≠ (.slice Ao115 t1451.length co115 : Value).ownBlock) (.slice Ao46 t1435.length co46) t1435) := ⟨by (with_reducible repeat (first | apply Kd.R_alloc | apply Kd.R_drewN | apply Kd.R_drew)); exact Kd.R_mono (Kd.R_far (p := ⟨gb1455, 2, none⟩) (Kd.R_far (p := ⟨gb1455, 1, none⟩) (Kd.R_far (p := ⟨gb1455, 0, none⟩) (Kd.R_types HO_1439002.out BK1455.out (by decide)) (fun _ hk => hk.2) (.int .i64 t1449)) (fun _ hk => hk.2) (.int .i64 t1450)) (fun _ hk => hk.2) (.slice Ao115 t1451.length co115)) (fun _ hk => ⟨hk.1.1.1, ⟨hk.1.1.2.1, ⟨hk.1.1.2.2.1, ⟨hk.1.1.2.2.2, hk.1.2⟩⟩⟩⟩)⟩
     have n4_ : Aside0 (Kd.R (Kd.int .i64) 3 (((w108.setCell ⟨gb1455, 0, none⟩ (.int .i64 t1449)).setCell ⟨gb1455, 1, none⟩ (.int .i64 t1450)).setCell ⟨gb1455, 2, none⟩ (.slice Ao115 t1451.length co115)) w.heap.size (fun k_ => some k_ ≠ (.slice Ao15 t1405.length co15 : Value).ownBlock ∧ some k_ ≠ (.slice Ao22 t1414.length co22 : Value).ownBlock ∧ some k_ ≠ (.slice Ao34 t1428.length co34 : Value).ownBlock ∧ some k_ ≠ (.slice Ao46 t1435.length co46 : Value).ownBlock ∧ some k_ ≠ (.slice Ao115 t1451.length co115 : Value).ownBlock) (.slice Ao56 t1441.length co56) t1441) := ⟨by (with_reducible repeat (first | apply Kd.R_alloc | apply Kd.R_drewN | apply Kd.R_drew)); exact Kd.R_mono (Kd.R_far (p := ⟨gb1455, 2, none⟩) (Kd.R_far (p := ⟨gb1455, 1, none⟩) (Kd.R_far (p := ⟨gb1455, 0, none⟩) (Kd.R_types HO_1445002.out BK1455.out (by decide)) (fun _ hk => hk.2) (.int .i64 t1449)) (fun _ hk => hk.2) (.int .i64 t1450)) (fun _ hk => hk.2) (.slice Ao115 t1451.length co115)) (fun _ hk => ⟨hk.1.1.1, ⟨hk.1.1.2.1, ⟨hk.1.1.2.2.1, ⟨hk.1.1.2.2.2, hk.1.2⟩⟩⟩⟩)⟩
     have n5_ : Aside0 (Kd.R (Kd.int .i64) 3 (((w108.setCell ⟨gb1455, 0, none⟩ (.int .i64 t1449)).setCell ⟨gb1455, 1, none⟩ (.int .i64 t1450)).setCell ⟨gb1455, 2, none⟩ (.slice Ao115 t1451.length co115)) w.heap.size (fun k_ => some k_ ≠ (.slice Ao15 t1405.length co15 : Value).ownBlock ∧ some k_ ≠ (.slice Ao22 t1414.length co22 : Value).ownBlock ∧ some k_ ≠ (.slice Ao34 t1428.length co34 : Value).ownBlock ∧ some k_ ≠ (.slice Ao46 t1435.length co46 : Value).ownBlock ∧ some k_ ≠ (.slice Ao56 t1441.length co56 : Value).ownBlock) (.slice Ao115 t1451.length co115) t1451) := ⟨by (with_reducible repeat (first | apply Kd.R_alloc | apply Kd.R_drewN | apply Kd.R_drew)); exact Kd.R_mono (Kd.R_far (p := ⟨gb1455, 2, none⟩) (Kd.R_far (p := ⟨gb1455, 1, none⟩) (Kd.R_far (p := ⟨gb1455, 0, none⟩) (Kd.R_types HO1453.out BK1455.out (by decide)) (fun _ hk => hk.2) (.int .i64 t1449)) (fun _ hk => hk.2) (.int .i64 t1450)) (fun _ hk => hk.2) (.slice Ao115 t1451.length co115)) (fun _ hk => ⟨hk.1.1.1.1.1.2, ⟨hk.1.1.1.1.2, ⟨hk.1.1.1.2, ⟨hk.1.1.2, hk.1.2⟩⟩⟩⟩)⟩
     have n6_ : Aside0 ((((w108.setCell ⟨gb1455, 0, none⟩ (.int .i64 t1449)).setCell ⟨gb1455, 1, none⟩ (.int .i64 t1450)).setCell ⟨gb1455, 2, none⟩ (.slice Ao115 t1451.length co115)).heap[gb1408]? = some (.cells #[.int .i64 t1403, .int .i64 t1404, .slice Ao15 t1405.length co15] 26 (0, 0))) := ⟨by refine sB_ ?_; refine blk_far ?_ NB1408_1455.out _; refine sB_ ?_; refine blk_far ?_ NB1408_1455.out _; refine sB_ ?_; refine blk_far ?_ NB1408_1455.out _; refine sB_ ?_; exact BK1408.out⟩
     have n7_ : Aside0 ((((w108.setCell ⟨gb1455, 0, none⟩ (.int .i64 t1449)).setCell ⟨gb1455, 1, none⟩ (.int .i64 t1450)).setCell ⟨gb1455, 2, none⟩ (.slice Ao115 t1451.length co115)).heap[gb1417]? = some (.cells #[.int .i64 t1412, .int .i64 t1413, .slice Ao22 t1414.length co22] 41 (0, 0))) := ⟨by refine sB_ ?_; refine blk_far ?_ NB1417_1455.out _; refine sB_ ?_; refine blk_far ?_ NB1417_1455.out _; refine sB_ ?_; refine blk_far ?_ NB1417_1455.out _; refine sB_ ?_; exact BK1417.out⟩
     have n8_ : Aside0 ((((w108.setCell ⟨gb1455, 0, none⟩ (.int .i64 t1449)).setCell ⟨gb1455, 1, none⟩ (.int .i64 t1450)).setCell ⟨gb1455, 2, none⟩ (.slice Ao115 t1451.length co115)).heap[gb1432]? = some (.cells #[.int .i64 t1426, .int .i64 t1427, .slice Ao34 t1428.length co34] 41 (0, 0))) := ⟨by refine sB_ ?_; refine blk_far ?_ NB1432_1455.out _; refine sB_ ?_; refine blk_far ?_ NB1432_1455.out _; refine sB_ ?_; refine blk_far ?_ NB1432_1455.out _; refine sB_ ?_; exact BK1432.out⟩
     have n9_ : Aside0 ((((w108.setCell ⟨gb1455, 0, none⟩ (.int .i64 t1449)).setCell ⟨gb1455, 1, none⟩ (.int .i64 t1450)).setCell ⟨gb1455, 2, none⟩ (.slice Ao115 t1451.length co115)).heap[gb1438]? = some (.cells #[.int .i64 t1433, .int .i64 t1434, .slice Ao46 t1435.length co46] 41 (0, 0))) := ⟨by refine sB_ ?_; refine blk_far ?_ NB1438_1455.out _; refine sB_ ?_; refine blk_far ?_ NB1438_1455.out _; refine sB_ ?_; refine blk_far ?_ NB1438_1455.out _; refine sB_ ?_; exact BK1438.out⟩
     have n10_ : Aside0 ((((w108.setCell ⟨gb1455, 0, none⟩ (.int .i64 t1449)).setCell ⟨gb1455, 1, none⟩ (.int .i64 t1450)).setCell ⟨gb1455, 2, none⟩ (.slice Ao115 t1451.length co115)).heap[gb1444]? = some (.cells #[.int .i64 t1439, .int .i64 t1440, .slice Ao56 t1441.length co56] 41 (0, 0))) := ⟨by refine sB_ ?_; refine blk_far ?_ NB1444_1455.out _; refine sB_ ?_; refine blk_far ?_ NB1444_1455.out _; refine sB_ ?_; refine blk_far ?_ NB1444_1455.out _; refine sB_ ?_; exact BK1444.out⟩
     have n11_ : Aside0 ((((w108.setCell ⟨gb1455, 0, none⟩ (.int .i64 t1449)).setCell ⟨gb1455, 1, none⟩ (.int .i64 t1450)).setCell ⟨gb1455, 2, none⟩ (.slice Ao115 t1451.length co115)).heap[gb1455]? = some (.cells #[.int .i64 t1449, .int .i64 t1450, .slice Ao115 t1451.length co115] 41 (0, 0))) := ⟨by refine sB_ ?_; refine blk_put (cs := #[.int .i64 t1449, .int .i64 t1450, .slice none 0 0]) ?_ 2 _ rfl; refine sB_ ?_; refine blk_put (cs := #[.int .i64 t1449, .int .i64 0, .slice none 0 0]) ?_ 1 _ rfl; refine sB_ ?_; refine blk_put (cs := #[.int .i64 0, .int .i64 0, .slice none 0 0]) ?_ 0 _ rfl; refine sB_ ?_; exact BK1455.out⟩
     have n12_ : Aside0 (Below w.heap.size w (((w108.setCell ⟨gb1455, 0, none⟩ (.int .i64 t1449)).setCell ⟨gb1455, 1, none⟩ (.int .i64 t1450)).setCell ⟨gb1455, 2, none⟩ (.slice Ao115 t1451.length co115))) := ⟨by repeat (first | (with_reducible first | exact HB.out | apply below_alloc | apply pw_below_drewN | apply below_drew1 | refine below_set ?_ GE1408.out | refine below_set ?_ GE1417.out | refine below_set ?_ GE1432.out | refine below_set ?_ GE1438.out | refine below_set ?_ GE1444.out | refine below_set ?_ GE1455.out) | exact HB.out)⟩
     (try clear HO_1409002)
     (try clear HO_1418002)
     (try clear HO_1433002)
     (try clear HO_1439002)
     (try clear HO_1445002)
     (try clear HO1453)
     (try clear BK1408)
     (try clear BK1417)
     (try clear BK1432)
     (try clear BK1438)
     (try clear BK1444)
     (try clear BK1455)
     (try clear HB)
     generalize (((w108.setCell ⟨gb1455, 0, none⟩ (.int .i64 t1449)).setCell ⟨gb1455, 1, none⟩ (.int .i64 t1450)).setCell ⟨gb1455, 2, none⟩ (.slice Ao115 t1451.length co115)) = w116 at n0_ n1_ n2_ n3_ n4_ n5_ n6_ n7_ n8_ n9_ n10_ n11_ n12_ ⊢
     have HO_1409002 := n0_; have HO_1418002 := n1_; have HO_1433002 := n2_; have HO_1439002 := n3_; have HO_1445002 := n4_; have HO1453 := n5_; have BK1408 := n6_; have BK1417 := n7_; have BK1432 := n8_; have BK1438 := n9_; have BK1444 := n10_; have BK1455 := n11_; have HB := n12_; clear n0_ n1_ n2_ n3_ n4_ n5_ n6_ n7_ n8_ n9_ n10_ n11_ n12_
     have n0_ := Aside0.mk (Kd.R_drew HO_1409002.out)
     have n1_ := Aside0.mk (Kd.R_drew HO_1418002.out)
     have n2_ := Aside0.mk (Kd.R_drew HO_1433002.out)
     have n3_ := Aside0.mk (Kd.R_drew HO_1439002.out)
     have n4_ := Aside0.mk (Kd.R_drew HO_1445002.out)
     have n5_ := Aside0.mk (Kd.R_drew HO1453.out)
     have n6_ := Aside0.mk (blk_drew BK1408.out)
     have n7_ := Aside0.mk (blk_drew BK1417.out)
     have n8_ := Aside0.mk (blk_drew BK1432.out)
     have n9_ := Aside0.mk (blk_drew BK1438.out)
     have n10_ := Aside0.mk (blk_drew BK1444.out)
     have n11_ := Aside0.mk (blk_drew BK1455.out)
     have n12_ := Aside0.mk (below_drew1 HB.out)
     clear HO_1409002 HO_1418002 HO_1433002 HO_1439002 HO_1445002 HO1453 BK1408 BK1417 BK1432 BK1438 BK1444 BK1455 HB; have HO_1409002 := n0_; have HO_1418002 := n1_; have HO_1433002 := n2_; have HO_1439002 := n3_; have HO_1445002 := n4_; have HO1453 := n5_; have BK1408 := n6_; have BK1417 := n7_; have BK1432 := n8_; have BK1438 := n9_; have BK1444 := n10_; have BK1455 := n11_; have HB := n12_; clear n0_ n1_ n2_ n3_ n4_ n5_ n6_ n7_ n8_ n9_ n10_ n11_ n12_
     refine start_ (n := 15) (S := fun w' => w'.cell? ⟨gb1408, 0, none⟩ = some (.int .i64 t1403) ∧ w'.cell? ⟨gb1408, 1, none⟩ = some (.int .i64 t1404) ∧ w'.cell? ⟨gb1408, 2, none⟩ = some (.slice Ao15 t1405.length co15) ∧ w'.cell? ⟨gb1417, 0, none⟩ = some (.int .i64 t1412) ∧ w'.cell? ⟨gb1417, 1, none⟩ = some (.int .i64 t1413) ∧ w'.cell? ⟨gb1417, 2, none⟩ = some (.slice Ao22 t1414.length co22)) (ds := []) #[false, false, false, false, false, false, false, false, false, false, false, false, false, false, false] (by kernel_rfl) rfl rfl ⟨(blk_cell BK1408.out 0).trans rfl, (blk_cell BK1408.out 1).trans rfl, (blk_cell BK1408.out 2).trans rfl, (blk_cell BK1417.out 0).trans rfl, (blk_cell BK1417.out 1).trans rfl, (blk_cell BK1417.out 2).trans rfl⟩ (fun hHeld => ?_); refine with_tabW laws_FnStacked.tab12 laws_FnStacked.bits12 (fun HT_ HW_ => ?_)
     generalize w116.drew = w117 at HO_1409002 HO_1418002 HO_1433002 HO_1439002 HO_1445002 HO1453 BK1408 BK1417 BK1432 BK1438 BK1444 BK1455 HB hHeld ⊢
     refine pure_ (i := 2) (N := some 65) (v := ?_) (a' := ?_) #[false, false, true, false, false, false, false, false, false, false, false, false, false, false, false] rfl rfl (any_of HT_.out (by kernel_rfl)) (fun _ _ _ h => h) (Or.inl ⟨by rfl, ?_⟩) ?_ ?_
     rotate_left
     ·intro w'
      go_simp
      with_reducible rfl
     rotate_left
     ·simp only [Act.put, List.setIfInBounds_toArray, List.set_cons_zero, List.set_cons_succ, i64_w, i32_w]
      rfl
     refine pure_ (i := 4) (N := some 67) (v := ?_) (a' := ?_) #[false, false, true, false, true, false, false, false, false, false, false, false, false, false, false] rfl rfl (any_of HT_.out (by kernel_rfl)) (fun _ _ _ h => h) (Or.inl ⟨by rfl, ?_⟩) ?_ ?_
     rotate_left
     ·intro w'
      go_simp
      with_reducible rfl
     rotate_left
     ·simp only [Act.put, List.setIfInBounds_toArray, List.set_cons_zero, List.set_cons_succ, i64_w, i32_w]
      rfl
     refine pure_ (i := 6) (N := some 69) (v := ?_) (a' := ?_) #[false, false, true, false, true, false, true, false, false, false, false, false, false, false, false] rfl rfl (any_of HT_.out (by kernel_rfl)) (fun _ _ _ h => h) (Or.inl ⟨by rfl, ?_⟩) ?_ ?_
     rotate_left
     ·intro w'
      go_simp
      with_reducible rfl
     rotate_left
     ·simp only [Act.put, List.setIfInBounds_toArray, List.set_cons_zero, List.set_cons_succ, i64_w, i32_w]
      rfl
     refine take_ (i := 0) (N := some 63) (v := ?_) (a' := ?_) #[true, false, true, false, true, false, true, false, false, false, false, false, false, false, false] rfl rfl (take_ofW HT_.out HW_.out (by kernel_rfl)) (fun _ _ _ h => h) (Or.inl ⟨by rfl, ?_⟩) hHeld ?_ ?_
     rotate_left
     ·rintro w' ⟨s0, s1, s2, s3, s4, s5⟩
      go_simp
      with_reducible rfl
     rotate_left
     ·simp only [Act.put, List.setIfInBounds_toArray, List.set_cons_zero, List.set_cons_succ, i64_w, i32_w]
      rfl
     refine take_ (i := 1) (N := some 64) (v := ?_) (a' := ?_) #[true, true, true, false, true, false, true, false, false, false, false, false, false, false, false] rfl rfl (take_ofW HT_.out HW_.out (by kernel_rfl)) (fun _ _ _ h => h) (Or.inl ⟨by rfl, ?_⟩) hHeld ?_ ?_
     rotate_left
     ·rintro w' ⟨s0, s1, s2, s3, s4, s5⟩
      go_simp
      with_reducible rfl
     rotate_left
     ·simp only [Act.put, List.setIfInBounds_toArray, List.set_cons_zero, List.set_cons_succ, i64_w, i32_w]
      rfl
     refine take_ (i := 5) (N := some 68) (v := ?_) (a' := ?_) #[true, true, true, false, true, true, true, false, false, false, false, false, false, false, false] rfl rfl (take_ofW HT_.out HW_.out (by kernel_rfl)) (fun _ _ _ h => h) (Or.inl ⟨by rfl, ?_⟩) hHeld ?_ ?_
     rotate_left
     ·rintro w' ⟨s0, s1, s2, s3, s4, s5⟩
      go_simp
      with_reducible rfl
     rotate_left
     ·simp only [Act.put, List.setIfInBounds_toArray, List.set_cons_zero, List.set_cons_succ, i64_w, i32_w]
      rfl
     refine take_ (i := 7) (N := some 70) (v := ?_) (a' := ?_) #[true, true, true, false, true, true, true, true, false, false, false, false, false, false, false] rfl rfl (take_ofW HT_.out HW_.out (by kernel_rfl)) (fun _ _ _ h => h) (Or.inl ⟨by rfl, ?_⟩) hHeld ?_ ?_
     rotate_left
     ·rintro w' ⟨s0, s1, s2, s3, s4, s5⟩
      go_simp
      with_reducible rfl
     rotate_left
     ·simp only [Act.put, List.setIfInBounds_toArray, List.set_cons_zero, List.set_cons_succ, i64_w, i32_w]
      rfl
     refine join_ (σ := Value × Nat) 2 #[true, true, true, true, true, true, true, true, true, true, true, true, true, false, false] (fun s_ => [(66, .int .i64 t1456), (71, .tuple #[.agg #[.int .i64 t1457, .int .i64 t1458, s_.1], .bool true]), (12, .pointer (some ⟨s_.2, 0, none⟩)), (62, .tuple #[.agg #[.int .i64 t1457, .int .i64 t1458, s_.1], .bool true]), (72, .agg #[.int .i64 t1457, .int .i64 t1458, s_.1]), (73, .bool true)]) (fun s_ w' => (w'.cell? ⟨gb1408, 0, none⟩ = some (.int .i64 t1403) ∧ w'.cell? ⟨gb1408, 1, none⟩ = some (.int .i64 t1404) ∧ w'.cell? ⟨gb1408, 2, none⟩ = some (.slice Ao15 t1405.length co15) ∧ w'.cell? ⟨gb1417, 0, none⟩ = some (.int .i64 t1412) ∧ w'.cell? ⟨gb1417, 1, none⟩ = some (.int .i64 t1413) ∧ w'.cell? ⟨gb1417, 2, none⟩ = some (.slice Ao22 t1414.length co22)) ∧ (Kd.R (Kd.int .i64) 3 w' w.heap.size (fun k_ => some k_ ≠ (s_.1 : Value).ownBlock ∧ some k_ ≠ (.slice Ao15 t1405.length co15 : Value).ownBlock ∧ some k_ ≠ (.slice Ao22 t1414.length co22 : Value).ownBlock ∧ some k_ ≠ (.slice Ao34 t1428.length co34 : Value).ownBlock ∧ some k_ ≠ (.slice Ao46 t1435.length co46 : Value).ownBlock ∧ some k_ ≠ (.slice Ao56 t1441.length co56 : Value).ownBlock) (.slice Ao115 t1451.length co115) t1451) ∧ (Kd.R (Kd.int .i64) 3 w' w.heap.size (fun k_ => some k_ ≠ (.slice Ao115 t1451.length co115 : Value).ownBlock ∧ some k_ ≠ (.slice Ao15 t1405.length co15 : Value).ownBlock ∧ some k_ ≠ (.slice Ao22 t1414.length co22 : Value).ownBlock ∧ some k_ ≠ (.slice Ao34 t1428.length co34 : Value).ownBlock ∧ some k_ ≠ (.slice Ao46 t1435.length co46 : Value).ownBlock ∧ some k_ ≠ (.slice Ao56 t1441.length co56 : Value).ownBlock) s_.1 t1459) ∧ (Kd.R (Kd.int .i64) 3 w' w.heap.size (fun k_ => some k_ ≠ (.slice Ao115 t1451.length co115 : Value).ownBlock ∧ some k_ ≠ (s_.1 : Value).ownBlock ∧ some k_ ≠ (.slice Ao22 t1414.length co22 : Value).ownBlock ∧ some k_ ≠ (.slice Ao34 t1428.length co34 : Value).ownBlock ∧ some k_ ≠ (.slice Ao46 t1435.length co46 : Value).ownBlock ∧ some k_ ≠ (.slice Ao56 t1441.length co56 : Value).ownBlock) (.slice Ao15 t1405.length co15) t1405) ∧ (Kd.R (Kd.int .i64) 3 w' w.heap.size (fun k_ => some k_ ≠ (.slice Ao115 t1451.length co115 : Value).ownBlock ∧ some k_ ≠ (s_.1 : Value).ownBlock ∧ some k_ ≠ (.slice Ao15 t1405.length co15 : Value).ownBlock ∧ some k_ ≠ (.slice Ao34 t1428.length co34 : Value).ownBlock ∧ some k_ ≠ (.slice Ao46 t1435.length co46 : Value).ownBlock ∧ some k_ ≠ (.slice Ao56 t1441.length co56 : Value).ownBlock) (.slice Ao22 t1414.length co22) t1414) ∧ (Kd.R (Kd.int .i64) 3 w' w.heap.size (fun k_ => some k_ ≠ (.slice Ao115 t1451.length co115 : Value).ownBlock ∧ some k_ ≠ (s_.1 : Value).ownBlock ∧ some k_ ≠ (.slice Ao15 t1405.length co15 : Value).ownBlock ∧ some k_ ≠ (.slice Ao22 t1414.length co22 : Value).ownBlock ∧ some k_ ≠ (.slice Ao46 t1435.length co46 : Value).ownBlock ∧ some k_ ≠ (.slice Ao56 t1441.length co56 : Value).ownBlock) (.slice Ao34 t1428.length co34) t1428) ∧ (Kd.R (Kd.int .i64) 3 w' w.heap.size (fun k_ => some k_ ≠ (.slice Ao115 t1451.length co115 : Value).ownBlock ∧ some k_ ≠ (s_.1 : Value).ownBlock ∧ some k_ ≠ (.slice Ao15 t1405.length co15 : Value).ownBlock ∧ some k_ ≠ (.slice Ao22 t1414.length co22 : Value).ownBlock ∧ some k_ ≠ (.slice Ao34 t1428.length co34 : Value).ownBlock ∧ some k_ ≠ (.slice Ao56 t1441.length co56 : Value).ownBlock) (.slice Ao46 t1435.length co46) t1435) ∧ (Kd.R (Kd.int .i64) 3 w' w.heap.size (fun k_ => some k_ ≠ (.slice Ao115 t1451.length co115 : Value).ownBlock ∧ some k_ ≠ (s_.1 : Value).ownBlock ∧ some k_ ≠ (.slice Ao15 t1405.length co15 : Value).ownBlock ∧ some k_ ≠ (.slice Ao22 t1414.length co22 : Value).ownBlock ∧ some k_ ≠ (.slice Ao34 t1428.length co34 : Value).ownBlock ∧ some k_ ≠ (.slice Ao46 t1435.length co46 : Value).ownBlock) (.slice Ao56 t1441.length co56) t1441) ∧ (w'.heap[gb1408]? = some (.cells #[.int .i64 t1403, .int .i64 t1404, .slice Ao15 t1405.length co15] 26 (0, 0))) ∧ (w'.heap[gb1417]? = some (.cells #[.int .i64 t1412, .int .i64 t1413, .slice Ao22 t1414.length co22] 41 (0, 0))) ∧ (w'.heap[gb1432]? = some (.cells #[.int .i64 t1426, .int .i64 t1427, .slice Ao34 t1428.length co34] 41 (0, 0))) ∧ (w'.heap[gb1438]? = some (.cells #[.int .i64 t1433, .int .i64 t1434, .slice Ao46 t1435.length co46] 41 (0, 0))) ∧ (w'.heap[gb1444]? = some (.cells #[.int .i64 t1439, .int .i64 t1440, .slice Ao56 t1441.length co56] 41 (0, 0))) ∧ (w'.heap[gb1455]? = some (.cells #[.int .i64 t1449, .int .i64 t1450, .slice Ao115 t1451.length co115] 41 (0, 0))) ∧ (w'.heap[s_.2]? = some (.cells #[.int .i64 0, .int .i64 0, .slice none 0 0] 41 (0, 0))) ∧ (w.heap.size ≤ s_.2) ∧ (w.heap.size ≤ s_.2) ∧ (gb1408 ≠ s_.2) ∧ (s_.2 ≠ gb1408) ∧ (gb1417 ≠ s_.2) ∧ (s_.2 ≠ gb1417) ∧ (gb1432 ≠ s_.2) ∧ (s_.2 ≠ gb1432) ∧ (gb1438 ≠ s_.2) ∧ (s_.2 ≠ gb1438) ∧ (gb1444 ≠ s_.2) ∧ (s_.2 ≠ gb1444) ∧ (gb1455 ≠ s_.2) ∧ (s_.2 ≠ gb1455) ∧ (Below w.heap.size w w')) ?_ ?_
     rotate_left
     ·intro hCont
      refine two_ (i := 3) (j := 12) (Ni := some 66) (Nj := some 12) #[true, true, true, true, true, true, true, true, false, false, false, false, false, false, false] #[true, true, true, false, true, true, true, true, false, false, false, false, true, false, false] rfl rfl rfl rfl (two_of HT_.out (by kernel_rfl)) (by decide) (by decide) (fun K hK => ?_) (fun K hK => ?_)
      ·skip
       refine goes_ Try.func64 (by kernel_rfl) rfl #[.agg #[.int .i64 t1403, .int .i64 t1404, .slice Ao15 t1405.length co15], .int .i64 t1448] (by rfl) rfl rfl sL_ ?_
       with_reducible refine (impl_LevelOf.calls t1403 t1404 _ _ t1405 t1448 t1456 _ ?side1 ?side2 A96.out).mono ?_
       (case side1 => repeat (first | exact (Kd.R_reads' HO_1409002.out).2.2 | (with_reducible refine Kd.C_alloc ?_ _) | (with_reducible refine Kd.C_drewN ?_ _) | (with_reducible refine Kd.C_drew ?_)))
       (case side2 => exact (Kd.R_reads' HO_1409002.out).2.1)
       rintro e w118 ⟨rfl, hb⟩
       refine ⟨_, rfl, ?_⟩
       have n0_ := Aside0.mk (Kd.R_below (sR_ HO_1409002.out) hb)
       have n1_ := Aside0.mk (Kd.R_below (sR_ HO_1418002.out) hb)
       have n2_ := Aside0.mk (Kd.R_below (sR_ HO_1433002.out) hb)
       have n3_ := Aside0.mk (Kd.R_below (sR_ HO_1439002.out) hb)
       have n4_ := Aside0.mk (Kd.R_below (sR_ HO_1445002.out) hb)
       have n5_ := Aside0.mk (Kd.R_below (sR_ HO1453.out) hb)
       have n6_ := Aside0.mk (blk_below (sB_ BK1408.out) hb)
       have n7_ := Aside0.mk (blk_below (sB_ BK1417.out) hb)
       have n8_ := Aside0.mk (blk_below (sB_ BK1432.out) hb)
       have n9_ := Aside0.mk (blk_below (sB_ BK1438.out) hb)
       have n10_ := Aside0.mk (blk_below (sB_ BK1444.out) hb)
       have n11_ := Aside0.mk (blk_below (sB_ BK1455.out) hb)
       have n12_ := Aside0.mk (below_step (sW_ HB.out) hb)
       clear HO_1409002 HO_1418002 HO_1433002 HO_1439002 HO_1445002 HO1453 BK1408 BK1417 BK1432 BK1438 BK1444 BK1455 HB; have HO_1409002 := n0_; have HO_1418002 := n1_; have HO_1433002 := n2_; have HO_1439002 := n3_; have HO_1445002 := n4_; have HO1453 := n5_; have BK1408 := n6_; have BK1417 := n7_; have BK1432 := n8_; have BK1438 := n9_; have BK1444 := n10_; have BK1455 := n11_; have HB := n12_; clear n0_ n1_ n2_ n3_ n4_ n5_ n6_ n7_ n8_ n9_ n10_ n11_ n12_
       (try clear hb)
       (try clear hb2)
       (try clear hk)
       (try clear hi)
       refine hK.out _ _ ⟨(blk_cell BK1408.out 0).trans rfl, (blk_cell BK1408.out 1).trans rfl, (blk_cell BK1408.out 2).trans rfl, (blk_cell BK1417.out 0).trans rfl, (blk_cell BK1417.out 1).trans rfl, (blk_cell BK1417.out 2).trans rfl⟩ (fun hHeld => ?_)
       clear hK K
       refine norm_ (a' := ?_) ?_ ?_
       rotate_left
       ·show Act.put _ (some 66) _ = _
        simp only [Act.put, List.setIfInBounds_toArray, List.set_cons_zero, List.set_cons_succ, i64_w, i32_w]
        rfl
       refine two_ (i := 8) (j := 12) (Ni := some 71) (Nj := some 12) #[true, true, true, true, true, true, true, true, true, false, false, false, false, false, false] #[true, true, true, true, true, true, true, true, false, false, false, false, true, false, false] rfl rfl rfl rfl (two_of HT_.out (by kernel_rfl)) (by decide) (by decide) (fun K hK => ?_) (fun K hK => ?_)
       ·skip
        refine goes_ Try.func39 (by kernel_rfl) rfl #[.agg #[.int .i64 t1403, .int .i64 t1404, .slice Ao15 t1405.length co15], .int .i64 t1456, .int .i64 t1412, .int .i64 t1413] (by rfl) rfl rfl sL_ ?_
        with_reducible refine (impl_ScreenLevel.calls t1403 t1404 _ _ t1405 t1456 t1412 t1413 t1457 t1458 t1459 true _ ?side1 ?side2 A97.out).mono ?_
        (case side1 => repeat (first | exact (Kd.R_reads' HO_1409002.out).2.2 | (with_reducible refine Kd.C_alloc ?_ _) | (with_reducible refine Kd.C_drewN ?_ _) | (with_reducible refine Kd.C_drew ?_)))
        (case side2 => exact (Kd.R_reads' HO_1409002.out).2.1)
        rintro e w119 ⟨v1460, rfl, ho0, hb⟩
        refine ⟨_, rfl, ?_⟩
        have n0_ := Aside0.mk (Kd.R_elder' (sR_ HO_1409002.out) (Kd.R_base ho0) hb)
        have n1_ := Aside0.mk (Kd.R_elder' (sR_ HO_1418002.out) (Kd.R_base ho0) hb)
        have n2_ := Aside0.mk (Kd.R_elder' (sR_ HO_1433002.out) (Kd.R_base ho0) hb)
        have n3_ := Aside0.mk (Kd.R_elder' (sR_ HO_1439002.out) (Kd.R_base ho0) hb)
        have n4_ := Aside0.mk (Kd.R_elder' (sR_ HO_1445002.out) (Kd.R_base ho0) hb)
        have n5_ := Aside0.mk (Kd.R_elder' (sR_ HO1453.out) (Kd.R_base ho0) hb)
        have n6_ := Aside0.mk (Kd.R_lower (Kd.R_new' (Kd.R_new' (Kd.R_new' (Kd.R_new' (Kd.R_new' (Kd.R_new' ho0 (Kd.R_lt (sR_ HO_1409002.out))) (Kd.R_lt (sR_ HO_1418002.out))) (Kd.R_lt (sR_ HO_1433002.out))) (Kd.R_lt (sR_ HO_1439002.out))) (Kd.R_lt (sR_ HO_1445002.out))) (Kd.R_lt (sR_ HO1453.out))) (below_size (sW_ HB.out)))
        have n7_ := Aside0.mk (blk_below (sB_ BK1408.out) hb)
        have n8_ := Aside0.mk (blk_below (sB_ BK1417.out) hb)
        have n9_ := Aside0.mk (blk_below (sB_ BK1432.out) hb)
        have n10_ := Aside0.mk (blk_below (sB_ BK1438.out) hb)
        have n11_ := Aside0.mk (blk_below (sB_ BK1444.out) hb)
        have n12_ := Aside0.mk (blk_below (sB_ BK1455.out) hb)
        have n13_ := Aside0.mk (below_step (sW_ HB.out) hb)
        clear HO_1409002 HO_1418002 HO_1433002 HO_1439002 HO_1445002 HO1453 BK1408 BK1417 BK1432 BK1438 BK1444 BK1455 HB; have HO_1409002 := n0_; have HO_1418002 := n1_; have HO_1433002 := n2_; have HO_1439002 := n3_; have HO_1445002 := n4_; have HO1453 := n5_; have HO1461 := n6_; have BK1408 := n7_; have BK1417 := n8_; have BK1432 := n9_; have BK1438 := n10_; have BK1444 := n11_; have BK1455 := n12_; have HB := n13_; clear n0_ n1_ n2_ n3_ n4_ n5_ n6_ n7_ n8_ n9_ n10_ n11_ n12_ n13_
        (try clear hb)
        (try clear hb2)
        (try clear hk)
        (try clear hi)
        (try clear ho0)
        refine hK.out _ _ ⟨(blk_cell BK1408.out 0).trans rfl, (blk_cell BK1408.out 1).trans rfl, (blk_cell BK1408.out 2).trans rfl, (blk_cell BK1417.out 0).trans rfl, (blk_cell BK1417.out 1).trans rfl, (blk_cell BK1417.out 2).trans rfl⟩ (fun hHeld => ?_)
        clear hK K
        refine norm_ (a' := ?_) ?_ ?_
        rotate_left
        ·show Act.put _ (some 71) _ = _
         simp only [Act.put, List.setIfInBounds_toArray, List.set_cons_zero, List.set_cons_succ, i64_w, i32_w]
         rfl
        refine pure_ (i := 9) (N := some 62) (v := ?_) (a' := ?_) #[true, true, true, true, true, true, true, true, true, true, false, false, false, false, false] rfl rfl (any_of HT_.out (by kernel_rfl)) (fun _ _ _ h => h) (Or.inl ⟨by rfl, ?_⟩) ?_ ?_
        rotate_left
        ·intro w'
         go_simp
         with_reducible rfl
        rotate_left
        ·simp only [Act.put, List.setIfInBounds_toArray, List.set_cons_zero, List.set_cons_succ, i64_w, i32_w]
         rfl
        refine pure_ (i := 10) (N := some 72) (v := ?_) (a' := ?_) #[true, true, true, true, true, true, true, true, true, true, true, false, false, false, false] rfl rfl (any_of HT_.out (by kernel_rfl)) (fun _ _ _ h => h) (Or.inl ⟨by rfl, ?_⟩) ?_ ?_
        rotate_left
        ·intro w'
         go_simp
         with_reducible rfl
        rotate_left
        ·simp only [Act.put, List.setIfInBounds_toArray, List.set_cons_zero, List.set_cons_succ, i64_w, i32_w]
         rfl
        refine pure_ (i := 11) (N := some 73) (v := ?_) (a' := ?_) #[true, true, true, true, true, true, true, true, true, true, true, true, false, false, false] rfl rfl (any_of HT_.out (by kernel_rfl)) (fun _ _ _ h => h) (Or.inl ⟨by rfl, ?_⟩) ?_ ?_
        rotate_left
        ·intro w'
         go_simp
         with_reducible rfl
        rotate_left
        ·simp only [Act.put, List.setIfInBounds_toArray, List.set_cons_zero, List.set_cons_succ, i64_w, i32_w]
         rfl
        refine one_ (i := 12) (N := some 12) #[true, true, true, true, true, true, true, true, true, true, true, true, true, false, false] rfl rfl (one_of HT_.out (by kernel_rfl)) (by decide) (fun K hK => ?_)
        refine box_step ?hg (N := 12) ?hd (cs := #[.int .i64 0, .int .i64 0, .slice none 0 0]) (t := 41) ?hr ?_; (case hd => rfl); (case hg => rfl); (case hr => first | (go_simp; done) | (go_simp; rfl))
        intro gb1463 hg w120 hbox hb
        have n0_ := Aside0.mk (Kd.R_below (sR_ HO_1409002.out) hb)
        have n1_ := Aside0.mk (Kd.R_below (sR_ HO_1418002.out) hb)
        have n2_ := Aside0.mk (Kd.R_below (sR_ HO_1433002.out) hb)
        have n3_ := Aside0.mk (Kd.R_below (sR_ HO_1439002.out) hb)
        have n4_ := Aside0.mk (Kd.R_below (sR_ HO_1445002.out) hb)
        have n5_ := Aside0.mk (Kd.R_below (sR_ HO1453.out) hb)
        have n6_ := Aside0.mk (Kd.R_below (sR_ HO1461.out) hb)
        have n7_ := Aside0.mk (blk_below (sB_ BK1408.out) hb)
        have n8_ := Aside0.mk (blk_below (sB_ BK1417.out) hb)
        have n9_ := Aside0.mk (blk_below (sB_ BK1432.out) hb)
        have n10_ := Aside0.mk (blk_below (sB_ BK1438.out) hb)
        have n11_ := Aside0.mk (blk_below (sB_ BK1444.out) hb)
        have n12_ := Aside0.mk (blk_below (sB_ BK1455.out) hb)
        have n13_ := Aside0.mk (below_step (sW_ HB.out) hb)
        have n14_ := Aside0.mk (hbox)
        have n15_ := Aside0.mk ((by rw [hg]; exact (below_size (sW_ HB.out)) : w.heap.size ≤ gb1463))
        have n16_ := n15_
        have n17_ := Aside0.mk (sN_ hg (blk_lt (sB_ BK1408.out)))
        have n18_ := Aside0.mk n17_.out.symm
        have n19_ := Aside0.mk (sN_ hg (blk_lt (sB_ BK1417.out)))
        have n20_ := Aside0.mk n19_.out.symm
        have n21_ := Aside0.mk (sN_ hg (blk_lt (sB_ BK1432.out)))
        have n22_ := Aside0.mk n21_.out.symm
        have n23_ := Aside0.mk (sN_ hg (blk_lt (sB_ BK1438.out)))
        have n24_ := Aside0.mk n23_.out.symm
        have n25_ := Aside0.mk (sN_ hg (blk_lt (sB_ BK1444.out)))
        have n26_ := Aside0.mk n25_.out.symm
        have n27_ := Aside0.mk (sN_ hg (blk_lt (sB_ BK1455.out)))
        have n28_ := Aside0.mk n27_.out.symm
        clear HO_1409002 HO_1418002 HO_1433002 HO_1439002 HO_1445002 HO1453 HO1461 BK1408 BK1417 BK1432 BK1438 BK1444 BK1455 HB; have HO_1409002 := n0_; have HO_1418002 := n1_; have HO_1433002 := n2_; have HO_1439002 := n3_; have HO_1445002 := n4_; have HO1453 := n5_; have HO1461 := n6_; have BK1408 := n7_; have BK1417 := n8_; have BK1432 := n9_; have BK1438 := n10_; have BK1444 := n11_; have BK1455 := n12_; have HB := n13_; have BK1463 := n14_; have GW1463 := n15_; have GE1463 := n16_; have NB1408_1463 := n17_; have NB1463_1408 := n18_; have NB1417_1463 := n19_; have NB1463_1417 := n20_; have NB1432_1463 := n21_; have NB1463_1432 := n22_; have NB1438_1463 := n23_; have NB1463_1438 := n24_; have NB1444_1463 := n25_; have NB1463_1444 := n26_; have NB1455_1463 := n27_; have NB1463_1455 := n28_; clear n0_ n1_ n2_ n3_ n4_ n5_ n6_ n7_ n8_ n9_ n10_ n11_ n12_ n13_ n14_ n15_ n16_ n17_ n18_ n19_ n20_ n21_ n22_ n23_ n24_ n25_ n26_ n27_ n28_ hb hbox hg
        refine hK.out _ _ ⟨(blk_cell BK1408.out 0).trans rfl, (blk_cell BK1408.out 1).trans rfl, (blk_cell BK1408.out 2).trans rfl, (blk_cell BK1417.out 0).trans rfl, (blk_cell BK1417.out 1).trans rfl, (blk_cell BK1417.out 2).trans rfl⟩ (fun hHeld => ?_)
        clear hK K
        refine norm_ (a' := ?_) ?_ ?_
        rotate_left
        ·show Act.put _ (some 12) _ = _
         simp only [Act.put, List.setIfInBounds_toArray, List.set_cons_zero, List.set_cons_succ, i64_w, i32_w]
         rfl
        exact norm_ sP_ (hCont (v1460, gb1463) _ ⟨hHeld, (by (with_reducible repeat (first | apply Kd.R_alloc | apply Kd.R_drewN | apply Kd.R_drew)); exact Kd.R_mono HO1453.out (fun _ hk => ⟨hk.2, ⟨hk.1.1, ⟨hk.1.2.1, ⟨hk.1.2.2.1, ⟨hk.1.2.2.2.1, hk.1.2.2.2.2⟩⟩⟩⟩⟩)), (by (with_reducible repeat (first | apply Kd.R_alloc | apply Kd.R_drewN | apply Kd.R_drew)); exact Kd.R_mono HO1461.out (fun _ hk => ⟨hk.2, ⟨hk.1.1.1.1.1.2, ⟨hk.1.1.1.1.2, ⟨hk.1.1.1.2, ⟨hk.1.1.2, hk.1.2⟩⟩⟩⟩⟩)), (by (with_reducible repeat (first | apply Kd.R_alloc | apply Kd.R_drewN | apply Kd.R_drew)); exact Kd.R_mono HO_1409002.out (fun _ hk => ⟨hk.1.2.2.2.2, ⟨hk.2, ⟨hk.1.1, ⟨hk.1.2.1, ⟨hk.1.2.2.1, hk.1.2.2.2.1⟩⟩⟩⟩⟩)), (by (with_reducible repeat (first | apply Kd.R_alloc | apply Kd.R_drewN | apply Kd.R_drew)); exact Kd.R_mono HO_1418002.out (fun _ hk => ⟨hk.1.2.2.2.2, ⟨hk.2, ⟨hk.1.1, ⟨hk.1.2.1, ⟨hk.1.2.2.1, hk.1.2.2.2.1⟩⟩⟩⟩⟩)), (by (with_reducible repeat (first | apply Kd.R_alloc | apply Kd.R_drewN | apply Kd.R_drew)); exact Kd.R_mono HO_1433002.out (fun _ hk => ⟨hk.1.2.2.2.2, ⟨hk.2, ⟨hk.1.1, ⟨hk.1.2.1, ⟨hk.1.2.2.1, hk.1.2.2.2.1⟩⟩⟩⟩⟩)), (by (with_reducible repeat (first | apply Kd.R_alloc | apply Kd.R_drewN | apply Kd.R_drew)); exact Kd.R_mono HO_1439002.out (fun _ hk => ⟨hk.1.2.2.2.2, ⟨hk.2, ⟨hk.1.1, ⟨hk.1.2.1, ⟨hk.1.2.2.1, hk.1.2.2.2.1⟩⟩⟩⟩⟩)), (by (with_reducible repeat (first | apply Kd.R_alloc | apply Kd.R_drewN | apply Kd.R_drew)); exact Kd.R_mono HO_1445002.out (fun _ hk => ⟨hk.1.2.2.2.2, ⟨hk.2, ⟨hk.1.1, ⟨hk.1.2.1, ⟨hk.1.2.2.1, hk.1.2.2.2.1⟩⟩⟩⟩⟩)), (sB_ BK1408.out), (sB_ BK1417.out), (sB_ BK1432.out), (sB_ BK1438.out), (sB_ BK1444.out), (sB_ BK1455.out), (sB_ BK1463.out), GW1463.out, GE1463.out, NB1408_1463.out, NB1463_1408.out, NB1417_1463.out, NB1463_1417.out, NB1432_1463.out, NB1463_1432.out, NB1438_1463.out, NB1463_1438.out, NB1444_1463.out, NB1463_1444.out, NB1455_1463.out, NB1463_1455.out, (sW_ HB.out)⟩)
       skip
       refine box_step ?hg (N := 12) ?hd (cs := #[.int .i64 0, .int .i64 0, .slice none 0 0]) (t := 41) ?hr ?_; (case hd => rfl); (case hg => rfl); (case hr => first | (go_simp; done) | (go_simp; rfl))
       intro gb1463 hg w119 hbox hb
       have n0_ := Aside0.mk (Kd.R_below (sR_ HO_1409002.out) hb)
       have n1_ := Aside0.mk (Kd.R_below (sR_ HO_1418002.out) hb)
       have n2_ := Aside0.mk (Kd.R_below (sR_ HO_1433002.out) hb)
       have n3_ := Aside0.mk (Kd.R_below (sR_ HO_1439002.out) hb)
       have n4_ := Aside0.mk (Kd.R_below (sR_ HO_1445002.out) hb)
       have n5_ := Aside0.mk (Kd.R_below (sR_ HO1453.out) hb)
       have n6_ := Aside0.mk (blk_below (sB_ BK1408.out) hb)
       have n7_ := Aside0.mk (blk_below (sB_ BK1417.out) hb)
       have n8_ := Aside0.mk (blk_below (sB_ BK1432.out) hb)
       have n9_ := Aside0.mk (blk_below (sB_ BK1438.out) hb)
       have n10_ := Aside0.mk (blk_below (sB_ BK1444.out) hb)
       have n11_ := Aside0.mk (blk_below (sB_ BK1455.out) hb)
       have n12_ := Aside0.mk (below_step (sW_ HB.out) hb)
       have n13_ := Aside0.mk (hbox)
       have n14_ := Aside0.mk ((by rw [hg]; exact (below_size (sW_ HB.out)) : w.heap.size ≤ gb1463))
       have n15_ := n14_
       have n16_ := Aside0.mk (sN_ hg (blk_lt (sB_ BK1408.out)))
       have n17_ := Aside0.mk n16_.out.symm
       have n18_ := Aside0.mk (sN_ hg (blk_lt (sB_ BK1417.out)))
       have n19_ := Aside0.mk n18_.out.symm
       have n20_ := Aside0.mk (sN_ hg (blk_lt (sB_ BK1432.out)))
       have n21_ := Aside0.mk n20_.out.symm
       have n22_ := Aside0.mk (sN_ hg (blk_lt (sB_ BK1438.out)))
       have n23_ := Aside0.mk n22_.out.symm
       have n24_ := Aside0.mk (sN_ hg (blk_lt (sB_ BK1444.out)))
       have n25_ := Aside0.mk n24_.out.symm
       have n26_ := Aside0.mk (sN_ hg (blk_lt (sB_ BK1455.out)))
       have n27_ := Aside0.mk n26_.out.symm
       clear HO_1409002 HO_1418002 HO_1433002 HO_1439002 HO_1445002 HO1453 BK1408 BK1417 BK1432 BK1438 BK1444 BK1455 HB; have HO_1409002 := n0_; have HO_1418002 := n1_; have HO_1433002 := n2_; have HO_1439002 := n3_; have HO_1445002 := n4_; have HO1453 := n5_; have BK1408 := n6_; have BK1417 := n7_; have BK1432 := n8_; have BK1438 := n9_; have BK1444 := n10_; have BK1455 := n11_; have HB := n12_; have BK1463 := n13_; have GW1463 := n14_; have GE1463 := n15_; have NB1408_1463 := n16_; have NB1463_1408 := n17_; have NB1417_1463 := n18_; have NB1463_1417 := n19_; have NB1432_1463 := n20_; have NB1463_1432 := n21_; have NB1438_1463 := n22_; have NB1463_1438 := n23_; have NB1444_1463 := n24_; have NB1463_1444 := n25_; have NB1455_1463 := n26_; have NB1463_1455 := n27_; clear n0_ n1_ n2_ n3_ n4_ n5_ n6_ n7_ n8_ n9_ n10_ n11_ n12_ n13_ n14_ n15_ n16_ n17_ n18_ n19_ n20_ n21_ n22_ n23_ n24_ n25_ n26_ n27_ hb hbox hg
       refine hK.out _ _ ⟨(blk_cell BK1408.out 0).trans rfl, (blk_cell BK1408.out 1).trans rfl, (blk_cell BK1408.out 2).trans rfl, (blk_cell BK1417.out 0).trans rfl, (blk_cell BK1417.out 1).trans rfl, (blk_cell BK1417.out 2).trans rfl⟩ (fun hHeld => ?_)
       clear hK K
       refine norm_ (a' := ?_) ?_ ?_
       rotate_left
       ·show Act.put _ (some 12) _ = _
        simp only [Act.put, List.setIfInBounds_toArray, List.set_cons_zero, List.set_cons_succ, i64_w, i32_w]
        rfl
       refine one_ (i := 8) (N := some 71) #[true, true, true, true, true, true, true, true, true, false, false, false, true, false, false] rfl rfl (one_of HT_.out (by kernel_rfl)) (by decide) (fun K hK => ?_)
       refine goes_ Try.func39 (by kernel_rfl) rfl #[.agg #[.int .i64 t1403, .int .i64 t1404, .slice Ao15 t1405.length co15], .int .i64 t1456, .int .i64 t1412, .int .i64 t1413] (by rfl) rfl rfl sL_ ?_
       with_reducible refine (impl_ScreenLevel.calls t1403 t1404 _ _ t1405 t1456 t1412 t1413 t1457 t1458 t1459 true _ ?side1 ?side2 A97.out).mono ?_
       (case side1 => repeat (first | exact (Kd.R_reads' HO_1409002.out).2.2 | (with_reducible refine Kd.C_alloc ?_ _) | (with_reducible refine Kd.C_drewN ?_ _) | (with_reducible refine Kd.C_drew ?_)))
       (case side2 => exact (Kd.R_reads' HO_1409002.out).2.1)
       rintro e w120 ⟨v1460, rfl, ho0, hb⟩
       refine ⟨_, rfl, ?_⟩
       have n0_ := Aside0.mk (Kd.R_elder' (sR_ HO_1409002.out) (Kd.R_base ho0) hb)
       have n1_ := Aside0.mk (Kd.R_elder' (sR_ HO_1418002.out) (Kd.R_base ho0) hb)
       have n2_ := Aside0.mk (Kd.R_elder' (sR_ HO_1433002.out) (Kd.R_base ho0) hb)
       have n3_ := Aside0.mk (Kd.R_elder' (sR_ HO_1439002.out) (Kd.R_base ho0) hb)
       have n4_ := Aside0.mk (Kd.R_elder' (sR_ HO_1445002.out) (Kd.R_base ho0) hb)
       have n5_ := Aside0.mk (Kd.R_elder' (sR_ HO1453.out) (Kd.R_base ho0) hb)
       have n6_ := Aside0.mk (Kd.R_lower (Kd.R_new' (Kd.R_new' (Kd.R_new' (Kd.R_new' (Kd.R_new' (Kd.R_new' ho0 (Kd.R_lt (sR_ HO_1409002.out))) (Kd.R_lt (sR_ HO_1418002.out))) (Kd.R_lt (sR_ HO_1433002.out))) (Kd.R_lt (sR_ HO_1439002.out))) (Kd.R_lt (sR_ HO_1445002.out))) (Kd.R_lt (sR_ HO1453.out))) (below_size (sW_ HB.out)))
       have n7_ := Aside0.mk (blk_below (sB_ BK1408.out) hb)
       have n8_ := Aside0.mk (blk_below (sB_ BK1417.out) hb)
       have n9_ := Aside0.mk (blk_below (sB_ BK1432.out) hb)
       have n10_ := Aside0.mk (blk_below (sB_ BK1438.out) hb)
       have n11_ := Aside0.mk (blk_below (sB_ BK1444.out) hb)
       have n12_ := Aside0.mk (blk_below (sB_ BK1455.out) hb)
       have n13_ := Aside0.mk (blk_below (sB_ BK1463.out) hb)
       have n14_ := Aside0.mk (below_step (sW_ HB.out) hb)
       clear HO_1409002 HO_1418002 HO_1433002 HO_1439002 HO_1445002 HO1453 BK1408 BK1417 BK1432 BK1438 BK1444 BK1455 BK1463 HB; have HO_1409002 := n0_; have HO_1418002 := n1_; have HO_1433002 := n2_; have HO_1439002 := n3_; have HO_1445002 := n4_; have HO1453 := n5_; have HO1461 := n6_; have BK1408 := n7_; have BK1417 := n8_; have BK1432 := n9_; have BK1438 := n10_; have BK1444 := n11_; have BK1455 := n12_; have BK1463 := n13_; have HB := n14_; clear n0_ n1_ n2_ n3_ n4_ n5_ n6_ n7_ n8_ n9_ n10_ n11_ n12_ n13_ n14_
       (try clear hb)
       (try clear hb2)
       (try clear hk)
       (try clear hi)
       (try clear ho0)
       refine hK.out _ _ ⟨(blk_cell BK1408.out 0).trans rfl, (blk_cell BK1408.out 1).trans rfl, (blk_cell BK1408.out 2).trans rfl, (blk_cell BK1417.out 0).trans rfl, (blk_cell BK1417.out 1).trans rfl, (blk_cell BK1417.out 2).trans rfl⟩ (fun hHeld => ?_)
       clear hK K
       refine norm_ (a' := ?_) ?_ ?_
       rotate_left
       ·show Act.put _ (some 71) _ = _
        simp only [Act.put, List.setIfInBounds_toArray, List.set_cons_zero, List.set_cons_succ, i64_w, i32_w]
        rfl
       refine pure_ (i := 9) (N := some 62) (v := ?_) (a' := ?_) #[true, true, true, true, true, true, true, true, true, true, false, false, true, false, false] rfl rfl (any_of HT_.out (by kernel_rfl)) (fun _ _ _ h => h) (Or.inl ⟨by rfl, ?_⟩) ?_ ?_
       rotate_left
       ·intro w'
        go_simp
        with_reducible rfl
       rotate_left
       ·simp only [Act.put, List.setIfInBounds_toArray, List.set_cons_zero, List.set_cons_succ, i64_w, i32_w]
        rfl
       refine pure_ (i := 10) (N := some 72) (v := ?_) (a' := ?_) #[true, true, true, true, true, true, true, true, true, true, true, false, true, false, false] rfl rfl (any_of HT_.out (by kernel_rfl)) (fun _ _ _ h => h) (Or.inl ⟨by rfl, ?_⟩) ?_ ?_
       rotate_left
       ·intro w'
        go_simp
        with_reducible rfl
       rotate_left
       ·simp only [Act.put, List.setIfInBounds_toArray, List.set_cons_zero, List.set_cons_succ, i64_w, i32_w]
        rfl
       refine pure_ (i := 11) (N := some 73) (v := ?_) (a' := ?_) #[true, true, true, true, true, true, true, true, true, true, true, true, true, false, false] rfl rfl (any_of HT_.out (by kernel_rfl)) (fun _ _ _ h => h) (Or.inl ⟨by rfl, ?_⟩) ?_ ?_
       rotate_left
       ·intro w'
        go_simp
        with_reducible rfl
       rotate_left
       ·simp only [Act.put, List.setIfInBounds_toArray, List.set_cons_zero, List.set_cons_succ, i64_w, i32_w]
        rfl
       exact norm_ sP_ (hCont (v1460, gb1463) _ ⟨hHeld, (by (with_reducible repeat (first | apply Kd.R_alloc | apply Kd.R_drewN | apply Kd.R_drew)); exact Kd.R_mono HO1453.out (fun _ hk => ⟨hk.2, ⟨hk.1.1, ⟨hk.1.2.1, ⟨hk.1.2.2.1, ⟨hk.1.2.2.2.1, hk.1.2.2.2.2⟩⟩⟩⟩⟩)), (by (with_reducible repeat (first | apply Kd.R_alloc | apply Kd.R_drewN | apply Kd.R_drew)); exact Kd.R_mono HO1461.out (fun _ hk => ⟨hk.2, ⟨hk.1.1.1.1.1.2, ⟨hk.1.1.1.1.2, ⟨hk.1.1.1.2, ⟨hk.1.1.2, hk.1.2⟩⟩⟩⟩⟩)), (by (with_reducible repeat (first | apply Kd.R_alloc | apply Kd.R_drewN | apply Kd.R_drew)); exact Kd.R_mono HO_1409002.out (fun _ hk => ⟨hk.1.2.2.2.2, ⟨hk.2, ⟨hk.1.1, ⟨hk.1.2.1, ⟨hk.1.2.2.1, hk.1.2.2.2.1⟩⟩⟩⟩⟩)), (by (with_reducible repeat (first | apply Kd.R_alloc | apply Kd.R_drewN | apply Kd.R_drew)); exact Kd.R_mono HO_1418002.out (fun _ hk => ⟨hk.1.2.2.2.2, ⟨hk.2, ⟨hk.1.1, ⟨hk.1.2.1, ⟨hk.1.2.2.1, hk.1.2.2.2.1⟩⟩⟩⟩⟩)), (by (with_reducible repeat (first | apply Kd.R_alloc | apply Kd.R_drewN | apply Kd.R_drew)); exact Kd.R_mono HO_1433002.out (fun _ hk => ⟨hk.1.2.2.2.2, ⟨hk.2, ⟨hk.1.1, ⟨hk.1.2.1, ⟨hk.1.2.2.1, hk.1.2.2.2.1⟩⟩⟩⟩⟩)), (by (with_reducible repeat (first | apply Kd.R_alloc | apply Kd.R_drewN | apply Kd.R_drew)); exact Kd.R_mono HO_1439002.out (fun _ hk => ⟨hk.1.2.2.2.2, ⟨hk.2, ⟨hk.1.1, ⟨hk.1.2.1, ⟨hk.1.2.2.1, hk.1.2.2.2.1⟩⟩⟩⟩⟩)), (by (with_reducible repeat (first | apply Kd.R_alloc | apply Kd.R_drewN | apply Kd.R_drew)); exact Kd.R_mono HO_1445002.out (fun _ hk => ⟨hk.1.2.2.2.2, ⟨hk.2, ⟨hk.1.1, ⟨hk.1.2.1, ⟨hk.1.2.2.1, hk.1.2.2.2.1⟩⟩⟩⟩⟩)), (sB_ BK1408.out), (sB_ BK1417.out), (sB_ BK1432.out), (sB_ BK1438.out), (sB_ BK1444.out), (sB_ BK1455.out), (sB_ BK1463.out), GW1463.out, GE1463.out, NB1408_1463.out, NB1463_1408.out, NB1417_1463.out, NB1463_1417.out, NB1432_1463.out, NB1463_1432.out, NB1438_1463.out, NB1463_1438.out, NB1444_1463.out, NB1463_1444.out, NB1455_1463.out, NB1463_1455.out, (sW_ HB.out)⟩)
      skip
      refine box_step ?hg (N := 12) ?hd (cs := #[.int .i64 0, .int .i64 0, .slice none 0 0]) (t := 41) ?hr ?_; (case hd => rfl); (case hg => rfl); (case hr => first | (go_simp; done) | (go_simp; rfl))
      intro gb1463 hg w118 hbox hb
      have n0_ := Aside0.mk (Kd.R_below (sR_ HO_1409002.out) hb)
      have n1_ := Aside0.mk (Kd.R_below (sR_ HO_1418002.out) hb)
      have n2_ := Aside0.mk (Kd.R_below (sR_ HO_1433002.out) hb)
      have n3_ := Aside0.mk (Kd.R_below (sR_ HO_1439002.out) hb)
      have n4_ := Aside0.mk (Kd.R_below (sR_ HO_1445002.out) hb)
      have n5_ := Aside0.mk (Kd.R_below (sR_ HO1453.out) hb)
      have n6_ := Aside0.mk (blk_below (sB_ BK1408.out) hb)
      have n7_ := Aside0.mk (blk_below (sB_ BK1417.out) hb)
      have n8_ := Aside0.mk (blk_below (sB_ BK1432.out) hb)
      have n9_ := Aside0.mk (blk_below (sB_ BK1438.out) hb)
      have n10_ := Aside0.mk (blk_below (sB_ BK1444.out) hb)
      have n11_ := Aside0.mk (blk_below (sB_ BK1455.out) hb)
      have n12_ := Aside0.mk (below_step (sW_ HB.out) hb)
      have n13_ := Aside0.mk (hbox)
      have n14_ := Aside0.mk ((by rw [hg]; exact (below_size (sW_ HB.out)) : w.heap.size ≤ gb1463))
      have n15_ := n14_
      have n16_ := Aside0.mk (sN_ hg (blk_lt (sB_ BK1408.out)))
      have n17_ := Aside0.mk n16_.out.symm
      have n18_ := Aside0.mk (sN_ hg (blk_lt (sB_ BK1417.out)))
      have n19_ := Aside0.mk n18_.out.symm
      have n20_ := Aside0.mk (sN_ hg (blk_lt (sB_ BK1432.out)))
      have n21_ := Aside0.mk n20_.out.symm
      have n22_ := Aside0.mk (sN_ hg (blk_lt (sB_ BK1438.out)))
      have n23_ := Aside0.mk n22_.out.symm
      have n24_ := Aside0.mk (sN_ hg (blk_lt (sB_ BK1444.out)))
      have n25_ := Aside0.mk n24_.out.symm
      have n26_ := Aside0.mk (sN_ hg (blk_lt (sB_ BK1455.out)))
      have n27_ := Aside0.mk n26_.out.symm
      clear HO_1409002 HO_1418002 HO_1433002 HO_1439002 HO_1445002 HO1453 BK1408 BK1417 BK1432 BK1438 BK1444 BK1455 HB; have HO_1409002 := n0_; have HO_1418002 := n1_; have HO_1433002 := n2_; have HO_1439002 := n3_; have HO_1445002 := n4_; have HO1453 := n5_; have BK1408 := n6_; have BK1417 := n7_; have BK1432 := n8_; have BK1438 := n9_; have BK1444 := n10_; have BK1455 := n11_; have HB := n12_; have BK1463 := n13_; have GW1463 := n14_; have GE1463 := n15_; have NB1408_1463 := n16_; have NB1463_1408 := n17_; have NB1417_1463 := n18_; have NB1463_1417 := n19_; have NB1432_1463 := n20_; have NB1463_1432 := n21_; have NB1438_1463 := n22_; have NB1463_1438 := n23_; have NB1444_1463 := n24_; have NB1463_1444 := n25_; have NB1455_1463 := n26_; have NB1463_1455 := n27_; clear n0_ n1_ n2_ n3_ n4_ n5_ n6_ n7_ n8_ n9_ n10_ n11_ n12_ n13_ n14_ n15_ n16_ n17_ n18_ n19_ n20_ n21_ n22_ n23_ n24_ n25_ n26_ n27_ hb hbox hg
      refine hK.out _ _ ⟨(blk_cell BK1408.out 0).trans rfl, (blk_cell BK1408.out 1).trans rfl, (blk_cell BK1408.out 2).trans rfl, (blk_cell BK1417.out 0).trans rfl, (blk_cell BK1417.out 1).trans rfl, (blk_cell BK1417.out 2).trans rfl⟩ (fun hHeld => ?_)
      clear hK K
      refine norm_ (a' := ?_) ?_ ?_
      rotate_left
      ·show Act.put _ (some 12) _ = _
       simp only [Act.put, List.setIfInBounds_toArray, List.set_cons_zero, List.set_cons_succ, i64_w, i32_w]
       rfl
      refine one_ (i := 3) (N := some 66) #[true, true, true, true, true, true, true, true, false, false, false, false, true, false, false] rfl rfl (one_of HT_.out (by kernel_rfl)) (by decide) (fun K hK => ?_)
      refine goes_ Try.func64 (by kernel_rfl) rfl #[.agg #[.int .i64 t1403, .int .i64 t1404, .slice Ao15 t1405.length co15], .int .i64 t1448] (by rfl) rfl rfl sL_ ?_
      with_reducible refine (impl_LevelOf.calls t1403 t1404 _ _ t1405 t1448 t1456 _ ?side1 ?side2 A96.out).mono ?_
      (case side1 => repeat (first | exact (Kd.R_reads' HO_1409002.out).2.2 | (with_reducible refine Kd.C_alloc ?_ _) | (with_reducible refine Kd.C_drewN ?_ _) | (with_reducible refine Kd.C_drew ?_)))
      (case side2 => exact (Kd.R_reads' HO_1409002.out).2.1)
      rintro e w119 ⟨rfl, hb⟩
      refine ⟨_, rfl, ?_⟩
      have n0_ := Aside0.mk (Kd.R_below (sR_ HO_1409002.out) hb)
      have n1_ := Aside0.mk (Kd.R_below (sR_ HO_1418002.out) hb)
      have n2_ := Aside0.mk (Kd.R_below (sR_ HO_1433002.out) hb)
      have n3_ := Aside0.mk (Kd.R_below (sR_ HO_1439002.out) hb)
      have n4_ := Aside0.mk (Kd.R_below (sR_ HO_1445002.out) hb)
      have n5_ := Aside0.mk (Kd.R_below (sR_ HO1453.out) hb)
      have n6_ := Aside0.mk (blk_below (sB_ BK1408.out) hb)
      have n7_ := Aside0.mk (blk_below (sB_ BK1417.out) hb)
      have n8_ := Aside0.mk (blk_below (sB_ BK1432.out) hb)
      have n9_ := Aside0.mk (blk_below (sB_ BK1438.out) hb)
      have n10_ := Aside0.mk (blk_below (sB_ BK1444.out) hb)
      have n11_ := Aside0.mk (blk_below (sB_ BK1455.out) hb)
      have n12_ := Aside0.mk (blk_below (sB_ BK1463.out) hb)
      have n13_ := Aside0.mk (below_step (sW_ HB.out) hb)
      clear HO_1409002 HO_1418002 HO_1433002 HO_1439002 HO_1445002 HO1453 BK1408 BK1417 BK1432 BK1438 BK1444 BK1455 BK1463 HB; have HO_1409002 := n0_; have HO_1418002 := n1_; have HO_1433002 := n2_; have HO_1439002 := n3_; have HO_1445002 := n4_; have HO1453 := n5_; have BK1408 := n6_; have BK1417 := n7_; have BK1432 := n8_; have BK1438 := n9_; have BK1444 := n10_; have BK1455 := n11_; have BK1463 := n12_; have HB := n13_; clear n0_ n1_ n2_ n3_ n4_ n5_ n6_ n7_ n8_ n9_ n10_ n11_ n12_ n13_
      (try clear hb)
      (try clear hb2)
      (try clear hk)
      (try clear hi)
      refine hK.out _ _ ⟨(blk_cell BK1408.out 0).trans rfl, (blk_cell BK1408.out 1).trans rfl, (blk_cell BK1408.out 2).trans rfl, (blk_cell BK1417.out 0).trans rfl, (blk_cell BK1417.out 1).trans rfl, (blk_cell BK1417.out 2).trans rfl⟩ (fun hHeld => ?_)
      clear hK K
      refine norm_ (a' := ?_) ?_ ?_
      rotate_left
      ·show Act.put _ (some 66) _ = _
       simp only [Act.put, List.setIfInBounds_toArray, List.set_cons_zero, List.set_cons_succ, i64_w, i32_w]
       rfl
      refine one_ (i := 8) (N := some 71) #[true, true, true, true, true, true, true, true, true, false, false, false, true, false, false] rfl rfl (one_of HT_.out (by kernel_rfl)) (by decide) (fun K hK => ?_)
      refine goes_ Try.func39 (by kernel_rfl) rfl #[.agg #[.int .i64 t1403, .int .i64 t1404, .slice Ao15 t1405.length co15], .int .i64 t1456, .int .i64 t1412, .int .i64 t1413] (by rfl) rfl rfl sL_ ?_
      with_reducible refine (impl_ScreenLevel.calls t1403 t1404 _ _ t1405 t1456 t1412 t1413 t1457 t1458 t1459 true _ ?side1 ?side2 A97.out).mono ?_
      (case side1 => repeat (first | exact (Kd.R_reads' HO_1409002.out).2.2 | (with_reducible refine Kd.C_alloc ?_ _) | (with_reducible refine Kd.C_drewN ?_ _) | (with_reducible refine Kd.C_drew ?_)))
      (case side2 => exact (Kd.R_reads' HO_1409002.out).2.1)
      rintro e w120 ⟨v1460, rfl, ho0, hb⟩
      refine ⟨_, rfl, ?_⟩
      have n0_ := Aside0.mk (Kd.R_elder' (sR_ HO_1409002.out) (Kd.R_base ho0) hb)
      have n1_ := Aside0.mk (Kd.R_elder' (sR_ HO_1418002.out) (Kd.R_base ho0) hb)
      have n2_ := Aside0.mk (Kd.R_elder' (sR_ HO_1433002.out) (Kd.R_base ho0) hb)
      have n3_ := Aside0.mk (Kd.R_elder' (sR_ HO_1439002.out) (Kd.R_base ho0) hb)
      have n4_ := Aside0.mk (Kd.R_elder' (sR_ HO_1445002.out) (Kd.R_base ho0) hb)
      have n5_ := Aside0.mk (Kd.R_elder' (sR_ HO1453.out) (Kd.R_base ho0) hb)
      have n6_ := Aside0.mk (Kd.R_lower (Kd.R_new' (Kd.R_new' (Kd.R_new' (Kd.R_new' (Kd.R_new' (Kd.R_new' ho0 (Kd.R_lt (sR_ HO_1409002.out))) (Kd.R_lt (sR_ HO_1418002.out))) (Kd.R_lt (sR_ HO_1433002.out))) (Kd.R_lt (sR_ HO_1439002.out))) (Kd.R_lt (sR_ HO_1445002.out))) (Kd.R_lt (sR_ HO1453.out))) (below_size (sW_ HB.out)))
      have n7_ := Aside0.mk (blk_below (sB_ BK1408.out) hb)
      have n8_ := Aside0.mk (blk_below (sB_ BK1417.out) hb)
      have n9_ := Aside0.mk (blk_below (sB_ BK1432.out) hb)
      have n10_ := Aside0.mk (blk_below (sB_ BK1438.out) hb)
      have n11_ := Aside0.mk (blk_below (sB_ BK1444.out) hb)
      have n12_ := Aside0.mk (blk_below (sB_ BK1455.out) hb)
      have n13_ := Aside0.mk (blk_below (sB_ BK1463.out) hb)
      have n14_ := Aside0.mk (below_step (sW_ HB.out) hb)
      clear HO_1409002 HO_1418002 HO_1433002 HO_1439002 HO_1445002 HO1453 BK1408 BK1417 BK1432 BK1438 BK1444 BK1455 BK1463 HB; have HO_1409002 := n0_; have HO_1418002 := n1_; have HO_1433002 := n2_; have HO_1439002 := n3_; have HO_1445002 := n4_; have HO1453 := n5_; have HO1461 := n6_; have BK1408 := n7_; have BK1417 := n8_; have BK1432 := n9_; have BK1438 := n10_; have BK1444 := n11_; have BK1455 := n12_; have BK1463 := n13_; have HB := n14_; clear n0_ n1_ n2_ n3_ n4_ n5_ n6_ n7_ n8_ n9_ n10_ n11_ n12_ n13_ n14_
      (try clear hb)
      (try clear hb2)
      (try clear hk)
      (try clear hi)
      (try clear ho0)
      refine hK.out _ _ ⟨(blk_cell BK1408.out 0).trans rfl, (blk_cell BK1408.out 1).trans rfl, (blk_cell BK1408.out 2).trans rfl, (blk_cell BK1417.out 0).trans rfl, (blk_cell BK1417.out 1).trans rfl, (blk_cell BK1417.out 2).trans rfl⟩ (fun hHeld => ?_)
      clear hK K
      refine norm_ (a' := ?_) ?_ ?_
      rotate_left
      ·show Act.put _ (some 71) _ = _
       simp only [Act.put, List.setIfInBounds_toArray, List.set_cons_zero, List.set_cons_succ, i64_w, i32_w]
       rfl
      refine pure_ (i := 9) (N := some 62) (v := ?_) (a' := ?_) #[true, true, true, true, true, true, true, true, true, true, false, false, true, false, false] rfl rfl (any_of HT_.out (by kernel_rfl)) (fun _ _ _ h => h) (Or.inl ⟨by rfl, ?_⟩) ?_ ?_
      rotate_left
      ·intro w'
       go_simp
       with_reducible rfl
      rotate_left
      ·simp only [Act.put, List.setIfInBounds_toArray, List.set_cons_zero, List.set_cons_succ, i64_w, i32_w]
       rfl
      refine pure_ (i := 10) (N := some 72) (v := ?_) (a' := ?_) #[true, true, true, true, true, true, true, true, true, true, true, false, true, false, false] rfl rfl (any_of HT_.out (by kernel_rfl)) (fun _ _ _ h => h) (Or.inl ⟨by rfl, ?_⟩) ?_ ?_
      rotate_left
      ·intro w'
       go_simp
       with_reducible rfl
      rotate_left
      ·simp only [Act.put, List.setIfInBounds_toArray, List.set_cons_zero, List.set_cons_succ, i64_w, i32_w]
       rfl
      refine pure_ (i := 11) (N := some 73) (v := ?_) (a' := ?_) #[true, true, true, true, true, true, true, true, true, true, true, true, true, false, false] rfl rfl (any_of HT_.out (by kernel_rfl)) (fun _ _ _ h => h) (Or.inl ⟨by rfl, ?_⟩) ?_ ?_
      rotate_left
      ·intro w'
       go_simp
       with_reducible rfl
      rotate_left
      ·simp only [Act.put, List.setIfInBounds_toArray, List.set_cons_zero, List.set_cons_succ, i64_w, i32_w]
       rfl
      exact norm_ sP_ (hCont (v1460, gb1463) _ ⟨hHeld, (by (with_reducible repeat (first | apply Kd.R_alloc | apply Kd.R_drewN | apply Kd.R_drew)); exact Kd.R_mono HO1453.out (fun _ hk => ⟨hk.2, ⟨hk.1.1, ⟨hk.1.2.1, ⟨hk.1.2.2.1, ⟨hk.1.2.2.2.1, hk.1.2.2.2.2⟩⟩⟩⟩⟩)), (by (with_reducible repeat (first | apply Kd.R_alloc | apply Kd.R_drewN | apply Kd.R_drew)); exact Kd.R_mono HO1461.out (fun _ hk => ⟨hk.2, ⟨hk.1.1.1.1.1.2, ⟨hk.1.1.1.1.2, ⟨hk.1.1.1.2, ⟨hk.1.1.2, hk.1.2⟩⟩⟩⟩⟩)), (by (with_reducible repeat (first | apply Kd.R_alloc | apply Kd.R_drewN | apply Kd.R_drew)); exact Kd.R_mono HO_1409002.out (fun _ hk => ⟨hk.1.2.2.2.2, ⟨hk.2, ⟨hk.1.1, ⟨hk.1.2.1, ⟨hk.1.2.2.1, hk.1.2.2.2.1⟩⟩⟩⟩⟩)), (by (with_reducible repeat (first | apply Kd.R_alloc | apply Kd.R_drewN | apply Kd.R_drew)); exact Kd.R_mono HO_1418002.out (fun _ hk => ⟨hk.1.2.2.2.2, ⟨hk.2, ⟨hk.1.1, ⟨hk.1.2.1, ⟨hk.1.2.2.1, hk.1.2.2.2.1⟩⟩⟩⟩⟩)), (by (with_reducible repeat (first | apply Kd.R_alloc | apply Kd.R_drewN | apply Kd.R_drew)); exact Kd.R_mono HO_1433002.out (fun _ hk => ⟨hk.1.2.2.2.2, ⟨hk.2, ⟨hk.1.1, ⟨hk.1.2.1, ⟨hk.1.2.2.1, hk.1.2.2.2.1⟩⟩⟩⟩⟩)), (by (with_reducible repeat (first | apply Kd.R_alloc | apply Kd.R_drewN | apply Kd.R_drew)); exact Kd.R_mono HO_1439002.out (fun _ hk => ⟨hk.1.2.2.2.2, ⟨hk.2, ⟨hk.1.1, ⟨hk.1.2.1, ⟨hk.1.2.2.1, hk.1.2.2.2.1⟩⟩⟩⟩⟩)), (by (with_reducible repeat (first | apply Kd.R_alloc | apply Kd.R_drewN | apply Kd.R_drew)); exact Kd.R_mono HO_1445002.out (fun _ hk => ⟨hk.1.2.2.2.2, ⟨hk.2, ⟨hk.1.1, ⟨hk.1.2.1, ⟨hk.1.2.2.1, hk.1.2.2.2.1⟩⟩⟩⟩⟩)), (sB_ BK1408.out), (sB_ BK1417.out), (sB_ BK1432.out), (sB_ BK1438.out), (sB_ BK1444.out), (sB_ BK1455.out), (sB_ BK1463.out), GW1463.out, GE1463.out, NB1408_1463.out, NB1463_1408.out, NB1417_1463.out, NB1463_1417.out, NB1432_1463.out, NB1463_1432.out, NB1438_1463.out, NB1463_1438.out, NB1444_1463.out, NB1463_1444.out, NB1455_1463.out, NB1463_1455.out, (sW_ HB.out)⟩)
     rintro ⟨v1460, gb1463⟩ w121 ⟨hS_, h0_, h1_, h2_, h3_, h4_, h5_, h6_, h7_, h8_, h9_, h10_, h11_, h12_, h13_, h14_, h15_, h16_, h17_, h18_, h19_, h20_, h21_, h22_, h23_, h24_, h25_, h26_, h27_, h28_⟩
     have n0_ : Aside0 (Kd.R (Kd.int .i64) 3 w121 w.heap.size (fun k_ => some k_ ≠ (v1460 : Value).ownBlock ∧ some k_ ≠ (.slice Ao15 t1405.length co15 : Value).ownBlock ∧ some k_ ≠ (.slice Ao22 t1414.length co22 : Value).ownBlock ∧ some k_ ≠ (.slice Ao34 t1428.length co34 : Value).ownBlock ∧ some k_ ≠ (.slice Ao46 t1435.length co46 : Value).ownBlock ∧ some k_ ≠ (.slice Ao56 t1441.length co56 : Value).ownBlock) (.slice Ao115 t1451.length co115) t1451) := ⟨h0_⟩
     have n1_ : Aside0 (Kd.R (Kd.int .i64) 3 w121 w.heap.size (fun k_ => some k_ ≠ (.slice Ao115 t1451.length co115 : Value).ownBlock ∧ some k_ ≠ (.slice Ao15 t1405.length co15 : Value).ownBlock ∧ some k_ ≠ (.slice Ao22 t1414.length co22 : Value).ownBlock ∧ some k_ ≠ (.slice Ao34 t1428.length co34 : Value).ownBlock ∧ some k_ ≠ (.slice Ao46 t1435.length co46 : Value).ownBlock ∧ some k_ ≠ (.slice Ao56 t1441.length co56 : Value).ownBlock) v1460 t1459) := ⟨h1_⟩
     have n2_ : Aside0 (Kd.R (Kd.int .i64) 3 w121 w.heap.size (fun k_ => some k_ ≠ (.slice Ao115 t1451.length co115 : Value).ownBlock ∧ some k_ ≠ (v1460 : Value).ownBlock ∧ some k_ ≠ (.slice Ao22 t1414.length co22 : Value).ownBlock ∧ some k_ ≠ (.slice Ao34 t1428.length co34 : Value).ownBlock ∧ some k_ ≠ (.slice Ao46 t1435.length co46 : Value).ownBlock ∧ some k_ ≠ (.slice Ao56 t1441.length co56 : Value).ownBlock) (.slice Ao15 t1405.length co15) t1405) := ⟨h2_⟩
     have n3_ : Aside0 (Kd.R (Kd.int .i64) 3 w121 w.heap.size (fun k_ => some k_ ≠ (.slice Ao115 t1451.length co115 : Value).ownBlock ∧ some k_ ≠ (v1460 : Value).ownBlock ∧ some k_ ≠ (.slice Ao15 t1405.length co15 : Value).ownBlock ∧ some k_ ≠ (.slice Ao34 t1428.length co34 : Value).ownBlock ∧ some k_ ≠ (.slice Ao46 t1435.length co46 : Value).ownBlock ∧ some k_ ≠ (.slice Ao56 t1441.length co56 : Value).ownBlock) (.slice Ao22 t1414.length co22) t1414) := ⟨h3_⟩
     have n4_ : Aside0 (Kd.R (Kd.int .i64) 3 w121 w.heap.size (fun k_ => some k_ ≠ (.slice Ao115 t1451.length co115 : Value).ownBlock ∧ some k_ ≠ (v1460 : Value).ownBlock ∧ some k_ ≠ (.slice Ao15 t1405.length co15 : Value).ownBlock ∧ some k_ ≠ (.slice Ao22 t1414.length co22 : Value).ownBlock ∧ some k_ ≠ (.slice Ao46 t1435.length co46 : Value).ownBlock ∧ some k_ ≠ (.slice Ao56 t1441.length co56 : Value).ownBlock) (.slice Ao34 t1428.length co34) t1428) := ⟨h4_⟩
     have n5_ : Aside0 (Kd.R (Kd.int .i64) 3 w121 w.heap.size (fun k_ => some k_ ≠ (.slice Ao115 t1451.length co115 : Value).ownBlock ∧ some k_ ≠ (v1460 : Value).ownBlock ∧ some k_ ≠ (.slice Ao15 t1405.length co15 : Value).ownBlock ∧ some k_ ≠ (.slice Ao22 t1414.length co22 : Value).ownBlock ∧ some k_ ≠ (.slice Ao34 t1428.length co34 : Value).ownBlock ∧ some k_ ≠ (.slice Ao56 t1441.length co56 : Value).ownBlock) (.slice Ao46 t1435.length co46) t1435) := ⟨h5_⟩
     have n6_ : Aside0 (Kd.R (Kd.int .i64) 3 w121 w.heap.size (fun k_ => some k_ ≠ (.slice Ao115 t1451.length co115 : Value).ownBlock ∧ some k_ ≠ (v1460 : Value).ownBlock ∧ some k_ ≠ (.slice Ao15 t1405.length co15 : Value).ownBlock ∧ some k_ ≠ (.slice Ao22 t1414.length co22 : Value).ownBlock ∧ some k_ ≠ (.slice Ao34 t1428.length co34 : Value).ownBlock ∧ some k_ ≠ (.slice Ao46 t1435.length co46 : Value).ownBlock) (.slice Ao56 t1441.length co56) t1441) := ⟨h6_⟩
     have n7_ : Aside0 (w121.heap[gb1408]? = some (.cells #[.int .i64 t1403, .int .i64 t1404, .slice Ao15 t1405.length co15] 26 (0, 0))) := ⟨h7_⟩
     have n8_ : Aside0 (w121.heap[gb1417]? = some (.cells #[.int .i64 t1412, .int .i64 t1413, .slice Ao22 t1414.length co22] 41 (0, 0))) := ⟨h8_⟩
     have n9_ : Aside0 (w121.heap[gb1432]? = some (.cells #[.int .i64 t1426, .int .i64 t1427, .slice Ao34 t1428.length co34] 41 (0, 0))) := ⟨h9_⟩
     have n10_ : Aside0 (w121.heap[gb1438]? = some (.cells #[.int .i64 t1433, .int .i64 t1434, .slice Ao46 t1435.length co46] 41 (0, 0))) := ⟨h10_⟩
     have n11_ : Aside0 (w121.heap[gb1444]? = some (.cells #[.int .i64 t1439, .int .i64 t1440, .slice Ao56 t1441.length co56] 41 (0, 0))) := ⟨h11_⟩
     have n12_ : Aside0 (w121.heap[gb1455]? = some (.cells #[.int .i64 t1449, .int .i64 t1450, .slice Ao115 t1451.length co115] 41 (0, 0))) := ⟨h12_⟩
     have n13_ : Aside0 (w121.heap[gb1463]? = some (.cells #[.int .i64 0, .int .i64 0, .slice none 0 0] 41 (0, 0))) := ⟨h13_⟩
     have n14_ : Aside0 (w.heap.size ≤ gb1463) := ⟨h14_⟩
     have n15_ : Aside0 (w.heap.size ≤ gb1463) := ⟨h15_⟩
     have n16_ : Aside0 (gb1408 ≠ gb1463) := ⟨h16_⟩
     have n17_ : Aside0 (gb1463 ≠ gb1408) := ⟨h17_⟩
     have n18_ : Aside0 (gb1417 ≠ gb1463) := ⟨h18_⟩
     have n19_ : Aside0 (gb1463 ≠ gb1417) := ⟨h19_⟩
     have n20_ : Aside0 (gb1432 ≠ gb1463) := ⟨h20_⟩
     have n21_ : Aside0 (gb1463 ≠ gb1432) := ⟨h21_⟩
     have n22_ : Aside0 (gb1438 ≠ gb1463) := ⟨h22_⟩
     have n23_ : Aside0 (gb1463 ≠ gb1438) := ⟨h23_⟩
     have n24_ : Aside0 (gb1444 ≠ gb1463) := ⟨h24_⟩
     have n25_ : Aside0 (gb1463 ≠ gb1444) := ⟨h25_⟩
     have n26_ : Aside0 (gb1455 ≠ gb1463) := ⟨h26_⟩
     have n27_ : Aside0 (gb1463 ≠ gb1455) := ⟨h27_⟩
     have n28_ : Aside0 (Below w.heap.size w w121) := ⟨h28_⟩
     clear HO_1409002 HO_1418002 HO_1433002 HO_1439002 HO_1445002 HO1453 BK1408 BK1417 BK1432 BK1438 BK1444 BK1455 HB h0_ h1_ h2_ h3_ h4_ h5_ h6_ h7_ h8_ h9_ h10_ h11_ h12_ h13_ h14_ h15_ h16_ h17_ h18_ h19_ h20_ h21_ h22_ h23_ h24_ h25_ h26_ h27_ h28_; have HO1453 := n0_; have HO1461 := n1_; have HO_1409002 := n2_; have HO_1418002 := n3_; have HO_1433002 := n4_; have HO_1439002 := n5_; have HO_1445002 := n6_; have BK1408 := n7_; have BK1417 := n8_; have BK1432 := n9_; have BK1438 := n10_; have BK1444 := n11_; have BK1455 := n12_; have BK1463 := n13_; have GW1463 := n14_; have GE1463 := n15_; have NB1408_1463 := n16_; have NB1463_1408 := n17_; have NB1417_1463 := n18_; have NB1463_1417 := n19_; have NB1432_1463 := n20_; have NB1463_1432 := n21_; have NB1438_1463 := n22_; have NB1463_1438 := n23_; have NB1444_1463 := n24_; have NB1463_1444 := n25_; have NB1455_1463 := n26_; have NB1463_1455 := n27_; have HB := n28_; clear n0_ n1_ n2_ n3_ n4_ n5_ n6_ n7_ n8_ n9_ n10_ n11_ n12_ n13_ n14_ n15_ n16_ n17_ n18_ n19_ n20_ n21_ n22_ n23_ n24_ n25_ n26_ n27_ n28_
     have hHeld : w121.cell? ⟨gb1408, 0, none⟩ = some (.int .i64 t1403) ∧ w121.cell? ⟨gb1408, 1, none⟩ = some (.int .i64 t1404) ∧ w121.cell? ⟨gb1408, 2, none⟩ = some (.slice Ao15 t1405.length co15) ∧ w121.cell? ⟨gb1417, 0, none⟩ = some (.int .i64 t1412) ∧ w121.cell? ⟨gb1417, 1, none⟩ = some (.int .i64 t1413) ∧ w121.cell? ⟨gb1417, 2, none⟩ = some (.slice Ao22 t1414.length co22) := hS_
     obtain ⟨Ao124, co124, eo124⟩ := Kd.R_slice HO1461.out
     (first | subst eo124 | (injection eo124 with f1_ f2_ f3_; have f4_ := f1_.symm; have f5_ := f3_.symm; clear f1_ f2_ f3_; subst f4_; subst f5_))
     refine norm_ (a' := ?_) ?_ ?_
     rotate_left
     ·simp only [putAll, Act.put, List.setIfInBounds_toArray, List.set_cons_zero, List.set_cons_succ]
      rfl
     refine one_ (i := 13) (N := none) #[true, true, true, true, true, true, true, true, true, true, true, true, true, true, false] rfl rfl (one_of HT_.out (by kernel_rfl)) (by decide) (fun K hK => ?_)
     have hs122 : w121.cell? ⟨gb1463, 0, none⟩ = some (.int .i64 0) := (blk_cell BK1463.out 0).trans rfl
     have hfs122 := blk_frozen BK1463.out 0
     have hns122_0 := NB1408_1463.out; have hns122_1 := NB1417_1463.out; have hns122_2 := NB1432_1463.out; have hns122_3 := NB1438_1463.out; have hns122_4 := NB1444_1463.out; have hns122_5 := NB1455_1463.out; have hms122_0 := NB1463_1408.out; have hms122_1 := NB1463_1417.out; have hms122_2 := NB1463_1432.out; have hms122_3 := NB1463_1438.out; have hms122_4 := NB1463_1444.out; have hms122_5 := NB1463_1455.out
     have hs123 : w121.cell? ⟨gb1463, 1, none⟩ = some (.int .i64 0) := (blk_cell BK1463.out 1).trans rfl
     have hfs123 := blk_frozen BK1463.out 1
     have hns123_0 := NB1408_1463.out; have hns123_1 := NB1417_1463.out; have hns123_2 := NB1432_1463.out; have hns123_3 := NB1438_1463.out; have hns123_4 := NB1444_1463.out; have hns123_5 := NB1455_1463.out; have hms123_0 := NB1463_1408.out; have hms123_1 := NB1463_1417.out; have hms123_2 := NB1463_1432.out; have hms123_3 := NB1463_1438.out; have hms123_4 := NB1463_1444.out; have hms123_5 := NB1463_1455.out
     have hs125 : w121.cell? ⟨gb1463, 2, none⟩ = some (.slice none 0 0) := (blk_cell BK1463.out 2).trans rfl
     have hfs125 := blk_frozen BK1463.out 2
     have hns125_0 := NB1408_1463.out; have hns125_1 := NB1417_1463.out; have hns125_2 := NB1432_1463.out; have hns125_3 := NB1438_1463.out; have hns125_4 := NB1444_1463.out; have hns125_5 := NB1455_1463.out; have hms125_0 := NB1463_1408.out; have hms125_1 := NB1463_1417.out; have hms125_2 := NB1463_1432.out; have hms125_3 := NB1463_1438.out; have hms125_4 := NB1463_1444.out; have hms125_5 := NB1463_1455.out
     refine skip_ (w1 := ?_) (by rfl) rfl ?_ ?_
     rotate_left
     ·go_simp
      rfl
     refine hK.out _ _ ⟨((cell_far (p := ⟨gb1463, _, none⟩) NB1408_1463.out _).trans (((cell_far (p := ⟨gb1463, _, none⟩) NB1408_1463.out _).trans (((cell_far (p := ⟨gb1463, _, none⟩) NB1408_1463.out _).trans (hHeld.1)))))), ((cell_far (p := ⟨gb1463, _, none⟩) NB1408_1463.out _).trans (((cell_far (p := ⟨gb1463, _, none⟩) NB1408_1463.out _).trans (((cell_far (p := ⟨gb1463, _, none⟩) NB1408_1463.out _).trans (hHeld.2.1)))))), ((cell_far (p := ⟨gb1463, _, none⟩) NB1408_1463.out _).trans (((cell_far (p := ⟨gb1463, _, none⟩) NB1408_1463.out _).trans (((cell_far (p := ⟨gb1463, _, none⟩) NB1408_1463.out _).trans (hHeld.2.2.1)))))), ((cell_far (p := ⟨gb1463, _, none⟩) NB1417_1463.out _).trans (((cell_far (p := ⟨gb1463, _, none⟩) NB1417_1463.out _).trans (((cell_far (p := ⟨gb1463, _, none⟩) NB1417_1463.out _).trans (hHeld.2.2.2.1)))))), ((cell_far (p := ⟨gb1463, _, none⟩) NB1417_1463.out _).trans (((cell_far (p := ⟨gb1463, _, none⟩) NB1417_1463.out _).trans (((cell_far (p := ⟨gb1463, _, none⟩) NB1417_1463.out _).trans (hHeld.2.2.2.2.1)))))), ((cell_far (p := ⟨gb1463, _, none⟩) NB1417_1463.out _).trans (((cell_far (p := ⟨gb1463, _, none⟩) NB1417_1463.out _).trans (((cell_far (p := ⟨gb1463, _, none⟩) NB1417_1463.out _).trans (hHeld.2.2.2.2.2))))))⟩ (fun hHeld => ?_)
     clear hK K
     refine pure_ (i := 14) (N := some 13) (v := ?_) (a' := ?_) #[true, true, true, true, true, true, true, true, true, true, true, true, true, true, true] rfl rfl (any_of HT_.out (by kernel_rfl)) (fun _ _ _ h => h) (Or.inl ⟨by rfl, ?_⟩) ?_ ?_
     rotate_left
     ·intro w'
      go_simp
      with_reducible rfl
     rotate_left
     ·simp only [Act.put, List.setIfInBounds_toArray, List.set_cons_zero, List.set_cons_succ, i64_w, i32_w]
      rfl
     refine done_ (done_of HT_.out (by kernel_rfl)) ?_
     try go_wp2
     have n0_ : Aside0 (Kd.R (Kd.int .i64) 3 (((w121.setCell ⟨gb1463, 0, none⟩ (.int .i64 t1457)).setCell ⟨gb1463, 1, none⟩ (.int .i64 t1458)).setCell ⟨gb1463, 2, none⟩ (.slice Ao124 t1459.length co124)) w.heap.size (fun k_ => some k_ ≠ (.slice Ao22 t1414.length co22 : Value).ownBlock ∧ some k_ ≠ (.slice Ao34 t1428.length co34 : Value).ownBlock ∧ some k_ ≠ (.slice Ao46 t1435.length co46 : Value).ownBlock ∧ some k_ ≠ (.slice Ao56 t1441.length co56 : Value).ownBlock ∧ some k_ ≠ (.slice Ao115 t1451.length co115 : Value).ownBlock ∧ some k_ ≠ (.slice Ao124 t1459.length co124 : Value).ownBlock) (.slice Ao15 t1405.length co15) t1405) := ⟨by (with_reducible repeat (first | apply Kd.R_alloc | apply Kd.R_drewN | apply Kd.R_drew)); exact Kd.R_mono (Kd.R_far (p := ⟨gb1463, 2, none⟩) (Kd.R_far (p := ⟨gb1463, 1, none⟩) (Kd.R_far (p := ⟨gb1463, 0, none⟩) (Kd.R_types HO_1409002.out BK1463.out (by decide)) (fun _ hk => hk.2) (.int .i64 t1457)) (fun _ hk => hk.2) (.int .i64 t1458)) (fun _ hk => hk.2) (.slice Ao124 t1459.length co124)) (fun _ hk => ⟨hk.1.2.2.1, ⟨hk.1.2.2.2.1, ⟨hk.1.2.2.2.2.1, ⟨hk.1.2.2.2.2.2, ⟨hk.1.1, hk.1.2.1⟩⟩⟩⟩⟩)⟩
     have n1_ : Aside0 (Kd.R (Kd.int .i64) 3 (((w121.setCell ⟨gb1463, 0, none⟩ (.int .i64 t1457)).setCell ⟨gb1463, 1, none⟩ (.int .i64 t1458)).setCell ⟨gb1463, 2, none⟩ (.slice Ao124 t1459.length co124)) w.heap.size (fun k_ => some k_ ≠ (.slice Ao15 t1405.length co15 : Value).ownBlock ∧ some k_ ≠ (.slice Ao34 t1428.length co34 : Value).ownBlock ∧ some k_ ≠ (.slice Ao46 t1435.length co46 : Value).ownBlock ∧ some k_ ≠ (.slice Ao56 t1441.length co56 : Value).ownBlock ∧ some k_ ≠ (.slice Ao115 t1451.length co115 : Value).ownBlock ∧ some k_ ≠ (.slice Ao124 t1459.length co124 : Value).ownBlock) (.slice Ao22 t1414.length co22) t1414) := ⟨by (with_reducible repeat (first | apply Kd.R_alloc | apply Kd.R_drewN | apply Kd.R_drew)); exact Kd.R_mono (Kd.R_far (p := ⟨gb1463, 2, none⟩) (Kd.R_far (p := ⟨gb1463, 1, none⟩) (Kd.R_far (p := ⟨gb1463, 0, none⟩) (Kd.R_types HO_1418002.out BK1463.out (by decide)) (fun _ hk => hk.2) (.int .i64 t1457)) (fun _ hk => hk.2) (.int .i64 t1458)) (fun _ hk => hk.2) (.slice Ao124 t1459.length co124)) (fun _ hk => ⟨hk.1.2.2.1, ⟨hk.1.2.2.2.1, ⟨hk.1.2.2.2.2.1, ⟨hk.1.2.2.2.2.2, ⟨hk.1.1, hk.1.2.1⟩⟩⟩⟩⟩)⟩
     have n2_ : Aside0 (Kd.R (Kd.int .i64) 3 (((w121.setCell ⟨gb1463, 0, none⟩ (.int .i64 t1457)).setCell ⟨gb1463, 1, none⟩ (.int .i64 t1458)).setCell ⟨gb1463, 2, none⟩ (.slice Ao124 t1459.length co124)) w.heap.size (fun k_ => some k_ ≠ (.slice Ao15 t1405.length co15 : Value).ownBlock ∧ some k_ ≠ (.slice Ao22 t1414.length co22 : Value).ownBlock ∧ some k_ ≠ (.slice Ao46 t1435.length co46 : Value).ownBlock ∧ some k_ ≠ (.slice Ao56 t1441.length co56 : Value).ownBlock ∧ some k_ ≠ (.slice Ao115 t1451.length co115 : Value).ownBlock ∧ some k_ ≠ (.slice Ao124 t1459.length co124 : Value).ownBlock) (.slice Ao34 t1428.length co34) t1428) := ⟨by (with_reducible repeat (first | apply Kd.R_alloc | apply Kd.R_drewN | apply Kd.R_drew)); exact Kd.R_mono (Kd.R_far (p := ⟨gb1463, 2, none⟩) (Kd.R_far (p := ⟨gb1463, 1, none⟩) (Kd.R_far (p := ⟨gb1463, 0, none⟩) (Kd.R_types HO_1433002.out BK1463.out (by decide)) (fun _ hk => hk.2) (.int .i64 t1457)) (fun _ hk => hk.2) (.int .i64 t1458)) (fun _ hk => hk.2) (.slice Ao124 t1459.length co124)) (fun _ hk => ⟨hk.1.2.2.1, ⟨hk.1.2.2.2.1, ⟨hk.1.2.2.2.2.1, ⟨hk.1.2.2.2.2.2, ⟨hk.1.1, hk.1.2.1⟩⟩⟩⟩⟩)⟩
     have n3_ : Aside0 (Kd.R (Kd.int .i64) 3 (((w121.setCell ⟨gb1463, 0, none⟩ (.int .i64 t1457)).setCell ⟨gb1463, 1, none⟩ (.int .i64 t1458)).setCell ⟨gb1463, 2, none⟩ (.slice Ao124 t1459.length co124)) w.heap.size (fun k_ => some k_ ≠ (.slice Ao15 t1405.length co15 : Value).ownBlock ∧ some k_ ≠ (.slice Ao22 t1414.length co22 : Value).ownBlock ∧ some k_ ≠ (.slice Ao34 t1428.length co34 : Value).ownBlock ∧ some k_ ≠ (.slice Ao56 t1441.length co56 : Value).ownBlock ∧ some k_ ≠ (.slice Ao115 t1451.length co115 : Value).ownBlock ∧ some k_ ≠ (.slice Ao124 t1459.length co124 : Value).ownBlock) (.slice Ao46 t1435.length co46) t1435) := ⟨by (with_reducible repeat (first | apply Kd.R_alloc | apply Kd.R_drewN | apply Kd.R_drew)); exact Kd.R_mono (Kd.R_far (p := ⟨gb1463, 2, none⟩) (Kd.R_far (p := ⟨gb1463, 1, none⟩) (Kd.R_far (p := ⟨gb1463, 0, none⟩) (Kd.R_types HO_1439002.out BK1463.out (by decide)) (fun _ hk => hk.2) (.int .i64 t1457)) (fun _ hk => hk.2) (.int .i64 t1458)) (fun _ hk => hk.2) (.slice Ao124 t1459.length co124)) (fun _ hk => ⟨hk.1.2.2.1, ⟨hk.1.2.2.2.1, ⟨hk.1.2.2.2.2.1, ⟨hk.1.2.2.2.2.2, ⟨hk.1.1, hk.1.2.1⟩⟩⟩⟩⟩)⟩
     have n4_ : Aside0 (Kd.R (Kd.int .i64) 3 (((w121.setCell ⟨gb1463, 0, none⟩ (.int .i64 t1457)).setCell ⟨gb1463, 1, none⟩ (.int .i64 t1458)).setCell ⟨gb1463, 2, none⟩ (.slice Ao124 t1459.length co124)) w.heap.size (fun k_ => some k_ ≠ (.slice Ao15 t1405.length co15 : Value).ownBlock ∧ some k_ ≠ (.slice Ao22 t1414.length co22 : Value).ownBlock ∧ some k_ ≠ (.slice Ao34 t1428.length co34 : Value).ownBlock ∧ some k_ ≠ (.slice Ao46 t1435.length co46 : Value).ownBlock ∧ some k_ ≠ (.slice Ao115 t1451.length co115 : Value).ownBlock ∧ some k_ ≠ (.slice Ao124 t1459.length co124 : Value).ownBlock) (.slice Ao56 t1441.length co56) t1441) := ⟨by (with_reducible repeat (first | apply Kd.R_alloc | apply Kd.R_drewN | apply Kd.R_drew)); exact Kd.R_mono (Kd.R_far (p := ⟨gb1463, 2, none⟩) (Kd.R_far (p := ⟨gb1463, 1, none⟩) (Kd.R_far (p := ⟨gb1463, 0, none⟩) (Kd.R_types HO_1445002.out BK1463.out (by decide)) (fun _ hk => hk.2) (.int .i64 t1457)) (fun _ hk => hk.2) (.int .i64 t1458)) (fun _ hk => hk.2) (.slice Ao124 t1459.length co124)) (fun _ hk => ⟨hk.1.2.2.1, ⟨hk.1.2.2.2.1, ⟨hk.1.2.2.2.2.1, ⟨hk.1.2.2.2.2.2, ⟨hk.1.1, hk.1.2.1⟩⟩⟩⟩⟩)⟩
     have n5_ : Aside0 (Kd.R (Kd.int .i64) 3 (((w121.setCell ⟨gb1463, 0, none⟩ (.int .i64 t1457)).setCell ⟨gb1463, 1, none⟩ (.int .i64 t1458)).setCell ⟨gb1463, 2, none⟩ (.slice Ao124 t1459.length co124)) w.heap.size (fun k_ => some k_ ≠ (.slice Ao15 t1405.length co15 : Value).ownBlock ∧ some k_ ≠ (.slice Ao22 t1414.length co22 : Value).ownBlock ∧ some k_ ≠ (.slice Ao34 t1428.length co34 : Value).ownBlock ∧ some k_ ≠ (.slice Ao46 t1435.length co46 : Value).ownBlock ∧ some k_ ≠ (.slice Ao56 t1441.length co56 : Value).ownBlock ∧ some k_ ≠ (.slice Ao124 t1459.length co124 : Value).ownBlock) (.slice Ao115 t1451.length co115) t1451) := ⟨by (with_reducible repeat (first | apply Kd.R_alloc | apply Kd.R_drewN | apply Kd.R_drew)); exact Kd.R_mono (Kd.R_far (p := ⟨gb1463, 2, none⟩) (Kd.R_far (p := ⟨gb1463, 1, none⟩) (Kd.R_far (p := ⟨gb1463, 0, none⟩) (Kd.R_types HO1453.out BK1463.out (by decide)) (fun _ hk => hk.2) (.int .i64 t1457)) (fun _ hk => hk.2) (.int .i64 t1458)) (fun _ hk => hk.2) (.slice Ao124 t1459.length co124)) (fun _ hk => ⟨hk.1.2.1, ⟨hk.1.2.2.1, ⟨hk.1.2.2.2.1, ⟨hk.1.2.2.2.2.1, ⟨hk.1.2.2.2.2.2, hk.1.1⟩⟩⟩⟩⟩)⟩
     have n6_ : Aside0 (Kd.R (Kd.int .i64) 3 (((w121.setCell ⟨gb1463, 0, none⟩ (.int .i64 t1457)).setCell ⟨gb1463, 1, none⟩ (.int .i64 t1458)).setCell ⟨gb1463, 2, none⟩ (.slice Ao124 t1459.length co124)) w.heap.size (fun k_ => some k_ ≠ (.slice Ao15 t1405.length co15 : Value).ownBlock ∧ some k_ ≠ (.slice Ao22 t1414.length co22 : Value).ownBlock ∧ some k_ ≠ (.slice Ao34 t1428.length co34 : Value).ownBlock ∧ some k_ ≠ (.slice Ao46 t1435.length co46 : Value).ownBlock ∧ some k_ ≠ (.slice Ao56 t1441.length co56 : Value).ownBlock ∧ some k_ ≠ (.slice Ao115 t1451.length co115 : Value).ownBlock) (.slice Ao124 t1459.length co124) t1459) := ⟨by (with_reducible repeat (first | apply Kd.R_alloc | apply Kd.R_drewN | apply Kd.R_drew)); exact Kd.R_mono (Kd.R_far (p := ⟨gb1463, 2, none⟩) (Kd.R_far (p := ⟨gb1463, 1, none⟩) (Kd.R_far (p := ⟨gb1463, 0, none⟩) (Kd.R_types HO1461.out BK1463.out (by decide)) (fun _ hk => hk.2) (.int .i64 t1457)) (fun _ hk => hk.2) (.int .i64 t1458)) (fun _ hk => hk.2) (.slice Ao124 t1459.length co124)) (fun _ hk => ⟨hk.1.2.1, ⟨hk.1.2.2.1, ⟨hk.1.2.2.2.1, ⟨hk.1.2.2.2.2.1, ⟨hk.1.2.2.2.2.2, hk.1.1⟩⟩⟩⟩⟩)⟩
     have n7_ : Aside0 ((((w121.setCell ⟨gb1463, 0, none⟩ (.int .i64 t1457)).setCell ⟨gb1463, 1, none⟩ (.int .i64 t1458)).setCell ⟨gb1463, 2, none⟩ (.slice Ao124 t1459.length co124)).heap[gb1408]? = some (.cells #[.int .i64 t1403, .int .i64 t1404, .slice Ao15 t1405.length co15] 26 (0, 0))) := ⟨by refine sB_ ?_; refine blk_far ?_ NB1408_1463.out _; refine sB_ ?_; refine blk_far ?_ NB1408_1463.out _; refine sB_ ?_; refine blk_far ?_ NB1408_1463.out _; refine sB_ ?_; exact BK1408.out⟩
     have n8_ : Aside0 ((((w121.setCell ⟨gb1463, 0, none⟩ (.int .i64 t1457)).setCell ⟨gb1463, 1, none⟩ (.int .i64 t1458)).setCell ⟨gb1463, 2, none⟩ (.slice Ao124 t1459.length co124)).heap[gb1417]? = some (.cells #[.int .i64 t1412, .int .i64 t1413, .slice Ao22 t1414.length co22] 41 (0, 0))) := ⟨by refine sB_ ?_; refine blk_far ?_ NB1417_1463.out _; refine sB_ ?_; refine blk_far ?_ NB1417_1463.out _; refine sB_ ?_; refine blk_far ?_ NB1417_1463.out _; refine sB_ ?_; exact BK1417.out⟩
     have n9_ : Aside0 ((((w121.setCell ⟨gb1463, 0, none⟩ (.int .i64 t1457)).setCell ⟨gb1463, 1, none⟩ (.int .i64 t1458)).setCell ⟨gb1463, 2, none⟩ (.slice Ao124 t1459.length co124)).heap[gb1432]? = some (.cells #[.int .i64 t1426, .int .i64 t1427, .slice Ao34 t1428.length co34] 41 (0, 0))) := ⟨by refine sB_ ?_; refine blk_far ?_ NB1432_1463.out _; refine sB_ ?_; refine blk_far ?_ NB1432_1463.out _; refine sB_ ?_; refine blk_far ?_ NB1432_1463.out _; refine sB_ ?_; exact BK1432.out⟩
     have n10_ : Aside0 ((((w121.setCell ⟨gb1463, 0, none⟩ (.int .i64 t1457)).setCell ⟨gb1463, 1, none⟩ (.int .i64 t1458)).setCell ⟨gb1463, 2, none⟩ (.slice Ao124 t1459.length co124)).heap[gb1438]? = some (.cells #[.int .i64 t1433, .int .i64 t1434, .slice Ao46 t1435.length co46] 41 (0, 0))) := ⟨by refine sB_ ?_; refine blk_far ?_ NB1438_1463.out _; refine sB_ ?_; refine blk_far ?_ NB1438_1463.out _; refine sB_ ?_; refine blk_far ?_ NB1438_1463.out _; refine sB_ ?_; exact BK1438.out⟩
     have n11_ : Aside0 ((((w121.setCell ⟨gb1463, 0, none⟩ (.int .i64 t1457)).setCell ⟨gb1463, 1, none⟩ (.int .i64 t1458)).setCell ⟨gb1463, 2, none⟩ (.slice Ao124 t1459.length co124)).heap[gb1444]? = some (.cells #[.int .i64 t1439, .int .i64 t1440, .slice Ao56 t1441.length co56] 41 (0, 0))) := ⟨by refine sB_ ?_; refine blk_far ?_ NB1444_1463.out _; refine sB_ ?_; refine blk_far ?_ NB1444_1463.out _; refine sB_ ?_; refine blk_far ?_ NB1444_1463.out _; refine sB_ ?_; exact BK1444.out⟩
     have n12_ : Aside0 ((((w121.setCell ⟨gb1463, 0, none⟩ (.int .i64 t1457)).setCell ⟨gb1463, 1, none⟩ (.int .i64 t1458)).setCell ⟨gb1463, 2, none⟩ (.slice Ao124 t1459.length co124)).heap[gb1455]? = some (.cells #[.int .i64 t1449, .int .i64 t1450, .slice Ao115 t1451.length co115] 41 (0, 0))) := ⟨by refine sB_ ?_; refine blk_far ?_ NB1455_1463.out _; refine sB_ ?_; refine blk_far ?_ NB1455_1463.out _; refine sB_ ?_; refine blk_far ?_ NB1455_1463.out _; refine sB_ ?_; exact BK1455.out⟩
     have n13_ : Aside0 ((((w121.setCell ⟨gb1463, 0, none⟩ (.int .i64 t1457)).setCell ⟨gb1463, 1, none⟩ (.int .i64 t1458)).setCell ⟨gb1463, 2, none⟩ (.slice Ao124 t1459.length co124)).heap[gb1463]? = some (.cells #[.int .i64 t1457, .int .i64 t1458, .slice Ao124 t1459.length co124] 41 (0, 0))) := ⟨by refine sB_ ?_; refine blk_put (cs := #[.int .i64 t1457, .int .i64 t1458, .slice none 0 0]) ?_ 2 _ rfl; refine sB_ ?_; refine blk_put (cs := #[.int .i64 t1457, .int .i64 0, .slice none 0 0]) ?_ 1 _ rfl; refine sB_ ?_; refine blk_put (cs := #[.int .i64 0, .int .i64 0, .slice none 0 0]) ?_ 0 _ rfl; refine sB_ ?_; exact BK1463.out⟩
     have n14_ : Aside0 (Below w.heap.size w (((w121.setCell ⟨gb1463, 0, none⟩ (.int .i64 t1457)).setCell ⟨gb1463, 1, none⟩ (.int .i64 t1458)).setCell ⟨gb1463, 2, none⟩ (.slice Ao124 t1459.length co124))) := ⟨by repeat (first | (with_reducible first | exact HB.out | apply below_alloc | apply pw_below_drewN | apply below_drew1 | refine below_set ?_ GE1408.out | refine below_set ?_ GE1417.out | refine below_set ?_ GE1432.out | refine below_set ?_ GE1438.out | refine below_set ?_ GE1444.out | refine below_set ?_ GE1455.out | refine below_set ?_ GE1463.out) | exact HB.out)⟩
     (try clear HO_1409002)
     (try clear HO_1418002)
     (try clear HO_1433002)
     (try clear HO_1439002)
     (try clear HO_1445002)
     (try clear HO1453)
     (try clear HO1461)
     (try clear BK1408)
     (try clear BK1417)
     (try clear BK1432)
     (try clear BK1438)
     (try clear BK1444)
     (try clear BK1455)
     (try clear BK1463)
     (try clear HB)
     generalize (((w121.setCell ⟨gb1463, 0, none⟩ (.int .i64 t1457)).setCell ⟨gb1463, 1, none⟩ (.int .i64 t1458)).setCell ⟨gb1463, 2, none⟩ (.slice Ao124 t1459.length co124)) = w126 at n0_ n1_ n2_ n3_ n4_ n5_ n6_ n7_ n8_ n9_ n10_ n11_ n12_ n13_ n14_ ⊢
     have HO_1409002 := n0_; have HO_1418002 := n1_; have HO_1433002 := n2_; have HO_1439002 := n3_; have HO_1445002 := n4_; have HO1453 := n5_; have HO1461 := n6_; have BK1408 := n7_; have BK1417 := n8_; have BK1432 := n9_; have BK1438 := n10_; have BK1444 := n11_; have BK1455 := n12_; have BK1463 := n13_; have HB := n14_; clear n0_ n1_ n2_ n3_ n4_ n5_ n6_ n7_ n8_ n9_ n10_ n11_ n12_ n13_ n14_
     have n0_ := Aside0.mk (Kd.R_drew HO_1409002.out)
     have n1_ := Aside0.mk (Kd.R_drew HO_1418002.out)
     have n2_ := Aside0.mk (Kd.R_drew HO_1433002.out)
     have n3_ := Aside0.mk (Kd.R_drew HO_1439002.out)
     have n4_ := Aside0.mk (Kd.R_drew HO_1445002.out)
     have n5_ := Aside0.mk (Kd.R_drew HO1453.out)
     have n6_ := Aside0.mk (Kd.R_drew HO1461.out)
     have n7_ := Aside0.mk (blk_drew BK1408.out)
     have n8_ := Aside0.mk (blk_drew BK1417.out)
     have n9_ := Aside0.mk (blk_drew BK1432.out)
     have n10_ := Aside0.mk (blk_drew BK1438.out)
     have n11_ := Aside0.mk (blk_drew BK1444.out)
     have n12_ := Aside0.mk (blk_drew BK1455.out)
     have n13_ := Aside0.mk (blk_drew BK1463.out)
     have n14_ := Aside0.mk (below_drew1 HB.out)
     clear HO_1409002 HO_1418002 HO_1433002 HO_1439002 HO_1445002 HO1453 HO1461 BK1408 BK1417 BK1432 BK1438 BK1444 BK1455 BK1463 HB; have HO_1409002 := n0_; have HO_1418002 := n1_; have HO_1433002 := n2_; have HO_1439002 := n3_; have HO_1445002 := n4_; have HO1453 := n5_; have HO1461 := n6_; have BK1408 := n7_; have BK1417 := n8_; have BK1432 := n9_; have BK1438 := n10_; have BK1444 := n11_; have BK1455 := n12_; have BK1463 := n13_; have HB := n14_; clear n0_ n1_ n2_ n3_ n4_ n5_ n6_ n7_ n8_ n9_ n10_ n11_ n12_ n13_ n14_
     refine start_ (n := 12) (S := fun w' => w'.cell? ⟨gb1408, 0, none⟩ = some (.int .i64 t1403) ∧ w'.cell? ⟨gb1408, 1, none⟩ = some (.int .i64 t1404) ∧ w'.cell? ⟨gb1408, 2, none⟩ = some (.slice Ao15 t1405.length co15) ∧ w'.cell? ⟨gb1455, 0, none⟩ = some (.int .i64 t1449) ∧ w'.cell? ⟨gb1455, 1, none⟩ = some (.int .i64 t1450) ∧ w'.cell? ⟨gb1455, 2, none⟩ = some (.slice Ao115 t1451.length co115) ∧ w'.cell? ⟨gb1463, 0, none⟩ = some (.int .i64 t1457) ∧ w'.cell? ⟨gb1463, 1, none⟩ = some (.int .i64 t1458) ∧ w'.cell? ⟨gb1463, 2, none⟩ = some (.slice Ao124 t1459.length co124)) (ds := []) #[false, false, false, false, false, false, false, false, false, false, false, false] (by kernel_rfl) rfl rfl ⟨(blk_cell BK1408.out 0).trans rfl, (blk_cell BK1408.out 1).trans rfl, (blk_cell BK1408.out 2).trans rfl, (blk_cell BK1455.out 0).trans rfl, (blk_cell BK1455.out 1).trans rfl, (blk_cell BK1455.out 2).trans rfl, (blk_cell BK1463.out 0).trans rfl, (blk_cell BK1463.out 1).trans rfl, (blk_cell BK1463.out 2).trans rfl⟩ (fun hHeld => ?_); refine with_tabW laws_FnStacked.tab13 laws_FnStacked.bits13 (fun HT_ HW_ => ?_)
     generalize w126.drew = w127 at HO_1409002 HO_1418002 HO_1433002 HO_1439002 HO_1445002 HO1453 HO1461 BK1408 BK1417 BK1432 BK1438 BK1444 BK1455 BK1463 HB hHeld ⊢
     refine pure_ (i := 0) (N := some 74) (v := ?_) (a' := ?_) #[true, false, false, false, false, false, false, false, false, false, false, false] rfl rfl (any_of HT_.out (by kernel_rfl)) (fun _ _ _ h => h) (Or.inl ⟨by rfl, ?_⟩) ?_ ?_
     rotate_left
     ·intro w'
      go_simp
      with_reducible rfl
     rotate_left
     ·simp only [Act.put, List.setIfInBounds_toArray, List.set_cons_zero, List.set_cons_succ, i64_w, i32_w]
      rfl
     refine pure_ (i := 1) (N := some 75) (v := ?_) (a' := ?_) #[true, true, false, false, false, false, false, false, false, false, false, false] rfl rfl (any_of HT_.out (by kernel_rfl)) (fun _ _ _ h => h) (Or.inl ⟨by rfl, ?_⟩) ?_ ?_
     rotate_left
     ·intro w'
      go_simp
      with_reducible rfl
     rotate_left
     ·simp only [Act.put, List.setIfInBounds_toArray, List.set_cons_zero, List.set_cons_succ, i64_w, i32_w]
      rfl
     refine pure_ (i := 2) (N := some 76) (v := ?_) (a' := ?_) #[true, true, true, false, false, false, false, false, false, false, false, false] rfl rfl (any_of HT_.out (by kernel_rfl)) (fun _ _ _ h => h) (Or.inl ⟨by rfl, ?_⟩) ?_ ?_
     rotate_left
     ·intro w'
      go_simp
      with_reducible rfl
     rotate_left
     ·simp only [Act.put, List.setIfInBounds_toArray, List.set_cons_zero, List.set_cons_succ, i64_w, i32_w]
      rfl
     refine pure_ (i := 3) (N := some 77) (v := ?_) (a' := ?_) #[true, true, true, true, false, false, false, false, false, false, false, false] rfl rfl (any_of HT_.out (by kernel_rfl)) (fun _ _ _ h => h) (Or.inl ⟨by rfl, ?_⟩) ?_ ?_
     rotate_left
     ·intro w'
      go_simp
      with_reducible rfl
     rotate_left
     ·simp only [Act.put, List.setIfInBounds_toArray, List.set_cons_zero, List.set_cons_succ, i64_w, i32_w]
      rfl
     refine pure_ (i := 4) (N := some 78) (v := ?_) (a' := ?_) #[true, true, true, true, true, false, false, false, false, false, false, false] rfl rfl (any_of HT_.out (by kernel_rfl)) (fun _ _ _ h => h) (Or.inl ⟨by rfl, ?_⟩) ?_ ?_
     rotate_left
     ·intro w'
      go_simp
      with_reducible rfl
     rotate_left
     ·simp only [Act.put, List.setIfInBounds_toArray, List.set_cons_zero, List.set_cons_succ, i64_w, i32_w]
      rfl
     refine take_ (i := 5) (N := some 79) (v := ?_) (a' := ?_) #[true, true, true, true, true, true, false, false, false, false, false, false] rfl rfl (take_ofW HT_.out HW_.out (by kernel_rfl)) (fun _ _ _ h => h) (Or.inl ⟨by rfl, ?_⟩) hHeld ?_ ?_
     rotate_left
     ·rintro w' ⟨s0, s1, s2, s3, s4, s5, s6, s7, s8⟩
      go_simp
      with_reducible rfl
     rotate_left
     ·simp only [Act.put, List.setIfInBounds_toArray, List.set_cons_zero, List.set_cons_succ, i64_w, i32_w]
      rfl
     refine take_ (i := 6) (N := some 80) (v := ?_) (a' := ?_) #[true, true, true, true, true, true, true, false, false, false, false, false] rfl rfl (take_ofW HT_.out HW_.out (by kernel_rfl)) (fun _ _ _ h => h) (Or.inl ⟨by rfl, ?_⟩) hHeld ?_ ?_
     rotate_left
     ·rintro w' ⟨s0, s1, s2, s3, s4, s5, s6, s7, s8⟩
      go_simp
      with_reducible rfl
     rotate_left
     ·simp only [Act.put, List.setIfInBounds_toArray, List.set_cons_zero, List.set_cons_succ, i64_w, i32_w]
      rfl
     refine take_ (i := 8) (N := some 82) (v := ?_) (a' := ?_) #[true, true, true, true, true, true, true, false, true, false, false, false] rfl rfl (take_ofW HT_.out HW_.out (by kernel_rfl)) (fun _ _ _ h => h) (Or.inl ⟨by rfl, ?_⟩) hHeld ?_ ?_
     rotate_left
     ·rintro w' ⟨s0, s1, s2, s3, s4, s5, s6, s7, s8⟩
      go_simp
      with_reducible rfl
     rotate_left
     ·simp only [Act.put, List.setIfInBounds_toArray, List.set_cons_zero, List.set_cons_succ, i64_w, i32_w]
      rfl
     refine one_ (i := 7) (N := some 81) #[true, true, true, true, true, true, true, true, true, false, false, false] rfl rfl (one_of HT_.out (by kernel_rfl)) (by decide) (fun K hK => ?_)
     refine goes_ Try.func72 (by kernel_rfl) rfl #[.agg #[.int .i64 t1403, .int .i64 t1404, .slice Ao15 t1405.length co15], .agg #[.int .i64 t1449, .int .i64 t1450, .slice Ao115 t1451.length co115]] (by rfl) rfl rfl sL_ ?_
     with_reducible refine (impl_ScreenPicture.calls t1403 t1404 _ _ t1405 t1449 t1450 _ _ t1451 t1464 t1465 t1466 _ ?side1 ?side2 ?side3 ?side4 A100.out).mono ?_
     (case side1 => repeat (first | exact (Kd.R_reads' HO_1409002.out).2.2 | (with_reducible refine Kd.C_alloc ?_ _) | (with_reducible refine Kd.C_drewN ?_ _) | (with_reducible refine Kd.C_drew ?_)))
     (case side2 => exact (Kd.R_reads' HO_1409002.out).2.1)
     (case side3 => repeat (first | exact (Kd.R_reads' HO1453.out).2.2 | (with_reducible refine Kd.C_alloc ?_ _) | (with_reducible refine Kd.C_drewN ?_ _) | (with_reducible refine Kd.C_drew ?_)))
     (case side4 => exact (Kd.R_reads' HO1453.out).2.1)
     rintro e w128 ⟨v1467, rfl, ho0, hb⟩
     refine ⟨_, rfl, ?_⟩
     have n0_ := Aside0.mk (Kd.R_elder' (sR_ HO_1409002.out) (Kd.R_base ho0) hb)
     have n1_ := Aside0.mk (Kd.R_elder' (sR_ HO_1418002.out) (Kd.R_base ho0) hb)
     have n2_ := Aside0.mk (Kd.R_elder' (sR_ HO_1433002.out) (Kd.R_base ho0) hb)
     have n3_ := Aside0.mk (Kd.R_elder' (sR_ HO_1439002.out) (Kd.R_base ho0) hb)
     have n4_ := Aside0.mk (Kd.R_elder' (sR_ HO_1445002.out) (Kd.R_base ho0) hb)
     have n5_ := Aside0.mk (Kd.R_elder' (sR_ HO1453.out) (Kd.R_base ho0) hb)
     have n6_ := Aside0.mk (Kd.R_elder' (sR_ HO1461.out) (Kd.R_base ho0) hb)
     have n7_ := Aside0.mk (Kd.R_lower (Kd.R_new' (Kd.R_new' (Kd.R_new' (Kd.R_new' (Kd.R_new' (Kd.R_new' (Kd.R_new' ho0 (Kd.R_lt (sR_ HO_1409002.out))) (Kd.R_lt (sR_ HO_1418002.out))) (Kd.R_lt (sR_ HO_1433002.out))) (Kd.R_lt (sR_ HO_1439002.out))) (Kd.R_lt (sR_ HO_1445002.out))) (Kd.R_lt (sR_ HO1453.out))) (Kd.R_lt (sR_ HO1461.out))) (below_size (sW_ HB.out)))
     have n8_ := Aside0.mk (blk_below (sB_ BK1408.out) hb)
     have n9_ := Aside0.mk (blk_below (sB_ BK1417.out) hb)
     have n10_ := Aside0.mk (blk_below (sB_ BK1432.out) hb)
     have n11_ := Aside0.mk (blk_below (sB_ BK1438.out) hb)
     have n12_ := Aside0.mk (blk_below (sB_ BK1444.out) hb)
     have n13_ := Aside0.mk (blk_below (sB_ BK1455.out) hb)
     have n14_ := Aside0.mk (blk_below (sB_ BK1463.out) hb)
     have n15_ := Aside0.mk (below_step (sW_ HB.out) hb)
     clear HO_1409002 HO_1418002 HO_1433002 HO_1439002 HO_1445002 HO1453 HO1461 BK1408 BK1417 BK1432 BK1438 BK1444 BK1455 BK1463 HB; have HO_1409002 := n0_; have HO_1418002 := n1_; have HO_1433002 := n2_; have HO_1439002 := n3_; have HO_1445002 := n4_; have HO1453 := n5_; have HO1461 := n6_; have HO1468 := n7_; have BK1408 := n8_; have BK1417 := n9_; have BK1432 := n10_; have BK1438 := n11_; have BK1444 := n12_; have BK1455 := n13_; have BK1463 := n14_; have HB := n15_; clear n0_ n1_ n2_ n3_ n4_ n5_ n6_ n7_ n8_ n9_ n10_ n11_ n12_ n13_ n14_ n15_
     (try clear hb)
     (try clear hb2)
     (try clear hk)
     (try clear hi)
     (try clear ho0)
     obtain ⟨Ao129, co129, eo129⟩ := Kd.R_slice HO1468.out
     (first | subst eo129 | (injection eo129 with f1_ f2_ f3_; have f4_ := f1_.symm; have f5_ := f3_.symm; clear f1_ f2_ f3_; subst f4_; subst f5_))
     refine hK.out _ _ ⟨(blk_cell BK1408.out 0).trans rfl, (blk_cell BK1408.out 1).trans rfl, (blk_cell BK1408.out 2).trans rfl, (blk_cell BK1455.out 0).trans rfl, (blk_cell BK1455.out 1).trans rfl, (blk_cell BK1455.out 2).trans rfl, (blk_cell BK1463.out 0).trans rfl, (blk_cell BK1463.out 1).trans rfl, (blk_cell BK1463.out 2).trans rfl⟩ (fun hHeld => ?_)
     clear hK K
     refine norm_ (a' := ?_) ?_ ?_
     rotate_left
     ·show Act.put _ (some 81) _ = _
      simp only [Act.put, List.setIfInBounds_toArray, List.set_cons_zero, List.set_cons_succ, i64_w, i32_w]
      rfl
     refine one_ (i := 9) (N := some 83) #[true, true, true, true, true, true, true, true, true, true, false, false] rfl rfl (one_of HT_.out (by kernel_rfl)) (by decide) (fun K hK => ?_)
     refine goes_ Try.func74 (by kernel_rfl) rfl #[.agg #[.int .i64 t1464, .int .i64 t1465, .slice Ao129 t1466.length co129], .agg #[.int .i64 t1457, .int .i64 t1458, .slice Ao124 t1459.length co124]] (by rfl) rfl rfl sL_ ?_
     with_reducible refine (laws_same.calls kj10 t1464 t1465 _ _ t1466 t1457 t1458 _ _ t1459 t1469 _ ?side1 ?side2 ?side3 ?side4 A101.out).mono ?_
     (case side1 => repeat (first | exact (Kd.R_reads' HO1468.out).2.2 | (with_reducible refine Kd.C_alloc ?_ _) | (with_reducible refine Kd.C_drewN ?_ _) | (with_reducible refine Kd.C_drew ?_)))
     (case side2 => exact (Kd.R_reads' HO1468.out).2.1)
     (case side3 => repeat (first | exact (Kd.R_reads' HO1461.out).2.2 | (with_reducible refine Kd.C_alloc ?_ _) | (with_reducible refine Kd.C_drewN ?_ _) | (with_reducible refine Kd.C_drew ?_)))
     (case side4 => exact (Kd.R_reads' HO1461.out).2.1)
     rintro e w130 ⟨rfl, hb⟩
     refine ⟨_, rfl, ?_⟩
     have n0_ := Aside0.mk (Kd.R_below (sR_ HO_1409002.out) hb)
     have n1_ := Aside0.mk (Kd.R_below (sR_ HO_1418002.out) hb)
     have n2_ := Aside0.mk (Kd.R_below (sR_ HO_1433002.out) hb)
     have n3_ := Aside0.mk (Kd.R_below (sR_ HO_1439002.out) hb)
     have n4_ := Aside0.mk (Kd.R_below (sR_ HO_1445002.out) hb)
     have n5_ := Aside0.mk (Kd.R_below (sR_ HO1453.out) hb)
     have n6_ := Aside0.mk (Kd.R_below (sR_ HO1461.out) hb)
     have n7_ := Aside0.mk (Kd.R_below (sR_ HO1468.out) hb)
     have n8_ := Aside0.mk (blk_below (sB_ BK1408.out) hb)
     have n9_ := Aside0.mk (blk_below (sB_ BK1417.out) hb)
     have n10_ := Aside0.mk (blk_below (sB_ BK1432.out) hb)
     have n11_ := Aside0.mk (blk_below (sB_ BK1438.out) hb)
     have n12_ := Aside0.mk (blk_below (sB_ BK1444.out) hb)
     have n13_ := Aside0.mk (blk_below (sB_ BK1455.out) hb)
     have n14_ := Aside0.mk (blk_below (sB_ BK1463.out) hb)
     have n15_ := Aside0.mk (below_step (sW_ HB.out) hb)
     clear HO_1409002 HO_1418002 HO_1433002 HO_1439002 HO_1445002 HO1453 HO1461 HO1468 BK1408 BK1417 BK1432 BK1438 BK1444 BK1455 BK1463 HB; have HO_1409002 := n0_; have HO_1418002 := n1_; have HO_1433002 := n2_; have HO_1439002 := n3_; have HO_1445002 := n4_; have HO1453 := n5_; have HO1461 := n6_; have HO1468 := n7_; have BK1408 := n8_; have BK1417 := n9_; have BK1432 := n10_; have BK1438 := n11_; have BK1444 := n12_; have BK1455 := n13_; have BK1463 := n14_; have HB := n15_; clear n0_ n1_ n2_ n3_ n4_ n5_ n6_ n7_ n8_ n9_ n10_ n11_ n12_ n13_ n14_ n15_
     (try clear hb)
     (try clear hb2)
     (try clear hk)
     (try clear hi)
     refine hK.out _ _ ⟨(blk_cell BK1408.out 0).trans rfl, (blk_cell BK1408.out 1).trans rfl, (blk_cell BK1408.out 2).trans rfl, (blk_cell BK1455.out 0).trans rfl, (blk_cell BK1455.out 1).trans rfl, (blk_cell BK1455.out 2).trans rfl, (blk_cell BK1463.out 0).trans rfl, (blk_cell BK1463.out 1).trans rfl, (blk_cell BK1463.out 2).trans rfl⟩ (fun hHeld => ?_)
     clear hK K
     refine norm_ (a' := ?_) ?_ ?_
     rotate_left
     ·show Act.put _ (some 83) _ = _
      simp only [Act.put, List.setIfInBounds_toArray, List.set_cons_zero, List.set_cons_succ, i64_w, i32_w]
      rfl
     refine pure_ (i := 10) (N := some 84) (v := ?_) (a' := ?_) #[true, true, true, true, true, true, true, true, true, true, true, false] rfl rfl (any_of HT_.out (by kernel_rfl)) (fun _ _ _ h => h) (Or.inl ⟨by rfl, ?_⟩) ?_ ?_
     rotate_left
     ·intro w'
      go_simp
      with_reducible rfl
     rotate_left
     ·simp only [Act.put, List.setIfInBounds_toArray, List.set_cons_zero, List.set_cons_succ, i64_w, i32_w]
      rfl
     refine pure_ (i := 11) (N := some 2) (v := ?_) (a' := ?_) #[true, true, true, true, true, true, true, true, true, true, true, true] rfl rfl (any_of HT_.out (by kernel_rfl)) (fun _ _ _ h => h) (Or.inl ⟨by rfl, ?_⟩) ?_ ?_
     rotate_left
     ·intro w'
      go_simp
      with_reducible rfl
     rotate_left
     ·simp only [Act.put, List.setIfInBounds_toArray, List.set_cons_zero, List.set_cons_succ, i64_w, i32_w]
      rfl
     refine done_ (done_of HT_.out (by kernel_rfl)) ?_
     try go_wp2
     go_ret
     exact ⟨by first | rfl | (simp [errW_none, errW_some] <;> rfl) | (simp [*, errW_none, errW_some] <;> rfl), by repeat (first | (with_reducible first | exact HB.out | apply below_alloc | apply pw_below_drewN | apply below_drew1 | refine below_set ?_ GE1408.out | refine below_set ?_ GE1417.out | refine below_set ?_ GE1432.out | refine below_set ?_ GE1438.out | refine below_set ?_ GE1444.out | refine below_set ?_ GE1455.out | refine below_set ?_ GE1463.out) | exact HB.out)⟩
    replace c99 := Bool.eq_false_iff.mpr c99
    subst c99
    have H1 : (some false) = some r := by rw [if_neg (show ¬ (false = true) by decide)] at H; exact H
    clear H; have H := H1; clear H1
    exact absurd ((Option.some.inj H).trans hT.out) (by decide)
   replace c98 := Bool.eq_false_iff.mpr c98
   subst c98
   have H1 : (some false) = some r := by rw [if_neg (show ¬ (false = true) by decide)] at H; exact H
   clear H; have H := H1; clear H1
   exact absurd ((Option.some.inj H).trans hT.out) (by decide)

end Go.Proofs.Ytdlehfnlibddcaa.P
