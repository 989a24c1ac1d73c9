-- Written by tools/seatprint.py (over the kit's print, changed in memory). Not trusted: Lean checks it.
import Derived.Test.YtndnklicfibkeaaP0
import Derived.Test.YtndnklicfibkeaaFlawsszPicture
import Derived.Test.YtndnklicfibkeaaFspecAddPictures
import Derived.Test.YtndnklicfibkeaaFlawstoPicture
import Derived.Test.YtndnklicfibkeaaFimplAddPictures
import Derived.Test.YtndnklicfibkeaaFlawseqPicture
import Derived.Test.YtndnklicfibkeaaFlawsmarkPicture
import Derived.Test.YtndnklicfibkeaaFlawsheldPicture
namespace Go.Proofs.Ytndnklicfibkeaa.P
open Go.RowKit Go.Proofs.YtndnklicfibkeaaW.PrintWords Go.Proofs.YtndnklicfibkeaaW.PrintLast Go.Proofs.YtndnklicfibkeaaW.PrintMore
attribute [local go_sem] max2_int min2_int max_two min_two max_three min_three max_four min_four   -- for this text's walks alone
set_option linter.unusedVariables false
set_option linter.unusedSimpArgs false

/-! ### laws_FnExactAddPictures: function 5 -/
mutual
def laws_FnExactAddPictures.j0 : Nat → Bool → Bool → Bool → Int → Int → List Int → Int → Int → List Int → Int → Int → List Int → Int → Int → List Int → Int → Int → List Int → Int → Int → List Int → Option (Bool)
  | 0, _, _, _, _, _, _, _, _, _, _, _, _, _, _, _, _, _, _, _, _, _ => none
  | k + 1, x7, x11, x53, x456000, x456001, x456002, x457000, x457001, x457002, x476000, x476001, x476002, x482000, x482001, x482002, x488000, x488001, x488002, x495000, x495001, x495002 => if x53 = true then (some false) else ((laws_toPicture.f k x456000 x456001 x456002).bind fun bt496 => ((laws_eqPicture.f k x482000 x482001 x482002 bt496.1 bt496.2.1 bt496.2.2).bind fun t501 => (if t501 = true then ((laws_toPicture.f k x457000 x457001 x457002).bind fun bt502 => ((laws_eqPicture.f k x488000 x488001 x488002 bt502.1 bt502.2.1 bt502.2.2).bind fun t507 => (if t507 = true then ((laws_markPicture.f k x482000 x482001 x482002 1).bind fun bt508 => ((laws_markPicture.f k x488000 x488001 x488002 bt508.1).bind fun bt510 => (if bt510.1 < 0 then (laws_FnExactAddPictures.j1 k x7 true x456000 x456001 x456002 x457000 x457001 x457002 x476000 x476001 x476002 x495000 x495001 x495002) else ((laws_eqPicture.f k x495000 x495001 x495002 x476000 x476001 x476002).bind fun t512 => (if t512 = true then (laws_FnExactAddPictures.j1 k x7 (x11 != x7) x456000 x456001 x456002 x457000 x457001 x457002 x476000 x476001 x476002 x495000 x495001 x495002) else (laws_FnExactAddPictures.j1 k x7 true x456000 x456001 x456002 x457000 x457001 x457002 x476000 x476001 x476002 x495000 x495001 x495002)))))) else (some false)))) else (some false))))
def laws_FnExactAddPictures.j1 : Nat → Bool → Bool → Int → Int → List Int → Int → Int → List Int → Int → Int → List Int → Int → Int → List Int → Option (Bool)
  | 0, _, _, _, _, _, _, _, _, _, _, _, _, _, _ => none
  | k + 1, x7, x82, x456000, x456001, x456002, x457000, x457001, x457002, x476000, x476001, x476002, x495000, x495001, x495002 => if x82 = true then (some false) else ((laws_markPicture.f k x495000 x495001 x495002 1).bind fun bt513 => ((laws_heldPicture.f k x495000 x495001 bt513.2 1).bind fun t515 => (if t515 < 0 then (some false) else (if t515 = bt513.1 then ((laws_toPicture.f k x456000 x456001 x456002).bind fun bt516 => ((laws_toPicture.f k x457000 x457001 x457002).bind fun bt521 => ((impl_AddPictures.f bt516.1 bt516.2.1 bt516.2.2 bt521.1 bt521.2.1 bt521.2.2).bind fun bt526 => ((laws_eqPicture.f k bt526.1 bt526.2.1 bt526.2.2.1 x476000 x476001 x476002).bind fun t533 => (if t533 = true then (laws_FnExactAddPictures.j2 k bt513.1 (bt526.2.2.2 != x7) x495000 x495001 bt513.2) else (laws_FnExactAddPictures.j2 k bt513.1 true x495000 x495001 bt513.2)))))) else (some false)))))
def laws_FnExactAddPictures.j2 : Nat → Int → Bool → Int → Int → List Int → Option (Bool)
  | 0, _, _, _, _, _ => none
  | k + 1, x13, x110, x495000, x495001, x495002 => if x110 = true then (some false) else ((laws_heldPicture.f k x495000 x495001 x495002 1).bind fun t534 => (if t534 < 0 then (some false) else (if t534 = x13 then (some true) else (some false))))
end
def laws_FnExactAddPictures.f (k : Nat) (a0_0 : Int) (a0_1 : Int) (l0_2 : List Int) (a1_0 : Int) (a1_1 : Int) (l1_2 : List Int) : Option (Bool) := (laws_szPicture.f a0_0 a0_1 l0_2 1048576).bind fun t457 => (if t457 < 0 then (some true) else ((laws_szPicture.f a1_0 a1_1 l1_2 t457).bind fun t458 => (if t458 < 0 then (some true) else ((laws_toPicture.f k a0_0 a0_1 l0_2).bind fun bt459 => ((laws_toPicture.f k a1_0 a1_1 l1_2).bind fun bt464 => ((spec_AddPictures.f k bt459.1 bt459.2.1 bt459.2.2 bt464.1 bt464.2.1 bt464.2.2).bind fun bt469 => ((laws_toPicture.f k a0_0 a0_1 l0_2).bind fun bt476 => ((laws_toPicture.f k a1_0 a1_1 l1_2).bind fun bt482 => ((impl_AddPictures.f bt476.1 bt476.2.1 bt476.2.2 bt482.1 bt482.2.1 bt482.2.2).bind fun bt488 => ((laws_eqPicture.f k bt488.1 bt488.2.1 bt488.2.2.1 bt469.1 bt469.2.1 bt469.2.2.1).bind fun t495 => (if t495 = true then (laws_FnExactAddPictures.j0 k bt469.2.2.2 bt488.2.2.2 (bt488.2.2.2 != bt469.2.2.2) a0_0 a0_1 l0_2 a1_0 a1_1 l1_2 bt469.1 bt469.2.1 bt469.2.2.1 bt476.1 bt476.2.1 bt476.2.2 bt482.1 bt482.2.1 bt482.2.2 bt488.1 bt488.2.1 bt488.2.2.1) else (laws_FnExactAddPictures.j0 k bt469.2.2.2 bt488.2.2.2 true a0_0 a0_1 l0_2 a1_0 a1_1 l1_2 bt469.1 bt469.2.1 bt469.2.2.1 bt476.1 bt476.2.1 bt476.2.2 bt482.1 bt482.2.1 bt482.2.2 bt488.1 bt488.2.1 bt488.2.2.1))))))))))))
theorem laws_FnExactAddPictures.mono_l : ∀ k, (∀ y0 y1 y2 y3 y4 y5 y6 y7 y8 y9 y10 y11 y12 y13 y14 y15 y16 y17 y18 y19 y20, LeO (laws_FnExactAddPictures.j0 k y0 y1 y2 y3 y4 y5 y6 y7 y8 y9 y10 y11 y12 y13 y14 y15 y16 y17 y18 y19 y20) (laws_FnExactAddPictures.j0 (k + 1) y0 y1 y2 y3 y4 y5 y6 y7 y8 y9 y10 y11 y12 y13 y14 y15 y16 y17 y18 y19 y20)) ∧ (∀ y0 y1 y2 y3 y4 y5 y6 y7 y8 y9 y10 y11 y12 y13, LeO (laws_FnExactAddPictures.j1 k y0 y1 y2 y3 y4 y5 y6 y7 y8 y9 y10 y11 y12 y13) (laws_FnExactAddPictures.j1 (k + 1) y0 y1 y2 y3 y4 y5 y6 y7 y8 y9 y10 y11 y12 y13)) ∧ (∀ y0 y1 y2 y3 y4, LeO (laws_FnExactAddPictures.j2 k y0 y1 y2 y3 y4) (laws_FnExactAddPictures.j2 (k + 1) y0 y1 y2 y3 y4))
  | 0 => ⟨fun _ _ _ _ _ _ _ _ _ _ _ _ _ _ _ _ _ _ _ _ _ r h => by simp [laws_FnExactAddPictures.j0] at h, fun _ _ _ _ _ _ _ _ _ _ _ _ _ _ r h => by simp [laws_FnExactAddPictures.j1] at h, fun _ _ _ _ _ r h => by simp [laws_FnExactAddPictures.j2] at h⟩
  | k + 1 => by
    obtain ⟨ih0, ih1, ih2⟩ := laws_FnExactAddPictures.mono_l k
    refine ⟨?_, ?_, ?_⟩
    · intro y0 y1 y2 y3 y4 y5 y6 y7 y8 y9 y10 y11 y12 y13 y14 y15 y16 y17 y18 y19 y20
      unfold laws_FnExactAddPictures.j0
      repeat' first
      | (with_reducible exact ih0 _ _ _ _ _ _ _ _ _ _ _ _ _ _ _ _ _ _ _ _ _)
      | (with_reducible exact ih1 _ _ _ _ _ _ _ _ _ _ _ _ _ _)
      | (with_reducible exact ih2 _ _ _ _ _)
      | (with_reducible exact laws_eqPicture.mono _ _ _ _ _ _ _)
      | (with_reducible exact laws_heldPicture.mono _ _ _ _ _)
      | (with_reducible exact laws_markPicture.mono _ _ _ _ _)
      | (with_reducible exact laws_toPicture.mono _ _ _ _)
      | (with_reducible exact spec_AddPictures.mono _ _ _ _ _ _ _)
      | (with_reducible exact LeO.refl _)
      | (with_reducible exact LeO.none _)
      | (with_reducible refine LeO.ite ?_ ?_)
      | (with_reducible refine LeO.bind ?_ (fun _ => ?_))
      | exact ih0 _ _ _ _ _ _ _ _ _ _ _ _ _ _ _ _ _ _ _ _ _
      | exact ih1 _ _ _ _ _ _ _ _ _ _ _ _ _ _
      | exact ih2 _ _ _ _ _
      | exact laws_eqPicture.mono _ _ _ _ _ _ _
      | exact laws_heldPicture.mono _ _ _ _ _
      | exact laws_markPicture.mono _ _ _ _ _
      | exact laws_toPicture.mono _ _ _ _
      | exact spec_AddPictures.mono _ _ _ _ _ _ _
      | exact LeO.none _
      | refine LeO.ite ?_ ?_
      | refine LeO.bind ?_ (fun _ => ?_)
    · intro y0 y1 y2 y3 y4 y5 y6 y7 y8 y9 y10 y11 y12 y13
      unfold laws_FnExactAddPictures.j1
      repeat' first
      | (with_reducible exact ih0 _ _ _ _ _ _ _ _ _ _ _ _ _ _ _ _ _ _ _ _ _)
      | (with_reducible exact ih1 _ _ _ _ _ _ _ _ _ _ _ _ _ _)
      | (with_reducible exact ih2 _ _ _ _ _)
      | (with_reducible exact laws_eqPicture.mono _ _ _ _ _ _ _)
      | (with_reducible exact laws_heldPicture.mono _ _ _ _ _)
      | (with_reducible exact laws_markPicture.mono _ _ _ _ _)
      | (with_reducible exact laws_toPicture.mono _ _ _ _)
      | (with_reducible exact spec_AddPictures.mono _ _ _ _ _ _ _)
      | (with_reducible exact LeO.refl _)
      | (with_reducible exact LeO.none _)
      | (with_reducible refine LeO.ite ?_ ?_)
      | (with_reducible refine LeO.bind ?_ (fun _ => ?_))
      | exact ih0 _ _ _ _ _ _ _ _ _ _ _ _ _ _ _ _ _ _ _ _ _
      | exact ih1 _ _ _ _ _ _ _ _ _ _ _ _ _ _
      | exact ih2 _ _ _ _ _
      | exact laws_eqPicture.mono _ _ _ _ _ _ _
      | exact laws_heldPicture.mono _ _ _ _ _
      | exact laws_markPicture.mono _ _ _ _ _
      | exact laws_toPicture.mono _ _ _ _
      | exact spec_AddPictures.mono _ _ _ _ _ _ _
      | exact LeO.none _
      | refine LeO.ite ?_ ?_
      | refine LeO.bind ?_ (fun _ => ?_)
    · intro y0 y1 y2 y3 y4
      unfold laws_FnExactAddPictures.j2
      repeat' first
      | (with_reducible exact ih0 _ _ _ _ _ _ _ _ _ _ _ _ _ _ _ _ _ _ _ _ _)
      | (with_reducible exact ih1 _ _ _ _ _ _ _ _ _ _ _ _ _ _)
      | (with_reducible exact ih2 _ _ _ _ _)
      | (with_reducible exact laws_eqPicture.mono _ _ _ _ _ _ _)
      | (with_reducible exact laws_heldPicture.mono _ _ _ _ _)
      | (with_reducible exact laws_markPicture.mono _ _ _ _ _)
      | (with_reducible exact laws_toPicture.mono _ _ _ _)
      | (with_reducible exact spec_AddPictures.mono _ _ _ _ _ _ _)
      | (with_reducible exact LeO.refl _)
      | (with_reducible exact LeO.none _)
      | (with_reducible refine LeO.ite ?_ ?_)
      | (with_reducible refine LeO.bind ?_ (fun _ => ?_))
      | exact ih0 _ _ _ _ _ _ _ _ _ _ _ _ _ _ _ _ _ _ _ _ _
      | exact ih1 _ _ _ _ _ _ _ _ _ _ _ _ _ _
      | exact ih2 _ _ _ _ _
      | exact laws_eqPicture.mono _ _ _ _ _ _ _
      | exact laws_heldPicture.mono _ _ _ _ _
      | exact laws_markPicture.mono _ _ _ _ _
      | exact laws_toPicture.mono _ _ _ _
      | exact spec_AddPictures.mono _ _ _ _ _ _ _
      | exact LeO.none _
      | refine LeO.ite ?_ ?_
      | refine LeO.bind ?_ (fun _ => ?_)
theorem laws_FnExactAddPictures.mono : ∀ a0 a1 a2 a3 a4 a5 k, LeO (laws_FnExactAddPictures.f k a0 a1 a2 a3 a4 a5) (laws_FnExactAddPictures.f (k + 1) a0 a1 a2 a3 a4 a5) := by
  intro a0 a1 a2 a3 a4 a5 k
  obtain ⟨ih0, ih1, ih2⟩ := laws_FnExactAddPictures.mono_l k
  unfold laws_FnExactAddPictures.f
  repeat' first
      | (with_reducible exact ih0 _ _ _ _ _ _ _ _ _ _ _ _ _ _ _ _ _ _ _ _ _)
      | (with_reducible exact ih1 _ _ _ _ _ _ _ _ _ _ _ _ _ _)
      | (with_reducible exact ih2 _ _ _ _ _)
      | (with_reducible exact laws_eqPicture.mono _ _ _ _ _ _ _)
      | (with_reducible exact laws_heldPicture.mono _ _ _ _ _)
      | (with_reducible exact laws_markPicture.mono _ _ _ _ _)
      | (with_reducible exact laws_toPicture.mono _ _ _ _)
      | (with_reducible exact spec_AddPictures.mono _ _ _ _ _ _ _)
      | (with_reducible exact LeO.refl _)
      | (with_reducible exact LeO.none _)
      | (with_reducible refine LeO.ite ?_ ?_)
      | (with_reducible refine LeO.bind ?_ (fun _ => ?_))
      | exact ih0 _ _ _ _ _ _ _ _ _ _ _ _ _ _ _ _ _ _ _ _ _
      | exact ih1 _ _ _ _ _ _ _ _ _ _ _ _ _ _
      | exact ih2 _ _ _ _ _
      | exact laws_eqPicture.mono _ _ _ _ _ _ _
      | exact laws_heldPicture.mono _ _ _ _ _
      | exact laws_markPicture.mono _ _ _ _ _
      | exact laws_toPicture.mono _ _ _ _
      | exact spec_AddPictures.mono _ _ _ _ _ _ _
      | exact LeO.none _
      | refine LeO.ite ?_ ?_
      | refine LeO.bind ?_ (fun _ => ?_)
def laws_FnExactAddPictures.T8 : Bool × List (List Nat × List Nat) := (true, [([], []), ([0], [0]), ([], []), ([2, 1], [2]), ([1, 3, 3], [1, 3]), ([4], [4]), ([5], [5]), ([5], [5]), ([], []), ([8, 6, 4, 0, 1, 2, 3, 4, 5, 6, 8], [6, 8]), ([7, 9, 0, 1, 2, 3, 4, 5, 6, 7, 8, 9], [7])])
def laws_FnExactAddPictures.B8 : List Nat := [0, 1, 0, 7, 15, 31, 63, 63, 0, 383, 1023]
theorem laws_FnExactAddPictures.tab8 : rtab .any (opsOf Try.f5 8) = laws_FnExactAddPictures.T8 := by kernel_rfl
theorem laws_FnExactAddPictures.bits8 : waitsOk laws_FnExactAddPictures.T8.2 laws_FnExactAddPictures.B8 = true := by kernel_rfl
def laws_FnExactAddPictures.T31 : Bool × List (List Nat × List Nat) := (true, [([], []), ([0], [0]), ([], []), ([2, 1], [2]), ([1, 3, 3], [1, 3]), ([4], [4]), ([5], [5]), ([5], [5]), ([], []), ([8, 6, 4, 0, 1, 2, 3, 4, 5, 6, 8], [6, 8]), ([7, 9, 0, 1, 2, 3, 4, 5, 6, 7, 8, 9], [7])])
def laws_FnExactAddPictures.B31 : List Nat := [0, 1, 0, 7, 15, 31, 63, 63, 0, 383, 1023]
theorem laws_FnExactAddPictures.tab31 : rtab .any (opsOf Try.f5 31) = laws_FnExactAddPictures.T31 := by kernel_rfl
theorem laws_FnExactAddPictures.bits31 : waitsOk laws_FnExactAddPictures.T31.2 laws_FnExactAddPictures.B31 = true := by kernel_rfl
set_option maxHeartbeats 8000000 in
set_option maxRecDepth 100000 in
theorem laws_FnExactAddPictures.calls (k : Nat) (a0_0 : Int) (a0_1 : Int) (A0_2 : Option Addr) (c0_2 : Nat) (l0_2 : List Int) (a1_0 : Int) (a1_1 : Int) (A1_2 : Option Addr) (c1_2 : Nat) (l1_2 : List Int) (r : Bool) (w : World) (hr0_2 : Kd.C (Kd.int .i64) w A0_2 l0_2.length l0_2) (hc0_2 : l0_2.length ≤ c0_2) (hr1_2 : Kd.C (Kd.int .i64) w A1_2 l1_2.length l1_2) (hc1_2 : l1_2.length ≤ c1_2) (hT : Aside0 (r = true)) (h : laws_FnExactAddPictures.f k a0_0 a0_1 l0_2 a1_0 a1_1 l1_2 = some r) :
  Calls Try.prog 5 #[.agg #[.int .i64 a0_0, .int .i64 a0_1, .slice A0_2 l0_2.length c0_2], .agg #[.int .i64 a1_0, .int .i64 a1_1, .slice A1_2 l1_2.length c1_2]] w fun e w' => e = .returned (.bool r) ∧ Below w.heap.size w w' := by
 have hu39 := Try.underlying39
 have hu27 := Try.underlying27
 have HR0_2 := Aside0.mk hr0_2
 have HC0_2 := Aside0.mk hc0_2
 clear hr0_2 hc0_2
 have HR1_2 := Aside0.mk hr1_2
 have HC1_2 := Aside0.mk hc1_2
 clear hr1_2 hc1_2
 have HB := Aside0.mk (Below.refl w.heap.size w)
 have H : ((laws_szPicture.f a0_0 a0_1 l0_2 1048576).bind fun t457 => (if t457 < 0 then (some true) else ((laws_szPicture.f a1_0 a1_1 l1_2 t457).bind fun t458 => (if t458 < 0 then (some true) else ((laws_toPicture.f k a0_0 a0_1 l0_2).bind fun bt459 => ((laws_toPicture.f k a1_0 a1_1 l1_2).bind fun bt464 => ((spec_AddPictures.f k bt459.1 bt459.2.1 bt459.2.2 bt464.1 bt464.2.1 bt464.2.2).bind fun bt469 => ((laws_toPicture.f k a0_0 a0_1 l0_2).bind fun bt476 => ((laws_toPicture.f k a1_0 a1_1 l1_2).bind fun bt482 => ((impl_AddPictures.f bt476.1 bt476.2.1 bt476.2.2 bt482.1 bt482.2.1 bt482.2.2).bind fun bt488 => ((laws_eqPicture.f k bt488.1 bt488.2.1 bt488.2.2.1 bt469.1 bt469.2.1 bt469.2.2.1).bind fun t495 => (if t495 = true then (laws_FnExactAddPictures.j0 k bt469.2.2.2 bt488.2.2.2 (bt488.2.2.2 != bt469.2.2.2) a0_0 a0_1 l0_2 a1_0 a1_1 l1_2 bt469.1 bt469.2.1 bt469.2.2.1 bt476.1 bt476.2.1 bt476.2.2 bt482.1 bt482.2.1 bt482.2.2 bt488.1 bt488.2.1 bt488.2.2.1) else (laws_FnExactAddPictures.j0 k bt469.2.2.2 bt488.2.2.2 true a0_0 a0_1 l0_2 a1_0 a1_1 l1_2 bt469.1 bt469.2.1 bt469.2.2.1 bt476.1 bt476.2.1 bt476.2.2 bt482.1 bt482.2.1 bt482.2.2 bt488.1 bt488.2.1 bt488.2.2.1))))))))))))) = some r := h
 clear h
 replace H := Option.bind_eq_some_iff.mp H
 obtain ⟨t457, A30, H⟩ := H
 replace H : (if t457 < 0 then (some true) else ((laws_szPicture.f a1_0 a1_1 l1_2 t457).bind fun t458 => (if t458 < 0 then (some true) else ((laws_toPicture.f k a0_0 a0_1 l0_2).bind fun bt459 => ((laws_toPicture.f k a1_0 a1_1 l1_2).bind fun bt464 => ((spec_AddPictures.f k bt459.1 bt459.2.1 bt459.2.2 bt464.1 bt464.2.1 bt464.2.2).bind fun bt469 => ((laws_toPicture.f k a0_0 a0_1 l0_2).bind fun bt476 => ((laws_toPicture.f k a1_0 a1_1 l1_2).bind fun bt482 => ((impl_AddPictures.f bt476.1 bt476.2.1 bt476.2.2 bt482.1 bt482.2.1 bt482.2.2).bind fun bt488 => ((laws_eqPicture.f k bt488.1 bt488.2.1 bt488.2.2.1 bt469.1 bt469.2.1 bt469.2.2.1).bind fun t495 => (if t495 = true then (laws_FnExactAddPictures.j0 k bt469.2.2.2 bt488.2.2.2 (bt488.2.2.2 != bt469.2.2.2) a0_0 a0_1 l0_2 a1_0 a1_1 l1_2 bt469.1 bt469.2.1 bt469.2.2.1 bt476.1 bt476.2.1 bt476.2.2 bt482.1 bt482.2.1 bt482.2.2 bt488.1 bt488.2.1 bt488.2.2.1) else (laws_FnExactAddPictures.j0 k bt469.2.2.2 bt488.2.2.2 true a0_0 a0_1 l0_2 a1_0 a1_1 l1_2 bt469.1 bt469.2.1 bt469.2.2.1 bt476.1 bt476.2.1 bt476.2.2 bt482.1 bt482.2.1 bt482.2.2 bt488.1 bt488.2.1 bt488.2.2.1)))))))))))) = some r := H
 have A3 := Aside0.mk A30
 clear A30
 by_cases c4 : t457 < 0
 ·rw [if_pos c4] at H
  have c4b0 : decide (t457 < 0) = true := decide_eq_true c4
  clear c4
  obtain rfl := Option.some.inj H
  go_enter Try.func5, Try.ntmps5
  go_wp2_with (first | ((with_reducible refine gate_dst (N := 2) rfl ?_); refine box_event ?hg (N := 2) ?hd (cs := #[.int .i64 a0_0, .int .i64 a0_1, .slice A0_2 l0_2.length c0_2]) (t := 39) ?hr ?_; (case hd => rfl); (case hg => rfl); (case hr => first | (go_simp; done) | (go_simp; rfl)); intro gb455 hg w5 hbox hb; have n0_ := Aside0.mk (below_step (sW_ HB.out) hb); have n1_ := Aside0.mk (hbox); have n2_ := Aside0.mk ((by rw [hg]; exact (below_size (sW_ HB.out)) : w.heap.size ≤ gb455)); have n3_ := n2_; clear HB; have HB := n0_; have BK455 := n1_; have GW455 := n2_; have GE455 := n3_; clear n0_ n1_ n2_ n3_; clear hb hbox hg) | ((with_reducible refine gate_dst (N := 3) rfl ?_); refine box_event ?hg (N := 3) ?hd (cs := #[.int .i64 a1_0, .int .i64 a1_1, .slice A1_2 l1_2.length c1_2]) (t := 39) ?hr ?_; (case hd => rfl); (case hg => rfl); (case hr => first | (go_simp; done) | (go_simp; rfl)); intro gb456 hg w6 hbox hb; have n0_ := Aside0.mk (blk_below (sB_ BK455.out) hb); have n1_ := Aside0.mk (below_step (sW_ HB.out) hb); have n2_ := Aside0.mk (hbox); have n3_ := Aside0.mk ((by rw [hg]; exact (below_size (sW_ HB.out)) : w.heap.size ≤ gb456)); have n4_ := n3_; have n5_ := Aside0.mk (sN_ hg (blk_lt (sB_ BK455.out))); have n6_ := Aside0.mk n5_.out.symm; clear BK455 HB; have BK455 := n0_; have HB := n1_; have BK456 := n2_; have GW456 := n3_; have GE456 := n4_; have NB455_456 := n5_; have NB456_455 := n6_; clear n0_ n1_ n2_ n3_ n4_ n5_ n6_; clear hb hbox hg; have hnb7 := NB455_456.out; have hnc7 := NB456_455.out; obtain ⟨hcz8_0, hcz8_1, hcz8_2, hfz8_0, hfz8_1, hfz8_2⟩ := sZ_ BK455.out) | ((with_reducible refine gate_callee (f := 18) rfl ?_); refine goesL_ (some 19) rfl rfl Try.func18 (by kernel_rfl) rfl #[.agg #[.int .i64 a0_0, .int .i64 a0_1, .slice A0_2 l0_2.length c0_2], .int .i64 1048576] rfl sL_ ?_; (with_reducible refine (laws_szPicture.calls a0_0 a0_1 _ _ l0_2 1048576 t457 _ ?side1 ?side2 A3.out).mono ?_); (case side1 => repeat (first | exact (Kd.C_below HR0_2.out HB.out) | (with_reducible refine Kd.C_alloc ?_ _) | (with_reducible refine Kd.C_drewN ?_ _) | (with_reducible refine Kd.C_drew ?_))); (case side2 => exact HC0_2.out); rintro e w9 ⟨rfl, hb⟩; refine ⟨_, rfl, ?_⟩; have n0_ := Aside0.mk (blk_below (sB_ BK455.out) hb); have n1_ := Aside0.mk (blk_below (sB_ BK456.out) hb); have n2_ := Aside0.mk (below_step (sW_ HB.out) hb); clear BK455 BK456 HB; have BK455 := n0_; have BK456 := n1_; have HB := n2_; clear n0_ n1_ n2_; (try clear hb); (try clear hb2); (try clear hk); (try clear hi)))
  go_ret
  exact ⟨by first | rfl | (simp [errW_none, errW_some] <;> rfl) | (simp [*, errW_none, errW_some] <;> rfl), by repeat (first | (with_reducible first | exact HB.out | apply below_alloc | apply pw_below_drewN | apply below_drew1 | refine below_set ?_ GE455.out | refine below_set ?_ GE456.out) | exact HB.out)⟩
 rw [if_neg c4] at H
 have c4b0 : decide (t457 < 0) = false := decide_eq_false c4
 clear c4
 replace H := Option.bind_eq_some_iff.mp H
 obtain ⟨t458, A100, H⟩ := H
 replace H : (if t458 < 0 then (some true) else ((laws_toPicture.f k a0_0 a0_1 l0_2).bind fun bt459 => ((laws_toPicture.f k a1_0 a1_1 l1_2).bind fun bt464 => ((spec_AddPictures.f k bt459.1 bt459.2.1 bt459.2.2 bt464.1 bt464.2.1 bt464.2.2).bind fun bt469 => ((laws_toPicture.f k a0_0 a0_1 l0_2).bind fun bt476 => ((laws_toPicture.f k a1_0 a1_1 l1_2).bind fun bt482 => ((impl_AddPictures.f bt476.1 bt476.2.1 bt476.2.2 bt482.1 bt482.2.1 bt482.2.2).bind fun bt488 => ((laws_eqPicture.f k bt488.1 bt488.2.1 bt488.2.2.1 bt469.1 bt469.2.1 bt469.2.2.1).bind fun t495 => (if t495 = true then (laws_FnExactAddPictures.j0 k bt469.2.2.2 bt488.2.2.2 (bt488.2.2.2 != bt469.2.2.2) a0_0 a0_1 l0_2 a1_0 a1_1 l1_2 bt469.1 bt469.2.1 bt469.2.2.1 bt476.1 bt476.2.1 bt476.2.2 bt482.1 bt482.2.1 bt482.2.2 bt488.1 bt488.2.1 bt488.2.2.1) else (laws_FnExactAddPictures.j0 k bt469.2.2.2 bt488.2.2.2 true a0_0 a0_1 l0_2 a1_0 a1_1 l1_2 bt469.1 bt469.2.1 bt469.2.2.1 bt476.1 bt476.2.1 bt476.2.2 bt482.1 bt482.2.1 bt482.2.2 bt488.1 bt488.2.1 bt488.2.2.1)))))))))) = some r := H
 have A10 := Aside0.mk A100
 clear A100
 by_cases c11 : t458 < 0
 ·rw [if_pos c11] at H
  have c11b0 : decide (t458 < 0) = true := decide_eq_true c11
  clear c11
  obtain rfl := Option.some.inj H
  go_enter Try.func5, Try.ntmps5
  go_wp2_with (first | ((with_reducible refine gate_dst (N := 2) rfl ?_); refine box_event ?hg (N := 2) ?hd (cs := #[.int .i64 a0_0, .int .i64 a0_1, .slice A0_2 l0_2.length c0_2]) (t := 39) ?hr ?_; (case hd => rfl); (case hg => rfl); (case hr => first | (go_simp; done) | (go_simp; rfl)); intro gb455 hg w12 hbox hb; have n0_ := Aside0.mk (below_step (sW_ HB.out) hb); have n1_ := Aside0.mk (hbox); have n2_ := Aside0.mk ((by rw [hg]; exact (below_size (sW_ HB.out)) : w.heap.size ≤ gb455)); have n3_ := n2_; clear HB; have HB := n0_; have BK455 := n1_; have GW455 := n2_; have GE455 := n3_; clear n0_ n1_ n2_ n3_; clear hb hbox hg) | ((with_reducible refine gate_dst (N := 3) rfl ?_); refine box_event ?hg (N := 3) ?hd (cs := #[.int .i64 a1_0, .int .i64 a1_1, .slice A1_2 l1_2.length c1_2]) (t := 39) ?hr ?_; (case hd => rfl); (case hg => rfl); (case hr => first | (go_simp; done) | (go_simp; rfl)); intro gb456 hg w13 hbox hb; have n0_ := Aside0.mk (blk_below (sB_ BK455.out) hb); have n1_ := Aside0.mk (below_step (sW_ HB.out) hb); have n2_ := Aside0.mk (hbox); have n3_ := Aside0.mk ((by rw [hg]; exact (below_size (sW_ HB.out)) : w.heap.size ≤ gb456)); have n4_ := n3_; have n5_ := Aside0.mk (sN_ hg (blk_lt (sB_ BK455.out))); have n6_ := Aside0.mk n5_.out.symm; clear BK455 HB; have BK455 := n0_; have HB := n1_; have BK456 := n2_; have GW456 := n3_; have GE456 := n4_; have NB455_456 := n5_; have NB456_455 := n6_; clear n0_ n1_ n2_ n3_ n4_ n5_ n6_; clear hb hbox hg; have hnb14 := NB455_456.out; have hnc14 := NB456_455.out; obtain ⟨hcz15_0, hcz15_1, hcz15_2, hfz15_0, hfz15_1, hfz15_2⟩ := sZ_ BK455.out) | ((with_reducible refine gate_callee (f := 18) rfl ?_); refine goesL_ (some 19) rfl rfl Try.func18 (by kernel_rfl) rfl #[.agg #[.int .i64 a0_0, .int .i64 a0_1, .slice A0_2 l0_2.length c0_2], .int .i64 1048576] rfl sL_ ?_; (with_reducible refine (laws_szPicture.calls a0_0 a0_1 _ _ l0_2 1048576 t457 _ ?side1 ?side2 A3.out).mono ?_); (case side1 => repeat (first | exact (Kd.C_below HR0_2.out HB.out) | (with_reducible refine Kd.C_alloc ?_ _) | (with_reducible refine Kd.C_drewN ?_ _) | (with_reducible refine Kd.C_drew ?_))); (case side2 => exact HC0_2.out); rintro e w16 ⟨rfl, hb⟩; refine ⟨_, rfl, ?_⟩; have n0_ := Aside0.mk (blk_below (sB_ BK455.out) hb); have n1_ := Aside0.mk (blk_below (sB_ BK456.out) hb); have n2_ := Aside0.mk (below_step (sW_ HB.out) hb); clear BK455 BK456 HB; have BK455 := n0_; have BK456 := n1_; have HB := n2_; clear n0_ n1_ n2_; (try clear hb); (try clear hb2); (try clear hk); (try clear hi); obtain ⟨hcz17_0, hcz17_1, hcz17_2, hfz17_0, hfz17_1, hfz17_2⟩ := sZ_ BK456.out) | ((with_reducible refine gate_callee (f := 18) rfl ?_); refine goesL_ (some 24) rfl rfl Try.func18 (by kernel_rfl) rfl #[.agg #[.int .i64 a1_0, .int .i64 a1_1, .slice A1_2 l1_2.length c1_2], .int .i64 t457] rfl sL_ ?_; (with_reducible refine (laws_szPicture.calls a1_0 a1_1 _ _ l1_2 t457 t458 _ ?side1 ?side2 A10.out).mono ?_); (case side1 => repeat (first | exact (Kd.C_below HR1_2.out HB.out) | (with_reducible refine Kd.C_alloc ?_ _) | (with_reducible refine Kd.C_drewN ?_ _) | (with_reducible refine Kd.C_drew ?_))); (case side2 => exact HC1_2.out); rintro e w18 ⟨rfl, hb⟩; refine ⟨_, rfl, ?_⟩; have n0_ := Aside0.mk (blk_below (sB_ BK455.out) hb); have n1_ := Aside0.mk (blk_below (sB_ BK456.out) hb); have n2_ := Aside0.mk (below_step (sW_ HB.out) hb); clear BK455 BK456 HB; have BK455 := n0_; have BK456 := n1_; have HB := n2_; clear n0_ n1_ n2_; (try clear hb); (try clear hb2); (try clear hk); (try clear hi)))
  go_ret
  exact ⟨by first | rfl | (simp [errW_none, errW_some] <;> rfl) | (simp [*, errW_none, errW_some] <;> rfl), by repeat (first | (with_reducible first | exact HB.out | apply below_alloc | apply pw_below_drewN | apply below_drew1 | refine below_set ?_ GE455.out | refine below_set ?_ GE456.out) | exact HB.out)⟩
 rw [if_neg c11] at H
 have c11b0 : decide (t458 < 0) = false := decide_eq_false c11
 clear c11
 replace H := Option.bind_eq_some_iff.mp H
 obtain ⟨⟨t459, t460, t461⟩, A190, H⟩ := H
 replace H : ((laws_toPicture.f k a1_0 a1_1 l1_2).bind fun bt464 => ((spec_AddPictures.f k t459 t460 t461 bt464.1 bt464.2.1 bt464.2.2).bind fun bt469 => ((laws_toPicture.f k a0_0 a0_1 l0_2).bind fun bt476 => ((laws_toPicture.f k a1_0 a1_1 l1_2).bind fun bt482 => ((impl_AddPictures.f bt476.1 bt476.2.1 bt476.2.2 bt482.1 bt482.2.1 bt482.2.2).bind fun bt488 => ((laws_eqPicture.f k bt488.1 bt488.2.1 bt488.2.2.1 bt469.1 bt469.2.1 bt469.2.2.1).bind fun t495 => (if t495 = true then (laws_FnExactAddPictures.j0 k bt469.2.2.2 bt488.2.2.2 (bt488.2.2.2 != bt469.2.2.2) a0_0 a0_1 l0_2 a1_0 a1_1 l1_2 bt469.1 bt469.2.1 bt469.2.2.1 bt476.1 bt476.2.1 bt476.2.2 bt482.1 bt482.2.1 bt482.2.2 bt488.1 bt488.2.1 bt488.2.2.1) else (laws_FnExactAddPictures.j0 k bt469.2.2.2 bt488.2.2.2 true a0_0 a0_1 l0_2 a1_0 a1_1 l1_2 bt469.1 bt469.2.1 bt469.2.2.1 bt476.1 bt476.2.1 bt476.2.2 bt482.1 bt482.2.1 bt482.2.2 bt488.1 bt488.2.1 bt488.2.2.1)))))))) = some r := H
 have A19 := Aside0.mk A190
 clear A190
 replace H := Option.bind_eq_some_iff.mp H
 obtain ⟨⟨t464, t465, t466⟩, A200, H⟩ := H
 replace H : ((spec_AddPictures.f k t459 t460 t461 t464 t465 t466).bind fun bt469 => ((laws_toPicture.f k a0_0 a0_1 l0_2).bind fun bt476 => ((laws_toPicture.f k a1_0 a1_1 l1_2).bind fun bt482 => ((impl_AddPictures.f bt476.1 bt476.2.1 bt476.2.2 bt482.1 bt482.2.1 bt482.2.2).bind fun bt488 => ((laws_eqPicture.f k bt488.1 bt488.2.1 bt488.2.2.1 bt469.1 bt469.2.1 bt469.2.2.1).bind fun t495 => (if t495 = true then (laws_FnExactAddPictures.j0 k bt469.2.2.2 bt488.2.2.2 (bt488.2.2.2 != bt469.2.2.2) a0_0 a0_1 l0_2 a1_0 a1_1 l1_2 bt469.1 bt469.2.1 bt469.2.2.1 bt476.1 bt476.2.1 bt476.2.2 bt482.1 bt482.2.1 bt482.2.2 bt488.1 bt488.2.1 bt488.2.2.1) else (laws_FnExactAddPictures.j0 k bt469.2.2.2 bt488.2.2.2 true a0_0 a0_1 l0_2 a1_0 a1_1 l1_2 bt469.1 bt469.2.1 bt469.2.2.1 bt476.1 bt476.2.1 bt476.2.2 bt482.1 bt482.2.1 bt482.2.2 bt488.1 bt488.2.1 bt488.2.2.1))))))) = some r := H
 have A20 := Aside0.mk A200
 clear A200
 replace H := Option.bind_eq_some_iff.mp H
 obtain ⟨⟨t469, t470, t471, t474⟩, A210, H⟩ := H
 replace H : ((laws_toPicture.f k a0_0 a0_1 l0_2).bind fun bt476 => ((laws_toPicture.f k a1_0 a1_1 l1_2).bind fun bt482 => ((impl_AddPictures.f bt476.1 bt476.2.1 bt476.2.2 bt482.1 bt482.2.1 bt482.2.2).bind fun bt488 => ((laws_eqPicture.f k bt488.1 bt488.2.1 bt488.2.2.1 t469 t470 t471).bind fun t495 => (if t495 = true then (laws_FnExactAddPictures.j0 k t474 bt488.2.2.2 (bt488.2.2.2 != t474) a0_0 a0_1 l0_2 a1_0 a1_1 l1_2 t469 t470 t471 bt476.1 bt476.2.1 bt476.2.2 bt482.1 bt482.2.1 bt482.2.2 bt488.1 bt488.2.1 bt488.2.2.1) else (laws_FnExactAddPictures.j0 k t474 bt488.2.2.2 true a0_0 a0_1 l0_2 a1_0 a1_1 l1_2 t469 t470 t471 bt476.1 bt476.2.1 bt476.2.2 bt482.1 bt482.2.1 bt482.2.2 bt488.1 bt488.2.1 bt488.2.2.1)))))) = some r := H
 have A21 := Aside0.mk A210
 clear A210
 replace H := Option.bind_eq_some_iff.mp H
 obtain ⟨⟨t476, t477, t478⟩, A220, H⟩ := H
 replace H : ((laws_toPicture.f k a1_0 a1_1 l1_2).bind fun bt482 => ((impl_AddPictures.f t476 t477 t478 bt482.1 bt482.2.1 bt482.2.2).bind fun bt488 => ((laws_eqPicture.f k bt488.1 bt488.2.1 bt488.2.2.1 t469 t470 t471).bind fun t495 => (if t495 = true then (laws_FnExactAddPictures.j0 k t474 bt488.2.2.2 (bt488.2.2.2 != t474) a0_0 a0_1 l0_2 a1_0 a1_1 l1_2 t469 t470 t471 t476 t477 t478 bt482.1 bt482.2.1 bt482.2.2 bt488.1 bt488.2.1 bt488.2.2.1) else (laws_FnExactAddPictures.j0 k t474 bt488.2.2.2 true a0_0 a0_1 l0_2 a1_0 a1_1 l1_2 t469 t470 t471 t476 t477 t478 bt482.1 bt482.2.1 bt482.2.2 bt488.1 bt488.2.1 bt488.2.2.1))))) = some r := H
 have A22 := Aside0.mk A220
 clear A220
 replace H := Option.bind_eq_some_iff.mp H
 obtain ⟨⟨t482, t483, t484⟩, A230, H⟩ := H
 replace H : ((impl_AddPictures.f t476 t477 t478 t482 t483 t484).bind fun bt488 => ((laws_eqPicture.f k bt488.1 bt488.2.1 bt488.2.2.1 t469 t470 t471).bind fun t495 => (if t495 = true then (laws_FnExactAddPictures.j0 k t474 bt488.2.2.2 (bt488.2.2.2 != t474) a0_0 a0_1 l0_2 a1_0 a1_1 l1_2 t469 t470 t471 t476 t477 t478 t482 t483 t484 bt488.1 bt488.2.1 bt488.2.2.1) else (laws_FnExactAddPictures.j0 k t474 bt488.2.2.2 true a0_0 a0_1 l0_2 a1_0 a1_1 l1_2 t469 t470 t471 t476 t477 t478 t482 t483 t484 bt488.1 bt488.2.1 bt488.2.2.1)))) = some r := H
 have A23 := Aside0.mk A230
 clear A230
 replace H := Option.bind_eq_some_iff.mp H
 obtain ⟨⟨t488, t489, t490, t493⟩, A240, H⟩ := H
 replace H : ((laws_eqPicture.f k t488 t489 t490 t469 t470 t471).bind fun t495 => (if t495 = true then (laws_FnExactAddPictures.j0 k t474 t493 (t493 != t474) a0_0 a0_1 l0_2 a1_0 a1_1 l1_2 t469 t470 t471 t476 t477 t478 t482 t483 t484 t488 t489 t490) else (laws_FnExactAddPictures.j0 k t474 t493 true a0_0 a0_1 l0_2 a1_0 a1_1 l1_2 t469 t470 t471 t476 t477 t478 t482 t483 t484 t488 t489 t490))) = some r := H
 have A24 := Aside0.mk A240
 clear A240
 have HC25 := Aside0.mk H
 clear H
 go_enter Try.func5, Try.ntmps5
 try go_wp2_with (first | ((with_reducible refine gate_dst (N := 2) rfl ?_); refine box_event ?hg (N := 2) ?hd (cs := #[.int .i64 a0_0, .int .i64 a0_1, .slice A0_2 l0_2.length c0_2]) (t := 39) ?hr ?_; (case hd => rfl); (case hg => rfl); (case hr => first | (go_simp; done) | (go_simp; rfl)); intro gb455 hg w26 hbox hb; have n0_ := Aside0.mk (below_step (sW_ HB.out) hb); have n1_ := Aside0.mk (hbox); have n2_ := Aside0.mk ((by rw [hg]; exact (below_size (sW_ HB.out)) : w.heap.size ≤ gb455)); have n3_ := n2_; clear HB; have HB := n0_; have BK455 := n1_; have GW455 := n2_; have GE455 := n3_; clear n0_ n1_ n2_ n3_; clear hb hbox hg) | ((with_reducible refine gate_dst (N := 3) rfl ?_); refine box_event ?hg (N := 3) ?hd (cs := #[.int .i64 a1_0, .int .i64 a1_1, .slice A1_2 l1_2.length c1_2]) (t := 39) ?hr ?_; (case hd => rfl); (case hg => rfl); (case hr => first | (go_simp; done) | (go_simp; rfl)); intro gb456 hg w27 hbox hb; have n0_ := Aside0.mk (blk_below (sB_ BK455.out) hb); have n1_ := Aside0.mk (below_step (sW_ HB.out) hb); have n2_ := Aside0.mk (hbox); have n3_ := Aside0.mk ((by rw [hg]; exact (below_size (sW_ HB.out)) : w.heap.size ≤ gb456)); have n4_ := n3_; have n5_ := Aside0.mk (sN_ hg (blk_lt (sB_ BK455.out))); have n6_ := Aside0.mk n5_.out.symm; clear BK455 HB; have BK455 := n0_; have HB := n1_; have BK456 := n2_; have GW456 := n3_; have GE456 := n4_; have NB455_456 := n5_; have NB456_455 := n6_; clear n0_ n1_ n2_ n3_ n4_ n5_ n6_; clear hb hbox hg; have hnb28 := NB455_456.out; have hnc28 := NB456_455.out; obtain ⟨hcz29_0, hcz29_1, hcz29_2, hfz29_0, hfz29_1, hfz29_2⟩ := sZ_ BK455.out) | ((with_reducible refine gate_callee (f := 18) rfl ?_); refine goesL_ (some 19) rfl rfl Try.func18 (by kernel_rfl) rfl #[.agg #[.int .i64 a0_0, .int .i64 a0_1, .slice A0_2 l0_2.length c0_2], .int .i64 1048576] rfl sL_ ?_; (with_reducible refine (laws_szPicture.calls a0_0 a0_1 _ _ l0_2 1048576 t457 _ ?side1 ?side2 A3.out).mono ?_); (case side1 => repeat (first | exact (Kd.C_below HR0_2.out HB.out) | (with_reducible refine Kd.C_alloc ?_ _) | (with_reducible refine Kd.C_drewN ?_ _) | (with_reducible refine Kd.C_drew ?_))); (case side2 => exact HC0_2.out); rintro e w30 ⟨rfl, hb⟩; refine ⟨_, rfl, ?_⟩; have n0_ := Aside0.mk (blk_below (sB_ BK455.out) hb); have n1_ := Aside0.mk (blk_below (sB_ BK456.out) hb); have n2_ := Aside0.mk (below_step (sW_ HB.out) hb); clear BK455 BK456 HB; have BK455 := n0_; have BK456 := n1_; have HB := n2_; clear n0_ n1_ n2_; (try clear hb); (try clear hb2); (try clear hk); (try clear hi); obtain ⟨hcz31_0, hcz31_1, hcz31_2, hfz31_0, hfz31_1, hfz31_2⟩ := sZ_ BK456.out) | ((with_reducible refine gate_callee (f := 18) rfl ?_); refine goesL_ (some 24) rfl rfl Try.func18 (by kernel_rfl) rfl #[.agg #[.int .i64 a1_0, .int .i64 a1_1, .slice A1_2 l1_2.length c1_2], .int .i64 t457] rfl sL_ ?_; (with_reducible refine (laws_szPicture.calls a1_0 a1_1 _ _ l1_2 t457 t458 _ ?side1 ?side2 A10.out).mono ?_); (case side1 => repeat (first | exact (Kd.C_below HR1_2.out HB.out) | (with_reducible refine Kd.C_alloc ?_ _) | (with_reducible refine Kd.C_drewN ?_ _) | (with_reducible refine Kd.C_drew ?_))); (case side2 => exact HC1_2.out); rintro e w32 ⟨rfl, hb⟩; refine ⟨_, rfl, ?_⟩; have n0_ := Aside0.mk (blk_below (sB_ BK455.out) hb); have n1_ := Aside0.mk (blk_below (sB_ BK456.out) hb); have n2_ := Aside0.mk (below_step (sW_ HB.out) hb); clear BK455 BK456 HB; have BK455 := n0_; have BK456 := n1_; have HB := n2_; clear n0_ n1_ n2_; (try clear hb); (try clear hb2); (try clear hk); (try clear hi)))
 have n0_ := Aside0.mk (blk_drew BK455.out)
 have n1_ := Aside0.mk (blk_drew BK456.out)
 have n2_ := Aside0.mk (below_drew1 HB.out)
 clear BK455 BK456 HB; have BK455 := n0_; have BK456 := n1_; have HB := n2_; clear n0_ n1_ n2_
 refine start_ (n := 11) (S := fun w' => w'.cell? ⟨gb455, 0, none⟩ = some (.int .i64 a0_0) ∧ w'.cell? ⟨gb455, 1, none⟩ = some (.int .i64 a0_1) ∧ w'.cell? ⟨gb455, 2, none⟩ = some (.slice A0_2 l0_2.length c0_2) ∧ w'.cell? ⟨gb456, 0, none⟩ = some (.int .i64 a1_0) ∧ w'.cell? ⟨gb456, 1, none⟩ = some (.int .i64 a1_1) ∧ w'.cell? ⟨gb456, 2, none⟩ = some (.slice A1_2 l1_2.length c1_2)) (ds := []) #[false, false, false, false, false, false, false, false, false, false, false] (by kernel_rfl) rfl rfl ⟨(blk_cell BK455.out 0).trans rfl, (blk_cell BK455.out 1).trans rfl, (blk_cell BK455.out 2).trans rfl, (blk_cell BK456.out 0).trans rfl, (blk_cell BK456.out 1).trans rfl, (blk_cell BK456.out 2).trans rfl⟩ (fun hHeld => ?_); refine with_tabW laws_FnExactAddPictures.tab8 laws_FnExactAddPictures.bits8 (fun HT_ HW_ => ?_)
 generalize w32.drew = w33 at BK455 BK456 HB hHeld ⊢
 refine take_ (i := 0) (N := some 28) (v := ?_) (a' := ?_) #[true, false, false, false, false, false, false, false, false, false, false] rfl rfl (take_ofW HT_.out HW_.out (by kernel_rfl)) (fun _ _ _ h => h) (Or.inl ⟨by rfl, ?_⟩) hHeld ?_ ?_
 rotate_left
 ·rintro w' ⟨s0, s1, s2, s3, s4, s5⟩
  go_simp
  with_reducible rfl
 rotate_left
 ·simp only [Act.put, List.setIfInBounds_toArray, List.set_cons_zero, List.set_cons_succ, i64_w, i32_w]
  rfl
 refine take_ (i := 2) (N := some 30) (v := ?_) (a' := ?_) #[true, false, true, false, false, false, false, false, false, false, false] rfl rfl (take_ofW HT_.out HW_.out (by kernel_rfl)) (fun _ _ _ h => h) (Or.inl ⟨by rfl, ?_⟩) hHeld ?_ ?_
 rotate_left
 ·rintro w' ⟨s0, s1, s2, s3, s4, s5⟩
  go_simp
  with_reducible rfl
 rotate_left
 ·simp only [Act.put, List.setIfInBounds_toArray, List.set_cons_zero, List.set_cons_succ, i64_w, i32_w]
  rfl
 refine join_ (σ := Value × Value × Value × Nat) 2 #[true, true, true, true, true, true, true, true, true, false, false] (fun s_ => [(29, .agg #[.int .i64 t459, .int .i64 t460, s_.1]), (31, .agg #[.int .i64 t464, .int .i64 t465, s_.2.1]), (32, .tuple #[.agg #[.int .i64 t469, .int .i64 t470, s_.2.2.1], .bool t474]), (6, .pointer (some ⟨s_.2.2.2, 0, none⟩)), (27, .tuple #[.agg #[.int .i64 t469, .int .i64 t470, s_.2.2.1], .bool t474]), (33, .agg #[.int .i64 t469, .int .i64 t470, s_.2.2.1]), (34, .bool t474)]) (fun s_ w' => (w'.cell? ⟨gb455, 0, none⟩ = some (.int .i64 a0_0) ∧ w'.cell? ⟨gb455, 1, none⟩ = some (.int .i64 a0_1) ∧ w'.cell? ⟨gb455, 2, none⟩ = some (.slice A0_2 l0_2.length c0_2) ∧ w'.cell? ⟨gb456, 0, none⟩ = some (.int .i64 a1_0) ∧ w'.cell? ⟨gb456, 1, none⟩ = some (.int .i64 a1_1) ∧ w'.cell? ⟨gb456, 2, none⟩ = some (.slice A1_2 l1_2.length c1_2)) ∧ (Kd.R (Kd.int .i64) 3 w' w.heap.size (fun k_ => some k_ ≠ (s_.2.1 : Value).ownBlock ∧ some k_ ≠ (s_.2.2.1 : Value).ownBlock) s_.1 t461) ∧ (Kd.R (Kd.int .i64) 3 w' w.heap.size (fun k_ => some k_ ≠ (s_.1 : Value).ownBlock ∧ some k_ ≠ (s_.2.2.1 : Value).ownBlock) s_.2.1 t466) ∧ (Kd.R (Kd.int .i64) 3 w' w.heap.size (fun k_ => some k_ ≠ (s_.1 : Value).ownBlock ∧ some k_ ≠ (s_.2.1 : Value).ownBlock) s_.2.2.1 t471) ∧ (w'.heap[gb455]? = some (.cells #[.int .i64 a0_0, .int .i64 a0_1, .slice A0_2 l0_2.length c0_2] 39 (0, 0))) ∧ (w'.heap[gb456]? = some (.cells #[.int .i64 a1_0, .int .i64 a1_1, .slice A1_2 l1_2.length c1_2] 39 (0, 0))) ∧ (w'.heap[s_.2.2.2]? = some (.cells #[.int .i64 0, .int .i64 0, .slice none 0 0] 27 (0, 0))) ∧ (w.heap.size ≤ s_.2.2.2) ∧ (w.heap.size ≤ s_.2.2.2) ∧ (gb455 ≠ s_.2.2.2) ∧ (s_.2.2.2 ≠ gb455) ∧ (gb456 ≠ s_.2.2.2) ∧ (s_.2.2.2 ≠ gb456) ∧ (Below w.heap.size w w')) ?_ ?_
 rotate_left
 ·intro hCont
  refine two_ (i := 1) (j := 8) (Ni := some 29) (Nj := some 6) #[true, true, true, false, false, false, false, false, false, false, false] #[true, false, true, false, false, false, false, false, true, false, false] rfl rfl rfl rfl (two_of HT_.out (by kernel_rfl)) (by decide) (by decide) (fun K hK => ?_) (fun K hK => ?_)
  ·skip
   refine goes_ Try.func20 (by kernel_rfl) rfl #[.agg #[.int .i64 a0_0, .int .i64 a0_1, .slice A0_2 l0_2.length c0_2]] (by rfl) rfl rfl sL_ ?_
   with_reducible refine (laws_toPicture.calls k a0_0 a0_1 _ _ l0_2 t459 t460 t461 _ ?side1 ?side2 A19.out).mono ?_
   (case side1 => repeat (first | exact (Kd.C_below HR0_2.out HB.out) | (with_reducible refine Kd.C_alloc ?_ _) | (with_reducible refine Kd.C_drewN ?_ _) | (with_reducible refine Kd.C_drew ?_)))
   (case side2 => exact HC0_2.out)
   rintro e w34 ⟨v462, rfl, ho0, hb⟩
   refine ⟨_, rfl, ?_⟩
   have n0_ := Aside0.mk (Kd.R_lower ho0 (below_size (sW_ HB.out)))
   have n1_ := Aside0.mk (blk_below (sB_ BK455.out) hb)
   have n2_ := Aside0.mk (blk_below (sB_ BK456.out) hb)
   have n3_ := Aside0.mk (below_step (sW_ HB.out) hb)
   clear BK455 BK456 HB; have HO463 := n0_; have BK455 := n1_; have BK456 := n2_; have HB := n3_; clear n0_ n1_ n2_ n3_
   (try clear hb)
   (try clear hb2)
   (try clear hk)
   (try clear hi)
   (try clear ho0)
   refine hK.out _ _ ⟨(blk_cell BK455.out 0).trans rfl, (blk_cell BK455.out 1).trans rfl, (blk_cell BK455.out 2).trans rfl, (blk_cell BK456.out 0).trans rfl, (blk_cell BK456.out 1).trans rfl, (blk_cell BK456.out 2).trans rfl⟩ (fun hHeld => ?_)
   clear hK K
   refine norm_ (a' := ?_) ?_ ?_
   rotate_left
   ·show Act.put _ (some 29) _ = _
    simp only [Act.put, List.setIfInBounds_toArray, List.set_cons_zero, List.set_cons_succ, i64_w, i32_w]
    rfl
   refine two_ (i := 3) (j := 8) (Ni := some 31) (Nj := some 6) #[true, true, true, true, false, false, false, false, false, false, false] #[true, true, true, false, false, false, false, false, true, false, false] rfl rfl rfl rfl (two_of HT_.out (by kernel_rfl)) (by decide) (by decide) (fun K hK => ?_) (fun K hK => ?_)
   ·skip
    refine goes_ Try.func20 (by kernel_rfl) rfl #[.agg #[.int .i64 a1_0, .int .i64 a1_1, .slice A1_2 l1_2.length c1_2]] (by rfl) rfl rfl sL_ ?_
    with_reducible refine (laws_toPicture.calls k a1_0 a1_1 _ _ l1_2 t464 t465 t466 _ ?side1 ?side2 A20.out).mono ?_
    (case side1 => repeat (first | exact (Kd.C_below HR1_2.out HB.out) | (with_reducible refine Kd.C_alloc ?_ _) | (with_reducible refine Kd.C_drewN ?_ _) | (with_reducible refine Kd.C_drew ?_)))
    (case side2 => exact HC1_2.out)
    rintro e w35 ⟨v467, rfl, ho0, hb⟩
    refine ⟨_, rfl, ?_⟩
    have n0_ := Aside0.mk (Kd.R_elder' (sR_ HO463.out) (Kd.R_base ho0) hb)
    have n1_ := Aside0.mk (Kd.R_lower (Kd.R_new' ho0 (Kd.R_lt (sR_ HO463.out))) (below_size (sW_ HB.out)))
    have n2_ := Aside0.mk (blk_below (sB_ BK455.out) hb)
    have n3_ := Aside0.mk (blk_below (sB_ BK456.out) hb)
    have n4_ := Aside0.mk (below_step (sW_ HB.out) hb)
    clear HO463 BK455 BK456 HB; have HO463 := n0_; have HO468 := n1_; have BK455 := n2_; have BK456 := n3_; have HB := n4_; clear n0_ n1_ n2_ n3_ n4_
    (try clear hb)
    (try clear hb2)
    (try clear hk)
    (try clear hi)
    (try clear ho0)
    obtain ⟨Ao36, co36, eo36⟩ := Kd.R_slice HO463.out
    (first | subst eo36 | (injection eo36 with f1_ f2_ f3_; have f4_ := f1_.symm; have f5_ := f3_.symm; clear f1_ f2_ f3_; subst f4_; subst f5_))
    obtain ⟨Ao37, co37, eo37⟩ := Kd.R_slice HO468.out
    (first | subst eo37 | (injection eo37 with f1_ f2_ f3_; have f4_ := f1_.symm; have f5_ := f3_.symm; clear f1_ f2_ f3_; subst f4_; subst f5_))
    refine hK.out _ _ ⟨(blk_cell BK455.out 0).trans rfl, (blk_cell BK455.out 1).trans rfl, (blk_cell BK455.out 2).trans rfl, (blk_cell BK456.out 0).trans rfl, (blk_cell BK456.out 1).trans rfl, (blk_cell BK456.out 2).trans rfl⟩ (fun hHeld => ?_)
    clear hK K
    refine norm_ (a' := ?_) ?_ ?_
    rotate_left
    ·show Act.put _ (some 31) _ = _
     simp only [Act.put, List.setIfInBounds_toArray, List.set_cons_zero, List.set_cons_succ, i64_w, i32_w]
     rfl
    refine two_ (i := 4) (j := 8) (Ni := some 32) (Nj := some 6) #[true, true, true, true, true, false, false, false, false, false, false] #[true, true, true, true, false, false, false, false, true, false, false] rfl rfl rfl rfl (two_of HT_.out (by kernel_rfl)) (by decide) (by decide) (fun K hK => ?_) (fun K hK => ?_)
    ·skip
     refine goes_ Try.func19 (by kernel_rfl) rfl #[.agg #[.int .i64 t459, .int .i64 t460, .slice Ao36 t461.length co36], .agg #[.int .i64 t464, .int .i64 t465, .slice Ao37 t466.length co37]] (by rfl) rfl rfl sL_ ?_
     with_reducible refine (spec_AddPictures.calls k t459 t460 _ _ t461 t464 t465 _ _ t466 t469 t470 t471 t474 _ ?side1 ?side2 ?side3 ?side4 A21.out).mono ?_
     (case side1 => repeat (first | exact (Kd.R_reads' HO463.out).2.2 | (with_reducible refine Kd.C_alloc ?_ _) | (with_reducible refine Kd.C_drewN ?_ _) | (with_reducible refine Kd.C_drew ?_)))
     (case side2 => exact (Kd.R_reads' HO463.out).2.1)
     (case side3 => repeat (first | exact (Kd.R_reads' HO468.out).2.2 | (with_reducible refine Kd.C_alloc ?_ _) | (with_reducible refine Kd.C_drewN ?_ _) | (with_reducible refine Kd.C_drew ?_)))
     (case side4 => exact (Kd.R_reads' HO468.out).2.1)
     rintro e w38 ⟨v472, rfl, ho0, hb⟩
     refine ⟨_, rfl, ?_⟩
     have n0_ := Aside0.mk (Kd.R_elder' (sR_ HO463.out) (Kd.R_base ho0) hb)
     have n1_ := Aside0.mk (Kd.R_elder' (sR_ HO468.out) (Kd.R_base ho0) hb)
     have n2_ := Aside0.mk (Kd.R_lower (Kd.R_new' (Kd.R_new' ho0 (Kd.R_lt (sR_ HO463.out))) (Kd.R_lt (sR_ HO468.out))) (below_size (sW_ HB.out)))
     have n3_ := Aside0.mk (blk_below (sB_ BK455.out) hb)
     have n4_ := Aside0.mk (blk_below (sB_ BK456.out) hb)
     have n5_ := Aside0.mk (below_step (sW_ HB.out) hb)
     clear HO463 HO468 BK455 BK456 HB; have HO463 := n0_; have HO468 := n1_; have HO473 := n2_; have BK455 := n3_; have BK456 := n4_; have HB := n5_; clear n0_ n1_ n2_ n3_ n4_ n5_
     (try clear hb)
     (try clear hb2)
     (try clear hk)
     (try clear hi)
     (try clear ho0)
     refine hK.out _ _ ⟨(blk_cell BK455.out 0).trans rfl, (blk_cell BK455.out 1).trans rfl, (blk_cell BK455.out 2).trans rfl, (blk_cell BK456.out 0).trans rfl, (blk_cell BK456.out 1).trans rfl, (blk_cell BK456.out 2).trans rfl⟩ (fun hHeld => ?_)
     clear hK K
     refine norm_ (a' := ?_) ?_ ?_
     rotate_left
     ·show Act.put _ (some 32) _ = _
      simp only [Act.put, List.setIfInBounds_toArray, List.set_cons_zero, List.set_cons_succ, i64_w, i32_w]
      rfl
     refine pure_ (i := 5) (N := some 27) (v := ?_) (a' := ?_) #[true, true, true, true, true, true, false, false, false, false, false] rfl rfl (any_of HT_.out (by kernel_rfl)) (fun _ _ _ h => h) (Or.inl ⟨by rfl, ?_⟩) ?_ ?_
     rotate_left
     ·intro w'
      go_simp
      with_reducible rfl
     rotate_left
     ·simp only [Act.put, List.setIfInBounds_toArray, List.set_cons_zero, List.set_cons_succ, i64_w, i32_w]
      rfl
     refine pure_ (i := 6) (N := some 33) (v := ?_) (a' := ?_) #[true, true, true, true, true, true, true, false, false, false, false] rfl rfl (any_of HT_.out (by kernel_rfl)) (fun _ _ _ h => h) (Or.inl ⟨by rfl, ?_⟩) ?_ ?_
     rotate_left
     ·intro w'
      go_simp
      with_reducible rfl
     rotate_left
     ·simp only [Act.put, List.setIfInBounds_toArray, List.set_cons_zero, List.set_cons_succ, i64_w, i32_w]
      rfl
     refine pure_ (i := 7) (N := some 34) (v := ?_) (a' := ?_) #[true, true, true, true, true, true, true, true, false, false, false] rfl rfl (any_of HT_.out (by kernel_rfl)) (fun _ _ _ h => h) (Or.inl ⟨by rfl, ?_⟩) ?_ ?_
     rotate_left
     ·intro w'
      go_simp
      with_reducible rfl
     rotate_left
     ·simp only [Act.put, List.setIfInBounds_toArray, List.set_cons_zero, List.set_cons_succ, i64_w, i32_w]
      rfl
     refine one_ (i := 8) (N := some 6) #[true, true, true, true, true, true, true, true, true, false, false] rfl rfl (one_of HT_.out (by kernel_rfl)) (by decide) (fun K hK => ?_)
     refine box_step ?hg (N := 6) ?hd (cs := #[.int .i64 0, .int .i64 0, .slice none 0 0]) (t := 27) ?hr ?_; (case hd => rfl); (case hg => rfl); (case hr => first | (go_simp; done) | (go_simp; rfl))
     intro gb475 hg w39 hbox hb
     have n0_ := Aside0.mk (Kd.R_below (sR_ HO463.out) hb)
     have n1_ := Aside0.mk (Kd.R_below (sR_ HO468.out) hb)
     have n2_ := Aside0.mk (Kd.R_below (sR_ HO473.out) hb)
     have n3_ := Aside0.mk (blk_below (sB_ BK455.out) hb)
     have n4_ := Aside0.mk (blk_below (sB_ BK456.out) hb)
     have n5_ := Aside0.mk (below_step (sW_ HB.out) hb)
     have n6_ := Aside0.mk (hbox)
     have n7_ := Aside0.mk ((by rw [hg]; exact (below_size (sW_ HB.out)) : w.heap.size ≤ gb475))
     have n8_ := n7_
     have n9_ := Aside0.mk (sN_ hg (blk_lt (sB_ BK455.out)))
     have n10_ := Aside0.mk n9_.out.symm
     have n11_ := Aside0.mk (sN_ hg (blk_lt (sB_ BK456.out)))
     have n12_ := Aside0.mk n11_.out.symm
     clear HO463 HO468 HO473 BK455 BK456 HB; have HO463 := n0_; have HO468 := n1_; have HO473 := n2_; have BK455 := n3_; have BK456 := n4_; have HB := n5_; have BK475 := n6_; have GW475 := n7_; have GE475 := n8_; have NB455_475 := n9_; have NB475_455 := n10_; have NB456_475 := n11_; have NB475_456 := n12_; clear n0_ n1_ n2_ n3_ n4_ n5_ n6_ n7_ n8_ n9_ n10_ n11_ n12_ hb hbox hg
     refine hK.out _ _ ⟨(blk_cell BK455.out 0).trans rfl, (blk_cell BK455.out 1).trans rfl, (blk_cell BK455.out 2).trans rfl, (blk_cell BK456.out 0).trans rfl, (blk_cell BK456.out 1).trans rfl, (blk_cell BK456.out 2).trans rfl⟩ (fun hHeld => ?_)
     clear hK K
     refine norm_ (a' := ?_) ?_ ?_
     rotate_left
     ·show Act.put _ (some 6) _ = _
      simp only [Act.put, List.setIfInBounds_toArray, List.set_cons_zero, List.set_cons_succ, i64_w, i32_w]
      rfl
     exact norm_ sP_ (hCont (.slice Ao36 t461.length co36, .slice Ao37 t466.length co37, v472, gb475) _ ⟨hHeld, (by (with_reducible repeat (first | apply Kd.R_alloc | apply Kd.R_drewN | apply Kd.R_drew)); exact Kd.R_mono HO463.out (fun _ hk => ⟨hk.1.2, hk.2⟩)), (by (with_reducible repeat (first | apply Kd.R_alloc | apply Kd.R_drewN | apply Kd.R_drew)); exact Kd.R_mono HO468.out (fun _ hk => ⟨hk.1.2, hk.2⟩)), (by (with_reducible repeat (first | apply Kd.R_alloc | apply Kd.R_drewN | apply Kd.R_drew)); exact Kd.R_mono HO473.out (fun _ hk => ⟨hk.1.2, hk.2⟩)), (sB_ BK455.out), (sB_ BK456.out), (sB_ BK475.out), GW475.out, GE475.out, NB455_475.out, NB475_455.out, NB456_475.out, NB475_456.out, (sW_ HB.out)⟩)
    skip
    refine box_step ?hg (N := 6) ?hd (cs := #[.int .i64 0, .int .i64 0, .slice none 0 0]) (t := 27) ?hr ?_; (case hd => rfl); (case hg => rfl); (case hr => first | (go_simp; done) | (go_simp; rfl))
    intro gb475 hg w36 hbox hb
    have n0_ := Aside0.mk (Kd.R_below (sR_ HO463.out) hb)
    have n1_ := Aside0.mk (Kd.R_below (sR_ HO468.out) hb)
    have n2_ := Aside0.mk (blk_below (sB_ BK455.out) hb)
    have n3_ := Aside0.mk (blk_below (sB_ BK456.out) hb)
    have n4_ := Aside0.mk (below_step (sW_ HB.out) hb)
    have n5_ := Aside0.mk (hbox)
    have n6_ := Aside0.mk ((by rw [hg]; exact (below_size (sW_ HB.out)) : w.heap.size ≤ gb475))
    have n7_ := n6_
    have n8_ := Aside0.mk (sN_ hg (blk_lt (sB_ BK455.out)))
    have n9_ := Aside0.mk n8_.out.symm
    have n10_ := Aside0.mk (sN_ hg (blk_lt (sB_ BK456.out)))
    have n11_ := Aside0.mk n10_.out.symm
    clear HO463 HO468 BK455 BK456 HB; have HO463 := n0_; have HO468 := n1_; have BK455 := n2_; have BK456 := n3_; have HB := n4_; have BK475 := n5_; have GW475 := n6_; have GE475 := n7_; have NB455_475 := n8_; have NB475_455 := n9_; have NB456_475 := n10_; have NB475_456 := n11_; clear n0_ n1_ n2_ n3_ n4_ n5_ n6_ n7_ n8_ n9_ n10_ n11_ hb hbox hg
    obtain ⟨Ao37, co37, eo37⟩ := Kd.R_slice HO463.out
    (first | subst eo37 | (injection eo37 with f1_ f2_ f3_; have f4_ := f1_.symm; have f5_ := f3_.symm; clear f1_ f2_ f3_; subst f4_; subst f5_))
    obtain ⟨Ao38, co38, eo38⟩ := Kd.R_slice HO468.out
    (first | subst eo38 | (injection eo38 with f1_ f2_ f3_; have f4_ := f1_.symm; have f5_ := f3_.symm; clear f1_ f2_ f3_; subst f4_; subst f5_))
    refine hK.out _ _ ⟨(blk_cell BK455.out 0).trans rfl, (blk_cell BK455.out 1).trans rfl, (blk_cell BK455.out 2).trans rfl, (blk_cell BK456.out 0).trans rfl, (blk_cell BK456.out 1).trans rfl, (blk_cell BK456.out 2).trans rfl⟩ (fun hHeld => ?_)
    clear hK K
    refine norm_ (a' := ?_) ?_ ?_
    rotate_left
    ·show Act.put _ (some 6) _ = _
     simp only [Act.put, List.setIfInBounds_toArray, List.set_cons_zero, List.set_cons_succ, i64_w, i32_w]
     rfl
    refine one_ (i := 4) (N := some 32) #[true, true, true, true, true, false, false, false, true, false, false] rfl rfl (one_of HT_.out (by kernel_rfl)) (by decide) (fun K hK => ?_)
    refine goes_ Try.func19 (by kernel_rfl) rfl #[.agg #[.int .i64 t459, .int .i64 t460, .slice Ao37 t461.length co37], .agg #[.int .i64 t464, .int .i64 t465, .slice Ao38 t466.length co38]] (by rfl) rfl rfl sL_ ?_
    with_reducible refine (spec_AddPictures.calls k t459 t460 _ _ t461 t464 t465 _ _ t466 t469 t470 t471 t474 _ ?side1 ?side2 ?side3 ?side4 A21.out).mono ?_
    (case side1 => repeat (first | exact (Kd.R_reads' HO463.out).2.2 | (with_reducible refine Kd.C_alloc ?_ _) | (with_reducible refine Kd.C_drewN ?_ _) | (with_reducible refine Kd.C_drew ?_)))
    (case side2 => exact (Kd.R_reads' HO463.out).2.1)
    (case side3 => repeat (first | exact (Kd.R_reads' HO468.out).2.2 | (with_reducible refine Kd.C_alloc ?_ _) | (with_reducible refine Kd.C_drewN ?_ _) | (with_reducible refine Kd.C_drew ?_)))
    (case side4 => exact (Kd.R_reads' HO468.out).2.1)
    rintro e w39 ⟨v472, rfl, ho0, hb⟩
    refine ⟨_, rfl, ?_⟩
    have n0_ := Aside0.mk (Kd.R_elder' (sR_ HO463.out) (Kd.R_base ho0) hb)
    have n1_ := Aside0.mk (Kd.R_elder' (sR_ HO468.out) (Kd.R_base ho0) hb)
    have n2_ := Aside0.mk (Kd.R_lower (Kd.R_new' (Kd.R_new' ho0 (Kd.R_lt (sR_ HO463.out))) (Kd.R_lt (sR_ HO468.out))) (below_size (sW_ HB.out)))
    have n3_ := Aside0.mk (blk_below (sB_ BK455.out) hb)
    have n4_ := Aside0.mk (blk_below (sB_ BK456.out) hb)
    have n5_ := Aside0.mk (blk_below (sB_ BK475.out) hb)
    have n6_ := Aside0.mk (below_step (sW_ HB.out) hb)
    clear HO463 HO468 BK455 BK456 BK475 HB; have HO463 := n0_; have HO468 := n1_; have HO473 := n2_; have BK455 := n3_; have BK456 := n4_; have BK475 := n5_; have HB := n6_; clear n0_ n1_ n2_ n3_ n4_ n5_ n6_
    (try clear hb)
    (try clear hb2)
    (try clear hk)
    (try clear hi)
    (try clear ho0)
    refine hK.out _ _ ⟨(blk_cell BK455.out 0).trans rfl, (blk_cell BK455.out 1).trans rfl, (blk_cell BK455.out 2).trans rfl, (blk_cell BK456.out 0).trans rfl, (blk_cell BK456.out 1).trans rfl, (blk_cell BK456.out 2).trans rfl⟩ (fun hHeld => ?_)
    clear hK K
    refine norm_ (a' := ?_) ?_ ?_
    rotate_left
    ·show Act.put _ (some 32) _ = _
     simp only [Act.put, List.setIfInBounds_toArray, List.set_cons_zero, List.set_cons_succ, i64_w, i32_w]
     rfl
    refine pure_ (i := 5) (N := some 27) (v := ?_) (a' := ?_) #[true, true, true, true, true, true, false, false, true, false, false] rfl rfl (any_of HT_.out (by kernel_rfl)) (fun _ _ _ h => h) (Or.inl ⟨by rfl, ?_⟩) ?_ ?_
    rotate_left
    ·intro w'
     go_simp
     with_reducible rfl
    rotate_left
    ·simp only [Act.put, List.setIfInBounds_toArray, List.set_cons_zero, List.set_cons_succ, i64_w, i32_w]
     rfl
    refine pure_ (i := 6) (N := some 33) (v := ?_) (a' := ?_) #[true, true, true, true, true, true, true, false, true, false, false] rfl rfl (any_of HT_.out (by kernel_rfl)) (fun _ _ _ h => h) (Or.inl ⟨by rfl, ?_⟩) ?_ ?_
    rotate_left
    ·intro w'
     go_simp
     with_reducible rfl
    rotate_left
    ·simp only [Act.put, List.setIfInBounds_toArray, List.set_cons_zero, List.set_cons_succ, i64_w, i32_w]
     rfl
    refine pure_ (i := 7) (N := some 34) (v := ?_) (a' := ?_) #[true, true, true, true, true, true, true, true, true, false, false] rfl rfl (any_of HT_.out (by kernel_rfl)) (fun _ _ _ h => h) (Or.inl ⟨by rfl, ?_⟩) ?_ ?_
    rotate_left
    ·intro w'
     go_simp
     with_reducible rfl
    rotate_left
    ·simp only [Act.put, List.setIfInBounds_toArray, List.set_cons_zero, List.set_cons_succ, i64_w, i32_w]
     rfl
    exact norm_ sP_ (hCont (.slice Ao37 t461.length co37, .slice Ao38 t466.length co38, v472, gb475) _ ⟨hHeld, (by (with_reducible repeat (first | apply Kd.R_alloc | apply Kd.R_drewN | apply Kd.R_drew)); exact Kd.R_mono HO463.out (fun _ hk => ⟨hk.1.2, hk.2⟩)), (by (with_reducible repeat (first | apply Kd.R_alloc | apply Kd.R_drewN | apply Kd.R_drew)); exact Kd.R_mono HO468.out (fun _ hk => ⟨hk.1.2, hk.2⟩)), (by (with_reducible repeat (first | apply Kd.R_alloc | apply Kd.R_drewN | apply Kd.R_drew)); exact Kd.R_mono HO473.out (fun _ hk => ⟨hk.1.2, hk.2⟩)), (sB_ BK455.out), (sB_ BK456.out), (sB_ BK475.out), GW475.out, GE475.out, NB455_475.out, NB475_455.out, NB456_475.out, NB475_456.out, (sW_ HB.out)⟩)
   skip
   refine box_step ?hg (N := 6) ?hd (cs := #[.int .i64 0, .int .i64 0, .slice none 0 0]) (t := 27) ?hr ?_; (case hd => rfl); (case hg => rfl); (case hr => first | (go_simp; done) | (go_simp; rfl))
   intro gb475 hg w35 hbox hb
   have n0_ := Aside0.mk (Kd.R_below (sR_ HO463.out) hb)
   have n1_ := Aside0.mk (blk_below (sB_ BK455.out) hb)
   have n2_ := Aside0.mk (blk_below (sB_ BK456.out) hb)
   have n3_ := Aside0.mk (below_step (sW_ HB.out) hb)
   have n4_ := Aside0.mk (hbox)
   have n5_ := Aside0.mk ((by rw [hg]; exact (below_size (sW_ HB.out)) : w.heap.size ≤ gb475))
   have n6_ := n5_
   have n7_ := Aside0.mk (sN_ hg (blk_lt (sB_ BK455.out)))
   have n8_ := Aside0.mk n7_.out.symm
   have n9_ := Aside0.mk (sN_ hg (blk_lt (sB_ BK456.out)))
   have n10_ := Aside0.mk n9_.out.symm
   clear HO463 BK455 BK456 HB; have HO463 := n0_; have BK455 := n1_; have BK456 := n2_; have HB := n3_; have BK475 := n4_; have GW475 := n5_; have GE475 := n6_; have NB455_475 := n7_; have NB475_455 := n8_; have NB456_475 := n9_; have NB475_456 := n10_; clear n0_ n1_ n2_ n3_ n4_ n5_ n6_ n7_ n8_ n9_ n10_ hb hbox hg
   refine hK.out _ _ ⟨(blk_cell BK455.out 0).trans rfl, (blk_cell BK455.out 1).trans rfl, (blk_cell BK455.out 2).trans rfl, (blk_cell BK456.out 0).trans rfl, (blk_cell BK456.out 1).trans rfl, (blk_cell BK456.out 2).trans rfl⟩ (fun hHeld => ?_)
   clear hK K
   refine norm_ (a' := ?_) ?_ ?_
   rotate_left
   ·show Act.put _ (some 6) _ = _
    simp only [Act.put, List.setIfInBounds_toArray, List.set_cons_zero, List.set_cons_succ, i64_w, i32_w]
    rfl
   refine one_ (i := 3) (N := some 31) #[true, true, true, true, false, false, false, false, true, false, false] rfl rfl (one_of HT_.out (by kernel_rfl)) (by decide) (fun K hK => ?_)
   refine goes_ Try.func20 (by kernel_rfl) rfl #[.agg #[.int .i64 a1_0, .int .i64 a1_1, .slice A1_2 l1_2.length c1_2]] (by rfl) rfl rfl sL_ ?_
   with_reducible refine (laws_toPicture.calls k a1_0 a1_1 _ _ l1_2 t464 t465 t466 _ ?side1 ?side2 A20.out).mono ?_
   (case side1 => repeat (first | exact (Kd.C_below HR1_2.out HB.out) | (with_reducible refine Kd.C_alloc ?_ _) | (with_reducible refine Kd.C_drewN ?_ _) | (with_reducible refine Kd.C_drew ?_)))
   (case side2 => exact HC1_2.out)
   rintro e w36 ⟨v467, rfl, ho0, hb⟩
   refine ⟨_, rfl, ?_⟩
   have n0_ := Aside0.mk (Kd.R_elder' (sR_ HO463.out) (Kd.R_base ho0) hb)
   have n1_ := Aside0.mk (Kd.R_lower (Kd.R_new' ho0 (Kd.R_lt (sR_ HO463.out))) (below_size (sW_ HB.out)))
   have n2_ := Aside0.mk (blk_below (sB_ BK455.out) hb)
   have n3_ := Aside0.mk (blk_below (sB_ BK456.out) hb)
   have n4_ := Aside0.mk (blk_below (sB_ BK475.out) hb)
   have n5_ := Aside0.mk (below_step (sW_ HB.out) hb)
   clear HO463 BK455 BK456 BK475 HB; have HO463 := n0_; have HO468 := n1_; have BK455 := n2_; have BK456 := n3_; have BK475 := n4_; have HB := n5_; clear n0_ n1_ n2_ n3_ n4_ n5_
   (try clear hb)
   (try clear hb2)
   (try clear hk)
   (try clear hi)
   (try clear ho0)
   obtain ⟨Ao37, co37, eo37⟩ := Kd.R_slice HO463.out
   (first | subst eo37 | (injection eo37 with f1_ f2_ f3_; have f4_ := f1_.symm; have f5_ := f3_.symm; clear f1_ f2_ f3_; subst f4_; subst f5_))
   obtain ⟨Ao38, co38, eo38⟩ := Kd.R_slice HO468.out
   (first | subst eo38 | (injection eo38 with f1_ f2_ f3_; have f4_ := f1_.symm; have f5_ := f3_.symm; clear f1_ f2_ f3_; subst f4_; subst f5_))
   refine hK.out _ _ ⟨(blk_cell BK455.out 0).trans rfl, (blk_cell BK455.out 1).trans rfl, (blk_cell BK455.out 2).trans rfl, (blk_cell BK456.out 0).trans rfl, (blk_cell BK456.out 1).trans rfl, (blk_cell BK456.out 2).trans rfl⟩ (fun hHeld => ?_)
   clear hK K
   refine norm_ (a' := ?_) ?_ ?_
   rotate_left
   ·show Act.put _ (some 31) _ = _
    simp only [Act.put, List.setIfInBounds_toArray, List.set_cons_zero, List.set_cons_succ, i64_w, i32_w]
    rfl
   refine one_ (i := 4) (N := some 32) #[true, true, true, true, true, false, false, false, true, false, false] rfl rfl (one_of HT_.out (by kernel_rfl)) (by decide) (fun K hK => ?_)
   refine goes_ Try.func19 (by kernel_rfl) rfl #[.agg #[.int .i64 t459, .int .i64 t460, .slice Ao37 t461.length co37], .agg #[.int .i64 t464, .int .i64 t465, .slice Ao38 t466.length co38]] (by rfl) rfl rfl sL_ ?_
   with_reducible refine (spec_AddPictures.calls k t459 t460 _ _ t461 t464 t465 _ _ t466 t469 t470 t471 t474 _ ?side1 ?side2 ?side3 ?side4 A21.out).mono ?_
   (case side1 => repeat (first | exact (Kd.R_reads' HO463.out).2.2 | (with_reducible refine Kd.C_alloc ?_ _) | (with_reducible refine Kd.C_drewN ?_ _) | (with_reducible refine Kd.C_drew ?_)))
   (case side2 => exact (Kd.R_reads' HO463.out).2.1)
   (case side3 => repeat (first | exact (Kd.R_reads' HO468.out).2.2 | (with_reducible refine Kd.C_alloc ?_ _) | (with_reducible refine Kd.C_drewN ?_ _) | (with_reducible refine Kd.C_drew ?_)))
   (case side4 => exact (Kd.R_reads' HO468.out).2.1)
   rintro e w39 ⟨v472, rfl, ho0, hb⟩
   refine ⟨_, rfl, ?_⟩
   have n0_ := Aside0.mk (Kd.R_elder' (sR_ HO463.out) (Kd.R_base ho0) hb)
   have n1_ := Aside0.mk (Kd.R_elder' (sR_ HO468.out) (Kd.R_base ho0) hb)
   have n2_ := Aside0.mk (Kd.R_lower (Kd.R_new' (Kd.R_new' ho0 (Kd.R_lt (sR_ HO463.out))) (Kd.R_lt (sR_ HO468.out))) (below_size (sW_ HB.out)))
   have n3_ := Aside0.mk (blk_below (sB_ BK455.out) hb)
   have n4_ := Aside0.mk (blk_below (sB_ BK456.out) hb)
   have n5_ := Aside0.mk (blk_below (sB_ BK475.out) hb)
   have n6_ := Aside0.mk (below_step (sW_ HB.out) hb)
   clear HO463 HO468 BK455 BK456 BK475 HB; have HO463 := n0_; have HO468 := n1_; have HO473 := n2_; have BK455 := n3_; have BK456 := n4_; have BK475 := n5_; have HB := n6_; clear n0_ n1_ n2_ n3_ n4_ n5_ n6_
   (try clear hb)
   (try clear hb2)
   (try clear hk)
   (try clear hi)
   (try clear ho0)
   refine hK.out _ _ ⟨(blk_cell BK455.out 0).trans rfl, (blk_cell BK455.out 1).trans rfl, (blk_cell BK455.out 2).trans rfl, (blk_cell BK456.out 0).trans rfl, (blk_cell BK456.out 1).trans rfl, (blk_cell BK456.out 2).trans rfl⟩ (fun hHeld => ?_)
   clear hK K
   refine norm_ (a' := ?_) ?_ ?_
   rotate_left
   ·show Act.put _ (some 32) _ = _
    simp only [Act.put, List.setIfInBounds_toArray, List.set_cons_zero, List.set_cons_succ, i64_w, i32_w]
    rfl
   refine pure_ (i := 5) (N := some 27) (v := ?_) (a' := ?_) #[true, true, true, true, true, true, false, false, true, false, false] rfl rfl (any_of HT_.out (by kernel_rfl)) (fun _ _ _ h => h) (Or.inl ⟨by rfl, ?_⟩) ?_ ?_
   rotate_left
   ·intro w'
    go_simp
    with_reducible rfl
   rotate_left
   ·simp only [Act.put, List.setIfInBounds_toArray, List.set_cons_zero, List.set_cons_succ, i64_w, i32_w]
    rfl
   refine pure_ (i := 6) (N := some 33) (v := ?_) (a' := ?_) #[true, true, true, true, true, true, true, false, true, false, false] rfl rfl (any_of HT_.out (by kernel_rfl)) (fun _ _ _ h => h) (Or.inl ⟨by rfl, ?_⟩) ?_ ?_
   rotate_left
   ·intro w'
    go_simp
    with_reducible rfl
   rotate_left
   ·simp only [Act.put, List.setIfInBounds_toArray, List.set_cons_zero, List.set_cons_succ, i64_w, i32_w]
    rfl
   refine pure_ (i := 7) (N := some 34) (v := ?_) (a' := ?_) #[true, true, true, true, true, true, true, true, true, false, false] rfl rfl (any_of HT_.out (by kernel_rfl)) (fun _ _ _ h => h) (Or.inl ⟨by rfl, ?_⟩) ?_ ?_
   rotate_left
   ·intro w'
    go_simp
    with_reducible rfl
   rotate_left
   ·simp only [Act.put, List.setIfInBounds_toArray, List.set_cons_zero, List.set_cons_succ, i64_w, i32_w]
    rfl
   exact norm_ sP_ (hCont (.slice Ao37 t461.length co37, .slice Ao38 t466.length co38, v472, gb475) _ ⟨hHeld, (by (with_reducible repeat (first | apply Kd.R_alloc | apply Kd.R_drewN | apply Kd.R_drew)); exact Kd.R_mono HO463.out (fun _ hk => ⟨hk.1.2, hk.2⟩)), (by (with_reducible repeat (first | apply Kd.R_alloc | apply Kd.R_drewN | apply Kd.R_drew)); exact Kd.R_mono HO468.out (fun _ hk => ⟨hk.1.2, hk.2⟩)), (by (with_reducible repeat (first | apply Kd.R_alloc | apply Kd.R_drewN | apply Kd.R_drew)); exact Kd.R_mono HO473.out (fun _ hk => ⟨hk.1.2, hk.2⟩)), (sB_ BK455.out), (sB_ BK456.out), (sB_ BK475.out), GW475.out, GE475.out, NB455_475.out, NB475_455.out, NB456_475.out, NB475_456.out, (sW_ HB.out)⟩)
  skip
  refine box_step ?hg (N := 6) ?hd (cs := #[.int .i64 0, .int .i64 0, .slice none 0 0]) (t := 27) ?hr ?_; (case hd => rfl); (case hg => rfl); (case hr => first | (go_simp; done) | (go_simp; rfl))
  intro gb475 hg w34 hbox hb
  have n0_ := Aside0.mk (blk_below (sB_ BK455.out) hb)
  have n1_ := Aside0.mk (blk_below (sB_ BK456.out) hb)
  have n2_ := Aside0.mk (below_step (sW_ HB.out) hb)
  have n3_ := Aside0.mk (hbox)
  have n4_ := Aside0.mk ((by rw [hg]; exact (below_size (sW_ HB.out)) : w.heap.size ≤ gb475))
  have n5_ := n4_
  have n6_ := Aside0.mk (sN_ hg (blk_lt (sB_ BK455.out)))
  have n7_ := Aside0.mk n6_.out.symm
  have n8_ := Aside0.mk (sN_ hg (blk_lt (sB_ BK456.out)))
  have n9_ := Aside0.mk n8_.out.symm
  clear BK455 BK456 HB; have BK455 := n0_; have BK456 := n1_; have HB := n2_; have BK475 := n3_; have GW475 := n4_; have GE475 := n5_; have NB455_475 := n6_; have NB475_455 := n7_; have NB456_475 := n8_; have NB475_456 := n9_; clear n0_ n1_ n2_ n3_ n4_ n5_ n6_ n7_ n8_ n9_ hb hbox hg
  refine hK.out _ _ ⟨(blk_cell BK455.out 0).trans rfl, (blk_cell BK455.out 1).trans rfl, (blk_cell BK455.out 2).trans rfl, (blk_cell BK456.out 0).trans rfl, (blk_cell BK456.out 1).trans rfl, (blk_cell BK456.out 2).trans rfl⟩ (fun hHeld => ?_)
  clear hK K
  refine norm_ (a' := ?_) ?_ ?_
  rotate_left
  ·show Act.put _ (some 6) _ = _
   simp only [Act.put, List.setIfInBounds_toArray, List.set_cons_zero, List.set_cons_succ, i64_w, i32_w]
   rfl
  refine one_ (i := 1) (N := some 29) #[true, true, true, false, false, false, false, false, true, false, false] rfl rfl (one_of HT_.out (by kernel_rfl)) (by decide) (fun K hK => ?_)
  refine goes_ Try.func20 (by kernel_rfl) rfl #[.agg #[.int .i64 a0_0, .int .i64 a0_1, .slice A0_2 l0_2.length c0_2]] (by rfl) rfl rfl sL_ ?_
  with_reducible refine (laws_toPicture.calls k a0_0 a0_1 _ _ l0_2 t459 t460 t461 _ ?side1 ?side2 A19.out).mono ?_
  (case side1 => repeat (first | exact (Kd.C_below HR0_2.out HB.out) | (with_reducible refine Kd.C_alloc ?_ _) | (with_reducible refine Kd.C_drewN ?_ _) | (with_reducible refine Kd.C_drew ?_)))
  (case side2 => exact HC0_2.out)
  rintro e w35 ⟨v462, rfl, ho0, hb⟩
  refine ⟨_, rfl, ?_⟩
  have n0_ := Aside0.mk (Kd.R_lower ho0 (below_size (sW_ HB.out)))
  have n1_ := Aside0.mk (blk_below (sB_ BK455.out) hb)
  have n2_ := Aside0.mk (blk_below (sB_ BK456.out) hb)
  have n3_ := Aside0.mk (blk_below (sB_ BK475.out) hb)
  have n4_ := Aside0.mk (below_step (sW_ HB.out) hb)
  clear BK455 BK456 BK475 HB; have HO463 := n0_; have BK455 := n1_; have BK456 := n2_; have BK475 := n3_; have HB := n4_; clear n0_ n1_ n2_ n3_ n4_
  (try clear hb)
  (try clear hb2)
  (try clear hk)
  (try clear hi)
  (try clear ho0)
  refine hK.out _ _ ⟨(blk_cell BK455.out 0).trans rfl, (blk_cell BK455.out 1).trans rfl, (blk_cell BK455.out 2).trans rfl, (blk_cell BK456.out 0).trans rfl, (blk_cell BK456.out 1).trans rfl, (blk_cell BK456.out 2).trans rfl⟩ (fun hHeld => ?_)
  clear hK K
  refine norm_ (a' := ?_) ?_ ?_
  rotate_left
  ·show Act.put _ (some 29) _ = _
   simp only [Act.put, List.setIfInBounds_toArray, List.set_cons_zero, List.set_cons_succ, i64_w, i32_w]
   rfl
  refine one_ (i := 3) (N := some 31) #[true, true, true, true, false, false, false, false, true, false, false] rfl rfl (one_of HT_.out (by kernel_rfl)) (by decide) (fun K hK => ?_)
  refine goes_ Try.func20 (by kernel_rfl) rfl #[.agg #[.int .i64 a1_0, .int .i64 a1_1, .slice A1_2 l1_2.length c1_2]] (by rfl) rfl rfl sL_ ?_
  with_reducible refine (laws_toPicture.calls k a1_0 a1_1 _ _ l1_2 t464 t465 t466 _ ?side1 ?side2 A20.out).mono ?_
  (case side1 => repeat (first | exact (Kd.C_below HR1_2.out HB.out) | (with_reducible refine Kd.C_alloc ?_ _) | (with_reducible refine Kd.C_drewN ?_ _) | (with_reducible refine Kd.C_drew ?_)))
  (case side2 => exact HC1_2.out)
  rintro e w36 ⟨v467, rfl, ho0, hb⟩
  refine ⟨_, rfl, ?_⟩
  have n0_ := Aside0.mk (Kd.R_elder' (sR_ HO463.out) (Kd.R_base ho0) hb)
  have n1_ := Aside0.mk (Kd.R_lower (Kd.R_new' ho0 (Kd.R_lt (sR_ HO463.out))) (below_size (sW_ HB.out)))
  have n2_ := Aside0.mk (blk_below (sB_ BK455.out) hb)
  have n3_ := Aside0.mk (blk_below (sB_ BK456.out) hb)
  have n4_ := Aside0.mk (blk_below (sB_ BK475.out) hb)
  have n5_ := Aside0.mk (below_step (sW_ HB.out) hb)
  clear HO463 BK455 BK456 BK475 HB; have HO463 := n0_; have HO468 := n1_; have BK455 := n2_; have BK456 := n3_; have BK475 := n4_; have HB := n5_; clear n0_ n1_ n2_ n3_ n4_ n5_
  (try clear hb)
  (try clear hb2)
  (try clear hk)
  (try clear hi)
  (try clear ho0)
  obtain ⟨Ao37, co37, eo37⟩ := Kd.R_slice HO463.out
  (first | subst eo37 | (injection eo37 with f1_ f2_ f3_; have f4_ := f1_.symm; have f5_ := f3_.symm; clear f1_ f2_ f3_; subst f4_; subst f5_))
  obtain ⟨Ao38, co38, eo38⟩ := Kd.R_slice HO468.out
  (first | subst eo38 | (injection eo38 with f1_ f2_ f3_; have f4_ := f1_.symm; have f5_ := f3_.symm; clear f1_ f2_ f3_; subst f4_; subst f5_))
  refine hK.out _ _ ⟨(blk_cell BK455.out 0).trans rfl, (blk_cell BK455.out 1).trans rfl, (blk_cell BK455.out 2).trans rfl, (blk_cell BK456.out 0).trans rfl, (blk_cell BK456.out 1).trans rfl, (blk_cell BK456.out 2).trans rfl⟩ (fun hHeld => ?_)
  clear hK K
  refine norm_ (a' := ?_) ?_ ?_
  rotate_left
  ·show Act.put _ (some 31) _ = _
   simp only [Act.put, List.setIfInBounds_toArray, List.set_cons_zero, List.set_cons_succ, i64_w, i32_w]
   rfl
  refine one_ (i := 4) (N := some 32) #[true, true, true, true, true, false, false, false, true, false, false] rfl rfl (one_of HT_.out (by kernel_rfl)) (by decide) (fun K hK => ?_)
  refine goes_ Try.func19 (by kernel_rfl) rfl #[.agg #[.int .i64 t459, .int .i64 t460, .slice Ao37 t461.length co37], .agg #[.int .i64 t464, .int .i64 t465, .slice Ao38 t466.length co38]] (by rfl) rfl rfl sL_ ?_
  with_reducible refine (spec_AddPictures.calls k t459 t460 _ _ t461 t464 t465 _ _ t466 t469 t470 t471 t474 _ ?side1 ?side2 ?side3 ?side4 A21.out).mono ?_
  (case side1 => repeat (first | exact (Kd.R_reads' HO463.out).2.2 | (with_reducible refine Kd.C_alloc ?_ _) | (with_reducible refine Kd.C_drewN ?_ _) | (with_reducible refine Kd.C_drew ?_)))
  (case side2 => exact (Kd.R_reads' HO463.out).2.1)
  (case side3 => repeat (first | exact (Kd.R_reads' HO468.out).2.2 | (with_reducible refine Kd.C_alloc ?_ _) | (with_reducible refine Kd.C_drewN ?_ _) | (with_reducible refine Kd.C_drew ?_)))
  (case side4 => exact (Kd.R_reads' HO468.out).2.1)
  rintro e w39 ⟨v472, rfl, ho0, hb⟩
  refine ⟨_, rfl, ?_⟩
  have n0_ := Aside0.mk (Kd.R_elder' (sR_ HO463.out) (Kd.R_base ho0) hb)
  have n1_ := Aside0.mk (Kd.R_elder' (sR_ HO468.out) (Kd.R_base ho0) hb)
  have n2_ := Aside0.mk (Kd.R_lower (Kd.R_new' (Kd.R_new' ho0 (Kd.R_lt (sR_ HO463.out))) (Kd.R_lt (sR_ HO468.out))) (below_size (sW_ HB.out)))
  have n3_ := Aside0.mk (blk_below (sB_ BK455.out) hb)
  have n4_ := Aside0.mk (blk_below (sB_ BK456.out) hb)
  have n5_ := Aside0.mk (blk_below (sB_ BK475.out) hb)
  have n6_ := Aside0.mk (below_step (sW_ HB.out) hb)
  clear HO463 HO468 BK455 BK456 BK475 HB; have HO463 := n0_; have HO468 := n1_; have HO473 := n2_; have BK455 := n3_; have BK456 := n4_; have BK475 := n5_; have HB := n6_; clear n0_ n1_ n2_ n3_ n4_ n5_ n6_
  (try clear hb)
  (try clear hb2)
  (try clear hk)
  (try clear hi)
  (try clear ho0)
  refine hK.out _ _ ⟨(blk_cell BK455.out 0).trans rfl, (blk_cell BK455.out 1).trans rfl, (blk_cell BK455.out 2).trans rfl, (blk_cell BK456.out 0).trans rfl, (blk_cell BK456.out 1).trans rfl, (blk_cell BK456.out 2).trans rfl⟩ (fun hHeld => ?_)
  clear hK K
  refine norm_ (a' := ?_) ?_ ?_
  rotate_left
  ·show Act.put _ (some 32) _ = _
   simp only [Act.put, List.setIfInBounds_toArray, List.set_cons_zero, List.set_cons_succ, i64_w, i32_w]
   rfl
  refine pure_ (i := 5) (N := some 27) (v := ?_) (a' := ?_) #[true, true, true, true, true, true, false, false, true, false, false] rfl rfl (any_of HT_.out (by kernel_rfl)) (fun _ _ _ h => h) (Or.inl ⟨by rfl, ?_⟩) ?_ ?_
  rotate_left
  ·intro w'
   go_simp
   with_reducible rfl
  rotate_left
  ·simp only [Act.put, List.setIfInBounds_toArray, List.set_cons_zero, List.set_cons_succ, i64_w, i32_w]
   rfl
  refine pure_ (i := 6) (N := some 33) (v := ?_) (a' := ?_) #[true, true, true, true, true, true, true, false, true, false, false] rfl rfl (any_of HT_.out (by kernel_rfl)) (fun _ _ _ h => h) (Or.inl ⟨by rfl, ?_⟩) ?_ ?_
  rotate_left
  ·intro w'
   go_simp
   with_reducible rfl
  rotate_left
  ·simp only [Act.put, List.setIfInBounds_toArray, List.set_cons_zero, List.set_cons_succ, i64_w, i32_w]
   rfl
  refine pure_ (i := 7) (N := some 34) (v := ?_) (a' := ?_) #[true, true, true, true, true, true, true, true, true, false, false] rfl rfl (any_of HT_.out (by kernel_rfl)) (fun _ _ _ h => h) (Or.inl ⟨by rfl, ?_⟩) ?_ ?_
  rotate_left
  ·intro w'
   go_simp
   with_reducible rfl
  rotate_left
  ·simp only [Act.put, List.setIfInBounds_toArray, List.set_cons_zero, List.set_cons_succ, i64_w, i32_w]
   rfl
  exact norm_ sP_ (hCont (.slice Ao37 t461.length co37, .slice Ao38 t466.length co38, v472, gb475) _ ⟨hHeld, (by (with_reducible repeat (first | apply Kd.R_alloc | apply Kd.R_drewN | apply Kd.R_drew)); exact Kd.R_mono HO463.out (fun _ hk => ⟨hk.1.2, hk.2⟩)), (by (with_reducible repeat (first | apply Kd.R_alloc | apply Kd.R_drewN | apply Kd.R_drew)); exact Kd.R_mono HO468.out (fun _ hk => ⟨hk.1.2, hk.2⟩)), (by (with_reducible repeat (first | apply Kd.R_alloc | apply Kd.R_drewN | apply Kd.R_drew)); exact Kd.R_mono HO473.out (fun _ hk => ⟨hk.1.2, hk.2⟩)), (sB_ BK455.out), (sB_ BK456.out), (sB_ BK475.out), GW475.out, GE475.out, NB455_475.out, NB475_455.out, NB456_475.out, NB475_456.out, (sW_ HB.out)⟩)
 rintro ⟨v462, v467, v472, gb475⟩ w40 ⟨hS_, h0_, h1_, h2_, h3_, h4_, h5_, h6_, h7_, h8_, h9_, h10_, h11_, h12_⟩
 have n0_ : Aside0 (Kd.R (Kd.int .i64) 3 w40 w.heap.size (fun k_ => some k_ ≠ (v467 : Value).ownBlock ∧ some k_ ≠ (v472 : Value).ownBlock) v462 t461) := ⟨h0_⟩
 have n1_ : Aside0 (Kd.R (Kd.int .i64) 3 w40 w.heap.size (fun k_ => some k_ ≠ (v462 : Value).ownBlock ∧ some k_ ≠ (v472 : Value).ownBlock) v467 t466) := ⟨h1_⟩
 have n2_ : Aside0 (Kd.R (Kd.int .i64) 3 w40 w.heap.size (fun k_ => some k_ ≠ (v462 : Value).ownBlock ∧ some k_ ≠ (v467 : Value).ownBlock) v472 t471) := ⟨h2_⟩
 have n3_ : Aside0 (w40.heap[gb455]? = some (.cells #[.int .i64 a0_0, .int .i64 a0_1, .slice A0_2 l0_2.length c0_2] 39 (0, 0))) := ⟨h3_⟩
 have n4_ : Aside0 (w40.heap[gb456]? = some (.cells #[.int .i64 a1_0, .int .i64 a1_1, .slice A1_2 l1_2.length c1_2] 39 (0, 0))) := ⟨h4_⟩
 have n5_ : Aside0 (w40.heap[gb475]? = some (.cells #[.int .i64 0, .int .i64 0, .slice none 0 0] 27 (0, 0))) := ⟨h5_⟩
 have n6_ : Aside0 (w.heap.size ≤ gb475) := ⟨h6_⟩
 have n7_ : Aside0 (w.heap.size ≤ gb475) := ⟨h7_⟩
 have n8_ : Aside0 (gb455 ≠ gb475) := ⟨h8_⟩
 have n9_ : Aside0 (gb475 ≠ gb455) := ⟨h9_⟩
 have n10_ : Aside0 (gb456 ≠ gb475) := ⟨h10_⟩
 have n11_ : Aside0 (gb475 ≠ gb456) := ⟨h11_⟩
 have n12_ : Aside0 (Below w.heap.size w w40) := ⟨h12_⟩
 clear BK455 BK456 HB h0_ h1_ h2_ h3_ h4_ h5_ h6_ h7_ h8_ h9_ h10_ h11_ h12_; have HO463 := n0_; have HO468 := n1_; have HO473 := n2_; have BK455 := n3_; have BK456 := n4_; have BK475 := n5_; have GW475 := n6_; have GE475 := n7_; have NB455_475 := n8_; have NB475_455 := n9_; have NB456_475 := n10_; have NB475_456 := n11_; have HB := n12_; clear n0_ n1_ n2_ n3_ n4_ n5_ n6_ n7_ n8_ n9_ n10_ n11_ n12_
 have hHeld : w40.cell? ⟨gb455, 0, none⟩ = some (.int .i64 a0_0) ∧ w40.cell? ⟨gb455, 1, none⟩ = some (.int .i64 a0_1) ∧ w40.cell? ⟨gb455, 2, none⟩ = some (.slice A0_2 l0_2.length c0_2) ∧ w40.cell? ⟨gb456, 0, none⟩ = some (.int .i64 a1_0) ∧ w40.cell? ⟨gb456, 1, none⟩ = some (.int .i64 a1_1) ∧ w40.cell? ⟨gb456, 2, none⟩ = some (.slice A1_2 l1_2.length c1_2) := hS_
 obtain ⟨Ao43, co43, eo43⟩ := Kd.R_slice HO473.out
 (first | subst eo43 | (injection eo43 with f1_ f2_ f3_; have f4_ := f1_.symm; have f5_ := f3_.symm; clear f1_ f2_ f3_; subst f4_; subst f5_))
 refine norm_ (a' := ?_) ?_ ?_
 rotate_left
 ·simp only [putAll, Act.put, List.setIfInBounds_toArray, List.set_cons_zero, List.set_cons_succ]
  rfl
 refine one_ (i := 9) (N := none) #[true, true, true, true, true, true, true, true, true, true, false] rfl rfl (one_of HT_.out (by kernel_rfl)) (by decide) (fun K hK => ?_)
 have hs41 : w40.cell? ⟨gb475, 0, none⟩ = some (.int .i64 0) := (blk_cell BK475.out 0).trans rfl
 have hfs41 := blk_frozen BK475.out 0
 have hns41_0 := NB455_475.out; have hns41_1 := NB456_475.out; have hms41_0 := NB475_455.out; have hms41_1 := NB475_456.out
 have hs42 : w40.cell? ⟨gb475, 1, none⟩ = some (.int .i64 0) := (blk_cell BK475.out 1).trans rfl
 have hfs42 := blk_frozen BK475.out 1
 have hns42_0 := NB455_475.out; have hns42_1 := NB456_475.out; have hms42_0 := NB475_455.out; have hms42_1 := NB475_456.out
 have hs44 : w40.cell? ⟨gb475, 2, none⟩ = some (.slice none 0 0) := (blk_cell BK475.out 2).trans rfl
 have hfs44 := blk_frozen BK475.out 2
 have hns44_0 := NB455_475.out; have hns44_1 := NB456_475.out; have hms44_0 := NB475_455.out; have hms44_1 := NB475_456.out
 refine skip_ (w1 := ?_) (by rfl) rfl ?_ ?_
 rotate_left
 ·go_simp
  rfl
 refine hK.out _ _ ⟨((cell_far (p := ⟨gb475, _, none⟩) NB455_475.out _).trans (((cell_far (p := ⟨gb475, _, none⟩) NB455_475.out _).trans (((cell_far (p := ⟨gb475, _, none⟩) NB455_475.out _).trans (hHeld.1)))))), ((cell_far (p := ⟨gb475, _, none⟩) NB455_475.out _).trans (((cell_far (p := ⟨gb475, _, none⟩) NB455_475.out _).trans (((cell_far (p := ⟨gb475, _, none⟩) NB455_475.out _).trans (hHeld.2.1)))))), ((cell_far (p := ⟨gb475, _, none⟩) NB455_475.out _).trans (((cell_far (p := ⟨gb475, _, none⟩) NB455_475.out _).trans (((cell_far (p := ⟨gb475, _, none⟩) NB455_475.out _).trans (hHeld.2.2.1)))))), ((cell_far (p := ⟨gb475, _, none⟩) NB456_475.out _).trans (((cell_far (p := ⟨gb475, _, none⟩) NB456_475.out _).trans (((cell_far (p := ⟨gb475, _, none⟩) NB456_475.out _).trans (hHeld.2.2.2.1)))))), ((cell_far (p := ⟨gb475, _, none⟩) NB456_475.out _).trans (((cell_far (p := ⟨gb475, _, none⟩) NB456_475.out _).trans (((cell_far (p := ⟨gb475, _, none⟩) NB456_475.out _).trans (hHeld.2.2.2.2.1)))))), ((cell_far (p := ⟨gb475, _, none⟩) NB456_475.out _).trans (((cell_far (p := ⟨gb475, _, none⟩) NB456_475.out _).trans (((cell_far (p := ⟨gb475, _, none⟩) NB456_475.out _).trans (hHeld.2.2.2.2.2))))))⟩ (fun hHeld => ?_)
 clear hK K
 refine pure_ (i := 10) (N := some 7) (v := ?_) (a' := ?_) #[true, true, true, true, true, true, true, true, true, true, true] rfl rfl (any_of HT_.out (by kernel_rfl)) (fun _ _ _ h => h) (Or.inl ⟨by rfl, ?_⟩) ?_ ?_
 rotate_left
 ·intro w'
  go_simp
  with_reducible rfl
 rotate_left
 ·simp only [Act.put, List.setIfInBounds_toArray, List.set_cons_zero, List.set_cons_succ, i64_w, i32_w]
  rfl
 refine done_ (done_of HT_.out (by kernel_rfl)) ?_
 have hnb45 := NB455_475.out; have hnc45 := NB475_455.out
 obtain ⟨hcz46_0, hcz46_1, hcz46_2, hfz46_0, hfz46_1, hfz46_2⟩ := sZ_ BK455.out
 go_upto_region 12 with (first | ((with_reducible refine gate_callee (f := 20) rfl ?_); refine goesL_ (some 36) rfl rfl Try.func20 (by kernel_rfl) rfl #[.agg #[.int .i64 a0_0, .int .i64 a0_1, .slice A0_2 l0_2.length c0_2]] rfl sL_ ?_; (with_reducible refine (laws_toPicture.calls k a0_0 a0_1 _ _ l0_2 t476 t477 t478 _ ?side1 ?side2 A22.out).mono ?_); (case side1 => exact Kd.C_below HR0_2.out (sW_ HB.out)); (case side2 => exact HC0_2.out); rintro e w47 ⟨v479, rfl, ho0, hb⟩; refine ⟨_, rfl, ?_⟩; have n0_ := Aside0.mk (Kd.R_elder' (by (with_reducible repeat (first | apply Kd.R_alloc | apply Kd.R_drewN | apply Kd.R_drew)); exact (sF_ HO463.out BK475.out (by decide))) (Kd.R_base ho0) hb); have n1_ := Aside0.mk (Kd.R_elder' (by (with_reducible repeat (first | apply Kd.R_alloc | apply Kd.R_drewN | apply Kd.R_drew)); exact (sF_ HO468.out BK475.out (by decide))) (Kd.R_base ho0) hb); have n2_ := Aside0.mk (Kd.R_elder' (by (with_reducible repeat (first | apply Kd.R_alloc | apply Kd.R_drewN | apply Kd.R_drew)); exact (sF_ HO473.out BK475.out (by decide))) (Kd.R_base ho0) hb); have n3_ := Aside0.mk (Kd.R_lower (Kd.R_new' (Kd.R_new' (Kd.R_new' ho0 (Kd.R_lt (by (with_reducible repeat (first | apply Kd.R_alloc | apply Kd.R_drewN | apply Kd.R_drew)); exact (sF_ HO463.out BK475.out (by decide))))) (Kd.R_lt (by (with_reducible repeat (first | apply Kd.R_alloc | apply Kd.R_drewN | apply Kd.R_drew)); exact (sF_ HO468.out BK475.out (by decide))))) (Kd.R_lt (by (with_reducible repeat (first | apply Kd.R_alloc | apply Kd.R_drewN | apply Kd.R_drew)); exact (sF_ HO473.out BK475.out (by decide))))) (below_size (sW_ HB.out))); have n4_ := Aside0.mk (blk_below (g := gb455) (o := .cells #[.int .i64 a0_0, .int .i64 a0_1, .slice A0_2 l0_2.length c0_2] 39 (0, 0)) (by refine sB_ ?_; refine blk_far ?_ NB455_475.out _; refine sB_ ?_; refine blk_far ?_ NB455_475.out _; refine sB_ ?_; refine blk_far ?_ NB455_475.out _; refine sB_ ?_; exact BK455.out) hb); have n5_ := Aside0.mk (blk_below (g := gb456) (o := .cells #[.int .i64 a1_0, .int .i64 a1_1, .slice A1_2 l1_2.length c1_2] 39 (0, 0)) (by refine sB_ ?_; refine blk_far ?_ NB456_475.out _; refine sB_ ?_; refine blk_far ?_ NB456_475.out _; refine sB_ ?_; refine blk_far ?_ NB456_475.out _; refine sB_ ?_; exact BK456.out) hb); have n6_ := Aside0.mk (blk_below (g := gb475) (o := .cells #[.int .i64 t469, .int .i64 t470, .slice Ao43 t471.length co43] 27 (0, 0)) (by refine sB_ ?_; refine blk_put (cs := #[.int .i64 t469, .int .i64 t470, .slice none 0 0]) ?_ 2 _ rfl; refine sB_ ?_; refine blk_put (cs := #[.int .i64 t469, .int .i64 0, .slice none 0 0]) ?_ 1 _ rfl; refine sB_ ?_; refine blk_put (cs := #[.int .i64 0, .int .i64 0, .slice none 0 0]) ?_ 0 _ rfl; refine sB_ ?_; exact BK475.out) hb); have n7_ := Aside0.mk (below_step (sW_ HB.out) hb); clear HO463 HO468 HO473 BK455 BK456 BK475 HB; have HO463 := n0_; have HO468 := n1_; have HO473 := n2_; have HO480 := n3_; have BK455 := n4_; have BK456 := n5_; have BK475 := n6_; have HB := n7_; clear n0_ n1_ n2_ n3_ n4_ n5_ n6_ n7_; (try clear hb); (try clear hb2); (try clear hk); (try clear hi); (try clear ho0)) | ((with_reducible refine gate_dst (N := 8) rfl ?_); refine box_event ?hg (N := 8) ?hd (cs := #[.int .i64 0, .int .i64 0, .slice none 0 0]) (t := 27) ?hr ?_; (case hd => rfl); (case hg => rfl); (case hr => first | (go_simp; done) | (go_simp; rfl)); intro gb481 hg w48 hbox hb; have n0_ := Aside0.mk (Kd.R_below (sR_ HO463.out) hb); have n1_ := Aside0.mk (Kd.R_below (sR_ HO468.out) hb); have n2_ := Aside0.mk (Kd.R_below (sR_ HO473.out) hb); have n3_ := Aside0.mk (Kd.R_below (sR_ HO480.out) hb); have n4_ := Aside0.mk (blk_below (sB_ BK455.out) hb); have n5_ := Aside0.mk (blk_below (sB_ BK456.out) hb); have n6_ := Aside0.mk (blk_below (sB_ BK475.out) hb); have n7_ := Aside0.mk (below_step (sW_ HB.out) hb); have n8_ := Aside0.mk (hbox); have n9_ := Aside0.mk ((by rw [hg]; exact (below_size (sW_ HB.out)) : w.heap.size ≤ gb481)); have n10_ := n9_; have n11_ := Aside0.mk (sN_ hg (blk_lt (sB_ BK455.out))); have n12_ := Aside0.mk n11_.out.symm; have n13_ := Aside0.mk (sN_ hg (blk_lt (sB_ BK456.out))); have n14_ := Aside0.mk n13_.out.symm; have n15_ := Aside0.mk (sN_ hg (blk_lt (sB_ BK475.out))); have n16_ := Aside0.mk n15_.out.symm; clear HO463 HO468 HO473 HO480 BK455 BK456 BK475 HB; have HO463 := n0_; have HO468 := n1_; have HO473 := n2_; have HO480 := n3_; have BK455 := n4_; have BK456 := n5_; have BK475 := n6_; have HB := n7_; have BK481 := n8_; have GW481 := n9_; have GE481 := n10_; have NB455_481 := n11_; have NB481_455 := n12_; have NB456_481 := n13_; have NB481_456 := n14_; have NB475_481 := n15_; have NB481_475 := n16_; clear n0_ n1_ n2_ n3_ n4_ n5_ n6_ n7_ n8_ n9_ n10_ n11_ n12_ n13_ n14_ n15_ n16_; clear hb hbox hg; have hnb49 := NB481_455.out; have hnc49 := NB455_481.out; have hnb50 := NB481_456.out; have hnc50 := NB456_481.out; have hnb51 := NB481_475.out; have hnc51 := NB475_481.out; obtain ⟨hcz52_0, hcz52_1, hcz52_2, hfz52_0, hfz52_1, hfz52_2⟩ := sZ_ BK481.out; obtain ⟨Ao53, co53, eo53⟩ := Kd.R_slice HO480.out; subst eo53; have hnb54 := NB456_475.out; have hnc54 := NB475_456.out; obtain ⟨hcz55_0, hcz55_1, hcz55_2, hfz55_0, hfz55_1, hfz55_2⟩ := sZ_ BK456.out) | ((with_reducible refine gate_callee (f := 20) rfl ?_); refine goesL_ (some 38) rfl rfl Try.func20 (by kernel_rfl) rfl #[.agg #[.int .i64 a1_0, .int .i64 a1_1, .slice A1_2 l1_2.length c1_2]] rfl sL_ ?_; (with_reducible refine (laws_toPicture.calls k a1_0 a1_1 _ _ l1_2 t482 t483 t484 _ ?side1 ?side2 A23.out).mono ?_); (case side1 => exact Kd.C_below HR1_2.out (sW_ HB.out)); (case side2 => exact HC1_2.out); rintro e w56 ⟨v485, rfl, ho0, hb⟩; refine ⟨_, rfl, ?_⟩; have n0_ := Aside0.mk (Kd.R_elder' (by (with_reducible repeat (first | apply Kd.R_alloc | apply Kd.R_drewN | apply Kd.R_drew)); exact (sF_ HO463.out BK481.out (by decide))) (Kd.R_base ho0) hb); have n1_ := Aside0.mk (Kd.R_elder' (by (with_reducible repeat (first | apply Kd.R_alloc | apply Kd.R_drewN | apply Kd.R_drew)); exact (sF_ HO468.out BK481.out (by decide))) (Kd.R_base ho0) hb); have n2_ := Aside0.mk (Kd.R_elder' (by (with_reducible repeat (first | apply Kd.R_alloc | apply Kd.R_drewN | apply Kd.R_drew)); exact (sF_ HO473.out BK481.out (by decide))) (Kd.R_base ho0) hb); have n3_ := Aside0.mk (Kd.R_elder' (by (with_reducible repeat (first | apply Kd.R_alloc | apply Kd.R_drewN | apply Kd.R_drew)); exact (sF_ HO480.out BK481.out (by decide))) (Kd.R_base ho0) hb); have n4_ := Aside0.mk (Kd.R_lower (Kd.R_new' (Kd.R_new' (Kd.R_new' (Kd.R_new' ho0 (Kd.R_lt (by (with_reducible repeat (first | apply Kd.R_alloc | apply Kd.R_drewN | apply Kd.R_drew)); exact (sF_ HO463.out BK481.out (by decide))))) (Kd.R_lt (by (with_reducible repeat (first | apply Kd.R_alloc | apply Kd.R_drewN | apply Kd.R_drew)); exact (sF_ HO468.out BK481.out (by decide))))) (Kd.R_lt (by (with_reducible repeat (first | apply Kd.R_alloc | apply Kd.R_drewN | apply Kd.R_drew)); exact (sF_ HO473.out BK481.out (by decide))))) (Kd.R_lt (by (with_reducible repeat (first | apply Kd.R_alloc | apply Kd.R_drewN | apply Kd.R_drew)); exact (sF_ HO480.out BK481.out (by decide))))) (below_size (sW_ HB.out))); have n5_ := Aside0.mk (blk_below (g := gb455) (o := .cells #[.int .i64 a0_0, .int .i64 a0_1, .slice A0_2 l0_2.length c0_2] 39 (0, 0)) (by refine sB_ ?_; refine blk_far ?_ NB455_481.out _; refine sB_ ?_; refine blk_far ?_ NB455_481.out _; refine sB_ ?_; refine blk_far ?_ NB455_481.out _; refine sB_ ?_; exact BK455.out) hb); have n6_ := Aside0.mk (blk_below (g := gb456) (o := .cells #[.int .i64 a1_0, .int .i64 a1_1, .slice A1_2 l1_2.length c1_2] 39 (0, 0)) (by refine sB_ ?_; refine blk_far ?_ NB456_481.out _; refine sB_ ?_; refine blk_far ?_ NB456_481.out _; refine sB_ ?_; refine blk_far ?_ NB456_481.out _; refine sB_ ?_; exact BK456.out) hb); have n7_ := Aside0.mk (blk_below (g := gb475) (o := .cells #[.int .i64 t469, .int .i64 t470, .slice Ao43 t471.length co43] 27 (0, 0)) (by refine sB_ ?_; refine blk_far ?_ NB475_481.out _; refine sB_ ?_; refine blk_far ?_ NB475_481.out _; refine sB_ ?_; refine blk_far ?_ NB475_481.out _; refine sB_ ?_; exact BK475.out) hb); have n8_ := Aside0.mk (blk_below (g := gb481) (o := .cells #[.int .i64 t476, .int .i64 t477, .slice Ao53 t478.length co53] 27 (0, 0)) (by refine sB_ ?_; refine blk_put (cs := #[.int .i64 t476, .int .i64 t477, .slice none 0 0]) ?_ 2 _ rfl; refine sB_ ?_; refine blk_put (cs := #[.int .i64 t476, .int .i64 0, .slice none 0 0]) ?_ 1 _ rfl; refine sB_ ?_; refine blk_put (cs := #[.int .i64 0, .int .i64 0, .slice none 0 0]) ?_ 0 _ rfl; refine sB_ ?_; exact BK481.out) hb); have n9_ := Aside0.mk (below_step (sW_ HB.out) hb); clear HO463 HO468 HO473 HO480 BK455 BK456 BK475 BK481 HB; have HO463 := n0_; have HO468 := n1_; have HO473 := n2_; have HO480 := n3_; have HO486 := n4_; have BK455 := n5_; have BK456 := n6_; have BK475 := n7_; have BK481 := n8_; have HB := n9_; clear n0_ n1_ n2_ n3_ n4_ n5_ n6_ n7_ n8_ n9_; (try clear hb); (try clear hb2); (try clear hk); (try clear hi); (try clear ho0)) | ((with_reducible refine gate_dst (N := 9) rfl ?_); refine box_event ?hg (N := 9) ?hd (cs := #[.int .i64 0, .int .i64 0, .slice none 0 0]) (t := 27) ?hr ?_; (case hd => rfl); (case hg => rfl); (case hr => first | (go_simp; done) | (go_simp; rfl)); intro gb487 hg w57 hbox hb; have n0_ := Aside0.mk (Kd.R_below (sR_ HO463.out) hb); have n1_ := Aside0.mk (Kd.R_below (sR_ HO468.out) hb); have n2_ := Aside0.mk (Kd.R_below (sR_ HO473.out) hb); have n3_ := Aside0.mk (Kd.R_below (sR_ HO480.out) hb); have n4_ := Aside0.mk (Kd.R_below (sR_ HO486.out) hb); have n5_ := Aside0.mk (blk_below (sB_ BK455.out) hb); have n6_ := Aside0.mk (blk_below (sB_ BK456.out) hb); have n7_ := Aside0.mk (blk_below (sB_ BK475.out) hb); have n8_ := Aside0.mk (blk_below (sB_ BK481.out) hb); have n9_ := Aside0.mk (below_step (sW_ HB.out) hb); have n10_ := Aside0.mk (hbox); have n11_ := Aside0.mk ((by rw [hg]; exact (below_size (sW_ HB.out)) : w.heap.size ≤ gb487)); have n12_ := n11_; have n13_ := Aside0.mk (sN_ hg (blk_lt (sB_ BK455.out))); have n14_ := Aside0.mk n13_.out.symm; have n15_ := Aside0.mk (sN_ hg (blk_lt (sB_ BK456.out))); have n16_ := Aside0.mk n15_.out.symm; have n17_ := Aside0.mk (sN_ hg (blk_lt (sB_ BK475.out))); have n18_ := Aside0.mk n17_.out.symm; have n19_ := Aside0.mk (sN_ hg (blk_lt (sB_ BK481.out))); have n20_ := Aside0.mk n19_.out.symm; clear HO463 HO468 HO473 HO480 HO486 BK455 BK456 BK475 BK481 HB; have HO463 := n0_; have HO468 := n1_; have HO473 := n2_; have HO480 := n3_; have HO486 := n4_; have BK455 := n5_; have BK456 := n6_; have BK475 := n7_; have BK481 := n8_; have HB := n9_; have BK487 := n10_; have GW487 := n11_; have GE487 := n12_; have NB455_487 := n13_; have NB487_455 := n14_; have NB456_487 := n15_; have NB487_456 := n16_; have NB475_487 := n17_; have NB487_475 := n18_; have NB481_487 := n19_; have NB487_481 := n20_; clear n0_ n1_ n2_ n3_ n4_ n5_ n6_ n7_ n8_ n9_ n10_ n11_ n12_ n13_ n14_ n15_ n16_ n17_ n18_ n19_ n20_; clear hb hbox hg; have hnb58 := NB487_455.out; have hnc58 := NB455_487.out; have hnb59 := NB487_456.out; have hnc59 := NB456_487.out; have hnb60 := NB487_475.out; have hnc60 := NB475_487.out; have hnb61 := NB487_481.out; have hnc61 := NB481_487.out; obtain ⟨hcz62_0, hcz62_1, hcz62_2, hfz62_0, hfz62_1, hfz62_2⟩ := sZ_ BK487.out; obtain ⟨Ao63, co63, eo63⟩ := Kd.R_slice HO486.out; subst eo63; obtain ⟨hcz64_0, hcz64_1, hcz64_2, hfz64_0, hfz64_1, hfz64_2⟩ := sZ_ BK481.out) | ((with_reducible refine gate_callee (f := 21) rfl ?_); refine goesL_ (some 42) rfl rfl Try.func21 (by kernel_rfl) rfl #[.agg #[.int .i64 t476, .int .i64 t477, .slice Ao53 t478.length co53], .agg #[.int .i64 t482, .int .i64 t483, .slice Ao63 t484.length co63]] rfl sL_ ?_; (with_reducible refine (impl_AddPictures.calls t476 t477 _ _ t478 t482 t483 _ _ t484 t488 t489 t490 t493 _ ?side1 ?side2 ?side3 ?side4 A24.out).mono ?_); (case side1 => refine (Kd.R_reads' (e := 3) (base := w.heap.size) (ok := fun k_ => ((((True ∧ some k_ ≠ (v462 : Value).ownBlock) ∧ some k_ ≠ (v467 : Value).ownBlock) ∧ some k_ ≠ (.slice Ao43 t471.length co43 : Value).ownBlock) ∧ some k_ ≠ (.slice Ao63 t484.length co63 : Value).ownBlock)) (n := t478.length) (c := co53) ?_).2.2; exact (by (with_reducible repeat (first | apply Kd.R_alloc | apply Kd.R_drewN | apply Kd.R_drew)); exact (sF_ HO480.out BK487.out (by decide)))); (case side2 => exact (Kd.R_reads' HO480.out).2.1); (case side3 => refine (Kd.R_reads' (e := 3) (base := w.heap.size) (ok := fun k_ => ((((True ∧ some k_ ≠ (v462 : Value).ownBlock) ∧ some k_ ≠ (v467 : Value).ownBlock) ∧ some k_ ≠ (.slice Ao43 t471.length co43 : Value).ownBlock) ∧ some k_ ≠ (.slice Ao53 t478.length co53 : Value).ownBlock)) (n := t484.length) (c := co63) ?_).2.2; exact (by (with_reducible repeat (first | apply Kd.R_alloc | apply Kd.R_drewN | apply Kd.R_drew)); exact (sF_ HO486.out BK487.out (by decide)))); (case side4 => exact (Kd.R_reads' HO486.out).2.1); rintro e w65 ⟨v491, rfl, ho0, hb⟩; refine ⟨_, rfl, ?_⟩; have n0_ := Aside0.mk (Kd.R_elder' (by (with_reducible repeat (first | apply Kd.R_alloc | apply Kd.R_drewN | apply Kd.R_drew)); exact (sF_ HO463.out BK487.out (by decide))) (Kd.R_base ho0) hb); have n1_ := Aside0.mk (Kd.R_elder' (by (with_reducible repeat (first | apply Kd.R_alloc | apply Kd.R_drewN | apply Kd.R_drew)); exact (sF_ HO468.out BK487.out (by decide))) (Kd.R_base ho0) hb); have n2_ := Aside0.mk (Kd.R_elder' (by (with_reducible repeat (first | apply Kd.R_alloc | apply Kd.R_drewN | apply Kd.R_drew)); exact (sF_ HO473.out BK487.out (by decide))) (Kd.R_base ho0) hb); have n3_ := Aside0.mk (Kd.R_elder' (by (with_reducible repeat (first | apply Kd.R_alloc | apply Kd.R_drewN | apply Kd.R_drew)); exact (sF_ HO480.out BK487.out (by decide))) (Kd.R_base ho0) hb); have n4_ := Aside0.mk (Kd.R_elder' (by (with_reducible repeat (first | apply Kd.R_alloc | apply Kd.R_drewN | apply Kd.R_drew)); exact (sF_ HO486.out BK487.out (by decide))) (Kd.R_base ho0) hb); have n5_ := Aside0.mk (Kd.R_lower (Kd.R_new' (Kd.R_new' (Kd.R_new' (Kd.R_new' (Kd.R_new' ho0 (Kd.R_lt (by (with_reducible repeat (first | apply Kd.R_alloc | apply Kd.R_drewN | apply Kd.R_drew)); exact (sF_ HO463.out BK487.out (by decide))))) (Kd.R_lt (by (with_reducible repeat (first | apply Kd.R_alloc | apply Kd.R_drewN | apply Kd.R_drew)); exact (sF_ HO468.out BK487.out (by decide))))) (Kd.R_lt (by (with_reducible repeat (first | apply Kd.R_alloc | apply Kd.R_drewN | apply Kd.R_drew)); exact (sF_ HO473.out BK487.out (by decide))))) (Kd.R_lt (by (with_reducible repeat (first | apply Kd.R_alloc | apply Kd.R_drewN | apply Kd.R_drew)); exact (sF_ HO480.out BK487.out (by decide))))) (Kd.R_lt (by (with_reducible repeat (first | apply Kd.R_alloc | apply Kd.R_drewN | apply Kd.R_drew)); exact (sF_ HO486.out BK487.out (by decide))))) (below_size (sW_ HB.out))); have n6_ := Aside0.mk (blk_below (g := gb455) (o := .cells #[.int .i64 a0_0, .int .i64 a0_1, .slice A0_2 l0_2.length c0_2] 39 (0, 0)) (by refine sB_ ?_; refine blk_far ?_ NB455_487.out _; refine sB_ ?_; refine blk_far ?_ NB455_487.out _; refine sB_ ?_; refine blk_far ?_ NB455_487.out _; refine sB_ ?_; exact BK455.out) hb); have n7_ := Aside0.mk (blk_below (g := gb456) (o := .cells #[.int .i64 a1_0, .int .i64 a1_1, .slice A1_2 l1_2.length c1_2] 39 (0, 0)) (by refine sB_ ?_; refine blk_far ?_ NB456_487.out _; refine sB_ ?_; refine blk_far ?_ NB456_487.out _; refine sB_ ?_; refine blk_far ?_ NB456_487.out _; refine sB_ ?_; exact BK456.out) hb); have n8_ := Aside0.mk (blk_below (g := gb475) (o := .cells #[.int .i64 t469, .int .i64 t470, .slice Ao43 t471.length co43] 27 (0, 0)) (by refine sB_ ?_; refine blk_far ?_ NB475_487.out _; refine sB_ ?_; refine blk_far ?_ NB475_487.out _; refine sB_ ?_; refine blk_far ?_ NB475_487.out _; refine sB_ ?_; exact BK475.out) hb); have n9_ := Aside0.mk (blk_below (g := gb481) (o := .cells #[.int .i64 t476, .int .i64 t477, .slice Ao53 t478.length co53] 27 (0, 0)) (by refine sB_ ?_; refine blk_far ?_ NB481_487.out _; refine sB_ ?_; refine blk_far ?_ NB481_487.out _; refine sB_ ?_; refine blk_far ?_ NB481_487.out _; refine sB_ ?_; exact BK481.out) hb); have n10_ := Aside0.mk (blk_below (g := gb487) (o := .cells #[.int .i64 t482, .int .i64 t483, .slice Ao63 t484.length co63] 27 (0, 0)) (by refine sB_ ?_; refine blk_put (cs := #[.int .i64 t482, .int .i64 t483, .slice none 0 0]) ?_ 2 _ rfl; refine sB_ ?_; refine blk_put (cs := #[.int .i64 t482, .int .i64 0, .slice none 0 0]) ?_ 1 _ rfl; refine sB_ ?_; refine blk_put (cs := #[.int .i64 0, .int .i64 0, .slice none 0 0]) ?_ 0 _ rfl; refine sB_ ?_; exact BK487.out) hb); have n11_ := Aside0.mk (below_step (sW_ HB.out) hb); clear HO463 HO468 HO473 HO480 HO486 BK455 BK456 BK475 BK481 BK487 HB; have HO463 := n0_; have HO468 := n1_; have HO473 := n2_; have HO480 := n3_; have HO486 := n4_; have HO492 := n5_; have BK455 := n6_; have BK456 := n7_; have BK475 := n8_; have BK481 := n9_; have BK487 := n10_; have HB := n11_; clear n0_ n1_ n2_ n3_ n4_ n5_ n6_ n7_ n8_ n9_ n10_ n11_; (try clear hb); (try clear hb2); (try clear hk); (try clear hi); (try clear ho0)) | ((with_reducible refine gate_dst (N := 10) rfl ?_); refine box_event ?hg (N := 10) ?hd (cs := #[.int .i64 0, .int .i64 0, .slice none 0 0]) (t := 27) ?hr ?_; (case hd => rfl); (case hg => rfl); (case hr => first | (go_simp; done) | (go_simp; rfl)); intro gb494 hg w66 hbox hb; have n0_ := Aside0.mk (Kd.R_below (sR_ HO463.out) hb); have n1_ := Aside0.mk (Kd.R_below (sR_ HO468.out) hb); have n2_ := Aside0.mk (Kd.R_below (sR_ HO473.out) hb); have n3_ := Aside0.mk (Kd.R_below (sR_ HO480.out) hb); have n4_ := Aside0.mk (Kd.R_below (sR_ HO486.out) hb); have n5_ := Aside0.mk (Kd.R_below (sR_ HO492.out) hb); have n6_ := Aside0.mk (blk_below (sB_ BK455.out) hb); have n7_ := Aside0.mk (blk_below (sB_ BK456.out) hb); have n8_ := Aside0.mk (blk_below (sB_ BK475.out) hb); have n9_ := Aside0.mk (blk_below (sB_ BK481.out) hb); have n10_ := Aside0.mk (blk_below (sB_ BK487.out) hb); have n11_ := Aside0.mk (below_step (sW_ HB.out) hb); have n12_ := Aside0.mk (hbox); have n13_ := Aside0.mk ((by rw [hg]; exact (below_size (sW_ HB.out)) : w.heap.size ≤ gb494)); have n14_ := n13_; have n15_ := Aside0.mk (sN_ hg (blk_lt (sB_ BK455.out))); have n16_ := Aside0.mk n15_.out.symm; have n17_ := Aside0.mk (sN_ hg (blk_lt (sB_ BK456.out))); have n18_ := Aside0.mk n17_.out.symm; have n19_ := Aside0.mk (sN_ hg (blk_lt (sB_ BK475.out))); have n20_ := Aside0.mk n19_.out.symm; have n21_ := Aside0.mk (sN_ hg (blk_lt (sB_ BK481.out))); have n22_ := Aside0.mk n21_.out.symm; have n23_ := Aside0.mk (sN_ hg (blk_lt (sB_ BK487.out))); have n24_ := Aside0.mk n23_.out.symm; clear HO463 HO468 HO473 HO480 HO486 HO492 BK455 BK456 BK475 BK481 BK487 HB; have HO463 := n0_; have HO468 := n1_; have HO473 := n2_; have HO480 := n3_; have HO486 := n4_; have HO492 := n5_; have BK455 := n6_; have BK456 := n7_; have BK475 := n8_; have BK481 := n9_; have BK487 := n10_; have HB := n11_; have BK494 := n12_; have GW494 := n13_; have GE494 := n14_; have NB455_494 := n15_; have NB494_455 := n16_; have NB456_494 := n17_; have NB494_456 := n18_; have NB475_494 := n19_; have NB494_475 := n20_; have NB481_494 := n21_; have NB494_481 := n22_; have NB487_494 := n23_; have NB494_487 := n24_; clear n0_ n1_ n2_ n3_ n4_ n5_ n6_ n7_ n8_ n9_ n10_ n11_ n12_ n13_ n14_ n15_ n16_ n17_ n18_ n19_ n20_ n21_ n22_ n23_ n24_; clear hb hbox hg; have hnb67 := NB494_455.out; have hnc67 := NB455_494.out; have hnb68 := NB494_456.out; have hnc68 := NB456_494.out; have hnb69 := NB494_475.out; have hnc69 := NB475_494.out; have hnb70 := NB494_481.out; have hnc70 := NB481_494.out; have hnb71 := NB494_487.out; have hnc71 := NB487_494.out; obtain ⟨hcz72_0, hcz72_1, hcz72_2, hfz72_0, hfz72_1, hfz72_2⟩ := sZ_ BK494.out; obtain ⟨Ao73, co73, eo73⟩ := Kd.R_slice HO492.out; subst eo73))
 (try simp only [Act.put, List.setIfInBounds_toArray, List.set_cons_zero, List.set_cons_succ])
 go_cut [53] (fun v53 wc => ∃ (kq : Nat) (x53_24 : Bool), v53 = .bool x53_24 ∧ Aside0 (laws_FnExactAddPictures.j0 kq t474 t493 x53_24 a0_0 a0_1 l0_2 a1_0 a1_1 l1_2 t469 t470 t471 t476 t477 t478 t482 t483 t484 t488 t489 t490 = some r) ∧ Aside0 (kq ≤ k) ∧ Aside0 (Kd.R (Kd.int .i64) 3 wc w.heap.size (fun k_ => some k_ ≠ ((.slice Ao53 t478.length co53) : Value).ownBlock ∧ some k_ ≠ ((.slice Ao63 t484.length co63) : Value).ownBlock ∧ some k_ ≠ ((.slice Ao73 t490.length co73) : Value).ownBlock) (.slice Ao43 t471.length co43) t471) ∧ Aside0 (Kd.R (Kd.int .i64) 3 wc w.heap.size (fun k_ => some k_ ≠ ((.slice Ao43 t471.length co43) : Value).ownBlock ∧ some k_ ≠ ((.slice Ao63 t484.length co63) : Value).ownBlock ∧ some k_ ≠ ((.slice Ao73 t490.length co73) : Value).ownBlock) (.slice Ao53 t478.length co53) t478) ∧ Aside0 (Kd.R (Kd.int .i64) 3 wc w.heap.size (fun k_ => some k_ ≠ ((.slice Ao43 t471.length co43) : Value).ownBlock ∧ some k_ ≠ ((.slice Ao53 t478.length co53) : Value).ownBlock ∧ some k_ ≠ ((.slice Ao73 t490.length co73) : Value).ownBlock) (.slice Ao63 t484.length co63) t484) ∧ Aside0 (Kd.R (Kd.int .i64) 3 wc w.heap.size (fun k_ => some k_ ≠ ((.slice Ao43 t471.length co43) : Value).ownBlock ∧ some k_ ≠ ((.slice Ao53 t478.length co53) : Value).ownBlock ∧ some k_ ≠ ((.slice Ao63 t484.length co63) : Value).ownBlock) (.slice Ao73 t490.length co73) t490) ∧ Aside0 (wc.heap[gb455]? = some (.cells #[.int .i64 a0_0, .int .i64 a0_1, (.slice A0_2 l0_2.length c0_2)] 39 (0, 0))) ∧ Aside0 (wc.heap[gb456]? = some (.cells #[.int .i64 a1_0, .int .i64 a1_1, (.slice A1_2 l1_2.length c1_2)] 39 (0, 0))) ∧ Aside0 (wc.heap[gb475]? = some (.cells #[.int .i64 t469, .int .i64 t470, (.slice Ao43 t471.length co43)] 27 (0, 0))) ∧ Aside0 (wc.heap[gb481]? = some (.cells #[.int .i64 t476, .int .i64 t477, (.slice Ao53 t478.length co53)] 27 (0, 0))) ∧ Aside0 (wc.heap[gb487]? = some (.cells #[.int .i64 t482, .int .i64 t483, (.slice Ao63 t484.length co63)] 27 (0, 0))) ∧ Aside0 (wc.heap[gb494]? = some (.cells #[.int .i64 t488, .int .i64 t489, (.slice Ao73 t490.length co73)] 27 (0, 0))) ∧ Aside0 (Below w.heap.size w wc))
 case first =>
  have H := HC25.out; clear HC25
  replace H := Option.bind_eq_some_iff.mp H
  obtain ⟨t495, A740, H⟩ := H
  replace H : (if t495 = true then (laws_FnExactAddPictures.j0 k t474 t493 (t493 != t474) a0_0 a0_1 l0_2 a1_0 a1_1 l1_2 t469 t470 t471 t476 t477 t478 t482 t483 t484 t488 t489 t490) else (laws_FnExactAddPictures.j0 k t474 t493 true a0_0 a0_1 l0_2 a1_0 a1_1 l1_2 t469 t470 t471 t476 t477 t478 t482 t483 t484 t488 t489 t490)) = some r := H
  have A74 := Aside0.mk A740
  clear A740
  by_cases c75 : t495 = true
  ·subst c75
   have H1 : (laws_FnExactAddPictures.j0 k t474 t493 (t493 != t474) a0_0 a0_1 l0_2 a1_0 a1_1 l1_2 t469 t470 t471 t476 t477 t478 t482 t483 t484 t488 t489 t490) = some r := by rw [if_pos rfl] at H; exact H
   clear H; have H := H1; clear H1
   have H' := Aside0.mk H
   clear H; have hnb76 := NB494_455.out; have hnc76 := NB455_494.out; have hnb77 := NB494_456.out; have hnc77 := NB456_494.out; have hnb78 := NB494_475.out; have hnc78 := NB475_494.out; have hnb79 := NB494_481.out; have hnc79 := NB481_494.out; have hnb80 := NB494_487.out; have hnc80 := NB487_494.out
   obtain ⟨hcz81_0, hcz81_1, hcz81_2, hfz81_0, hfz81_1, hfz81_2⟩ := sZ_ BK494.out
   have hnb82 := NB475_455.out; have hnc82 := NB455_475.out; have hnb83 := NB475_456.out; have hnc83 := NB456_475.out; have hnb84 := NB475_481.out; have hnc84 := NB481_475.out; have hnb85 := NB475_487.out; have hnc85 := NB487_475.out
   obtain ⟨hcz86_0, hcz86_1, hcz86_2, hfz86_0, hfz86_1, hfz86_2⟩ := sZ_ BK475.out
   go_wp2_with (first | ((with_reducible refine gate_callee (f := 22) rfl ?_); refine goesL_ (some 47) rfl rfl Try.func22 (by kernel_rfl) rfl #[.agg #[.int .i64 t488, .int .i64 t489, .slice Ao73 t490.length co73], .agg #[.int .i64 t469, .int .i64 t470, .slice Ao43 t471.length co43]] rfl sL_ ?_; (with_reducible refine (laws_eqPicture.calls k t488 t489 _ _ t490 t469 t470 _ _ t471 true _ ?side1 ?side2 ?side3 ?side4 A74.out).mono ?_); (case side1 => refine (Kd.R_reads' (e := 3) (base := w.heap.size) (ok := fun k_ => (((((True ∧ some k_ ≠ (v462 : Value).ownBlock) ∧ some k_ ≠ (v467 : Value).ownBlock) ∧ some k_ ≠ (.slice Ao43 t471.length co43 : Value).ownBlock) ∧ some k_ ≠ (.slice Ao53 t478.length co53 : Value).ownBlock) ∧ some k_ ≠ (.slice Ao63 t484.length co63 : Value).ownBlock)) (n := t490.length) (c := co73) ?_).2.2; exact (by (with_reducible repeat (first | apply Kd.R_alloc | apply Kd.R_drewN | apply Kd.R_drew)); exact (sF_ HO492.out BK494.out (by decide)))); (case side2 => exact (Kd.R_reads' HO492.out).2.1); (case side3 => refine (Kd.R_reads' (e := 3) (base := w.heap.size) (ok := fun k_ => ((((some k_ ≠ (v462 : Value).ownBlock ∧ some k_ ≠ (v467 : Value).ownBlock) ∧ some k_ ≠ (.slice Ao53 t478.length co53 : Value).ownBlock) ∧ some k_ ≠ (.slice Ao63 t484.length co63 : Value).ownBlock) ∧ some k_ ≠ (.slice Ao73 t490.length co73 : Value).ownBlock)) (n := t471.length) (c := co43) ?_).2.2; exact (by (with_reducible repeat (first | apply Kd.R_alloc | apply Kd.R_drewN | apply Kd.R_drew)); exact (sF_ HO473.out BK494.out (by decide)))); (case side4 => exact (Kd.R_reads' HO473.out).2.1); rintro e w87 ⟨rfl, hb⟩; refine ⟨_, rfl, ?_⟩; have n0_ := Aside0.mk (Kd.R_below (by (with_reducible repeat (first | apply Kd.R_alloc | apply Kd.R_drewN | apply Kd.R_drew)); exact (sF_ HO463.out BK494.out (by decide))) hb); have n1_ := Aside0.mk (Kd.R_below (by (with_reducible repeat (first | apply Kd.R_alloc | apply Kd.R_drewN | apply Kd.R_drew)); exact (sF_ HO468.out BK494.out (by decide))) hb); have n2_ := Aside0.mk (Kd.R_below (by (with_reducible repeat (first | apply Kd.R_alloc | apply Kd.R_drewN | apply Kd.R_drew)); exact (sF_ HO473.out BK494.out (by decide))) hb); have n3_ := Aside0.mk (Kd.R_below (by (with_reducible repeat (first | apply Kd.R_alloc | apply Kd.R_drewN | apply Kd.R_drew)); exact (sF_ HO480.out BK494.out (by decide))) hb); have n4_ := Aside0.mk (Kd.R_below (by (with_reducible repeat (first | apply Kd.R_alloc | apply Kd.R_drewN | apply Kd.R_drew)); exact (sF_ HO486.out BK494.out (by decide))) hb); have n5_ := Aside0.mk (Kd.R_below (by (with_reducible repeat (first | apply Kd.R_alloc | apply Kd.R_drewN | apply Kd.R_drew)); exact (sF_ HO492.out BK494.out (by decide))) hb); have n6_ := Aside0.mk (blk_below (g := gb455) (o := .cells #[.int .i64 a0_0, .int .i64 a0_1, .slice A0_2 l0_2.length c0_2] 39 (0, 0)) (by refine sB_ ?_; refine blk_far ?_ NB455_494.out _; refine sB_ ?_; refine blk_far ?_ NB455_494.out _; refine sB_ ?_; refine blk_far ?_ NB455_494.out _; refine sB_ ?_; exact BK455.out) hb); have n7_ := Aside0.mk (blk_below (g := gb456) (o := .cells #[.int .i64 a1_0, .int .i64 a1_1, .slice A1_2 l1_2.length c1_2] 39 (0, 0)) (by refine sB_ ?_; refine blk_far ?_ NB456_494.out _; refine sB_ ?_; refine blk_far ?_ NB456_494.out _; refine sB_ ?_; refine blk_far ?_ NB456_494.out _; refine sB_ ?_; exact BK456.out) hb); have n8_ := Aside0.mk (blk_below (g := gb475) (o := .cells #[.int .i64 t469, .int .i64 t470, .slice Ao43 t471.length co43] 27 (0, 0)) (by refine sB_ ?_; refine blk_far ?_ NB475_494.out _; refine sB_ ?_; refine blk_far ?_ NB475_494.out _; refine sB_ ?_; refine blk_far ?_ NB475_494.out _; refine sB_ ?_; exact BK475.out) hb); have n9_ := Aside0.mk (blk_below (g := gb481) (o := .cells #[.int .i64 t476, .int .i64 t477, .slice Ao53 t478.length co53] 27 (0, 0)) (by refine sB_ ?_; refine blk_far ?_ NB481_494.out _; refine sB_ ?_; refine blk_far ?_ NB481_494.out _; refine sB_ ?_; refine blk_far ?_ NB481_494.out _; refine sB_ ?_; exact BK481.out) hb); have n10_ := Aside0.mk (blk_below (g := gb487) (o := .cells #[.int .i64 t482, .int .i64 t483, .slice Ao63 t484.length co63] 27 (0, 0)) (by refine sB_ ?_; refine blk_far ?_ NB487_494.out _; refine sB_ ?_; refine blk_far ?_ NB487_494.out _; refine sB_ ?_; refine blk_far ?_ NB487_494.out _; refine sB_ ?_; exact BK487.out) hb); have n11_ := Aside0.mk (blk_below (g := gb494) (o := .cells #[.int .i64 t488, .int .i64 t489, .slice Ao73 t490.length co73] 27 (0, 0)) (by refine sB_ ?_; refine blk_put (cs := #[.int .i64 t488, .int .i64 t489, .slice none 0 0]) ?_ 2 _ rfl; refine sB_ ?_; refine blk_put (cs := #[.int .i64 t488, .int .i64 0, .slice none 0 0]) ?_ 1 _ rfl; refine sB_ ?_; refine blk_put (cs := #[.int .i64 0, .int .i64 0, .slice none 0 0]) ?_ 0 _ rfl; refine sB_ ?_; exact BK494.out) hb); have n12_ := Aside0.mk (below_step (sW_ HB.out) hb); clear HO463 HO468 HO473 HO480 HO486 HO492 BK455 BK456 BK475 BK481 BK487 BK494 HB; have HO463 := n0_; have HO468 := n1_; have HO473 := n2_; have HO480 := n3_; have HO486 := n4_; have HO492 := n5_; have BK455 := n6_; have BK456 := n7_; have BK475 := n8_; have BK481 := n9_; have BK487 := n10_; have BK494 := n11_; have HB := n12_; clear n0_ n1_ n2_ n3_ n4_ n5_ n6_ n7_ n8_ n9_ n10_ n11_ n12_; (try clear hb); (try clear hb2); (try clear hk); (try clear hi)))
   go_meet
   case rel => exact ⟨_, ((t493 != t474)), (by first | rfl | (simp; done) | (simp [*]; done)), H', ⟨by first | omega | exact Nat.le_refl _⟩, ⟨by (with_reducible repeat (first | apply Kd.R_alloc | apply Kd.R_drewN | apply Kd.R_drew)); exact Kd.R_mono HO473.out (fun _ hk => ⟨hk.1.1.2, ⟨hk.1.2, hk.2⟩⟩)⟩, ⟨by (with_reducible repeat (first | apply Kd.R_alloc | apply Kd.R_drewN | apply Kd.R_drew)); exact Kd.R_mono HO480.out (fun _ hk => ⟨hk.1.1.2, ⟨hk.1.2, hk.2⟩⟩)⟩, ⟨by (with_reducible repeat (first | apply Kd.R_alloc | apply Kd.R_drewN | apply Kd.R_drew)); exact Kd.R_mono HO486.out (fun _ hk => ⟨hk.1.1.2, ⟨hk.1.2, hk.2⟩⟩)⟩, ⟨by (with_reducible repeat (first | apply Kd.R_alloc | apply Kd.R_drewN | apply Kd.R_drew)); exact Kd.R_mono HO492.out (fun _ hk => ⟨hk.1.1.2, ⟨hk.1.2, hk.2⟩⟩)⟩, ⟨by refine sB_ ?_; exact BK455.out⟩, ⟨by refine sB_ ?_; exact BK456.out⟩, ⟨by refine sB_ ?_; exact BK475.out⟩, ⟨by refine sB_ ?_; exact BK481.out⟩, ⟨by refine sB_ ?_; exact BK487.out⟩, ⟨by refine sB_ ?_; exact BK494.out⟩, ⟨by repeat (first | (with_reducible first | exact HB.out | apply below_alloc | apply pw_below_drewN | apply below_drew1 | refine below_set ?_ GE455.out | refine below_set ?_ GE456.out | refine below_set ?_ GE475.out | refine below_set ?_ GE481.out | refine below_set ?_ GE487.out | refine below_set ?_ GE494.out) | exact HB.out)⟩⟩
  replace c75 := Bool.eq_false_iff.mpr c75
  subst c75
  have H1 : (laws_FnExactAddPictures.j0 k t474 t493 true a0_0 a0_1 l0_2 a1_0 a1_1 l1_2 t469 t470 t471 t476 t477 t478 t482 t483 t484 t488 t489 t490) = some r := by rw [if_neg (show ¬ (false = true) by decide)] at H; exact H
  clear H; have H := H1; clear H1
  have H' := Aside0.mk H
  clear H; have hnb88 := NB494_455.out; have hnc88 := NB455_494.out; have hnb89 := NB494_456.out; have hnc89 := NB456_494.out; have hnb90 := NB494_475.out; have hnc90 := NB475_494.out; have hnb91 := NB494_481.out; have hnc91 := NB481_494.out; have hnb92 := NB494_487.out; have hnc92 := NB487_494.out
  obtain ⟨hcz93_0, hcz93_1, hcz93_2, hfz93_0, hfz93_1, hfz93_2⟩ := sZ_ BK494.out
  have hnb94 := NB475_455.out; have hnc94 := NB455_475.out; have hnb95 := NB475_456.out; have hnc95 := NB456_475.out; have hnb96 := NB475_481.out; have hnc96 := NB481_475.out; have hnb97 := NB475_487.out; have hnc97 := NB487_475.out
  obtain ⟨hcz98_0, hcz98_1, hcz98_2, hfz98_0, hfz98_1, hfz98_2⟩ := sZ_ BK475.out
  go_wp2_with (first | ((with_reducible refine gate_callee (f := 22) rfl ?_); refine goesL_ (some 47) rfl rfl Try.func22 (by kernel_rfl) rfl #[.agg #[.int .i64 t488, .int .i64 t489, .slice Ao73 t490.length co73], .agg #[.int .i64 t469, .int .i64 t470, .slice Ao43 t471.length co43]] rfl sL_ ?_; (with_reducible refine (laws_eqPicture.calls k t488 t489 _ _ t490 t469 t470 _ _ t471 false _ ?side1 ?side2 ?side3 ?side4 A74.out).mono ?_); (case side1 => refine (Kd.R_reads' (e := 3) (base := w.heap.size) (ok := fun k_ => (((((True ∧ some k_ ≠ (v462 : Value).ownBlock) ∧ some k_ ≠ (v467 : Value).ownBlock) ∧ some k_ ≠ (.slice Ao43 t471.length co43 : Value).ownBlock) ∧ some k_ ≠ (.slice Ao53 t478.length co53 : Value).ownBlock) ∧ some k_ ≠ (.slice Ao63 t484.length co63 : Value).ownBlock)) (n := t490.length) (c := co73) ?_).2.2; exact (by (with_reducible repeat (first | apply Kd.R_alloc | apply Kd.R_drewN | apply Kd.R_drew)); exact (sF_ HO492.out BK494.out (by decide)))); (case side2 => exact (Kd.R_reads' HO492.out).2.1); (case side3 => refine (Kd.R_reads' (e := 3) (base := w.heap.size) (ok := fun k_ => ((((some k_ ≠ (v462 : Value).ownBlock ∧ some k_ ≠ (v467 : Value).ownBlock) ∧ some k_ ≠ (.slice Ao53 t478.length co53 : Value).ownBlock) ∧ some k_ ≠ (.slice Ao63 t484.length co63 : Value).ownBlock) ∧ some k_ ≠ (.slice Ao73 t490.length co73 : Value).ownBlock)) (n := t471.length) (c := co43) ?_).2.2; exact (by (with_reducible repeat (first | apply Kd.R_alloc | apply Kd.R_drewN | apply Kd.R_drew)); exact (sF_ HO473.out BK494.out (by decide)))); (case side4 => exact (Kd.R_reads' HO473.out).2.1); rintro e w99 ⟨rfl, hb⟩; refine ⟨_, rfl, ?_⟩; have n0_ := Aside0.mk (Kd.R_below (by (with_reducible repeat (first | apply Kd.R_alloc | apply Kd.R_drewN | apply Kd.R_drew)); exact (sF_ HO463.out BK494.out (by decide))) hb); have n1_ := Aside0.mk (Kd.R_below (by (with_reducible repeat (first | apply Kd.R_alloc | apply Kd.R_drewN | apply Kd.R_drew)); exact (sF_ HO468.out BK494.out (by decide))) hb); have n2_ := Aside0.mk (Kd.R_below (by (with_reducible repeat (first | apply Kd.R_alloc | apply Kd.R_drewN | apply Kd.R_drew)); exact (sF_ HO473.out BK494.out (by decide))) hb); have n3_ := Aside0.mk (Kd.R_below (by (with_reducible repeat (first | apply Kd.R_alloc | apply Kd.R_drewN | apply Kd.R_drew)); exact (sF_ HO480.out BK494.out (by decide))) hb); have n4_ := Aside0.mk (Kd.R_below (by (with_reducible repeat (first | apply Kd.R_alloc | apply Kd.R_drewN | apply Kd.R_drew)); exact (sF_ HO486.out BK494.out (by decide))) hb); have n5_ := Aside0.mk (Kd.R_below (by (with_reducible repeat (first | apply Kd.R_alloc | apply Kd.R_drewN | apply Kd.R_drew)); exact (sF_ HO492.out BK494.out (by decide))) hb); have n6_ := Aside0.mk (blk_below (g := gb455) (o := .cells #[.int .i64 a0_0, .int .i64 a0_1, .slice A0_2 l0_2.length c0_2] 39 (0, 0)) (by refine sB_ ?_; refine blk_far ?_ NB455_494.out _; refine sB_ ?_; refine blk_far ?_ NB455_494.out _; refine sB_ ?_; refine blk_far ?_ NB455_494.out _; refine sB_ ?_; exact BK455.out) hb); have n7_ := Aside0.mk (blk_below (g := gb456) (o := .cells #[.int .i64 a1_0, .int .i64 a1_1, .slice A1_2 l1_2.length c1_2] 39 (0, 0)) (by refine sB_ ?_; refine blk_far ?_ NB456_494.out _; refine sB_ ?_; refine blk_far ?_ NB456_494.out _; refine sB_ ?_; refine blk_far ?_ NB456_494.out _; refine sB_ ?_; exact BK456.out) hb); have n8_ := Aside0.mk (blk_below (g := gb475) (o := .cells #[.int .i64 t469, .int .i64 t470, .slice Ao43 t471.length co43] 27 (0, 0)) (by refine sB_ ?_; refine blk_far ?_ NB475_494.out _; refine sB_ ?_; refine blk_far ?_ NB475_494.out _; refine sB_ ?_; refine blk_far ?_ NB475_494.out _; refine sB_ ?_; exact BK475.out) hb); have n9_ := Aside0.mk (blk_below (g := gb481) (o := .cells #[.int .i64 t476, .int .i64 t477, .slice Ao53 t478.length co53] 27 (0, 0)) (by refine sB_ ?_; refine blk_far ?_ NB481_494.out _; refine sB_ ?_; refine blk_far ?_ NB481_494.out _; refine sB_ ?_; refine blk_far ?_ NB481_494.out _; refine sB_ ?_; exact BK481.out) hb); have n10_ := Aside0.mk (blk_below (g := gb487) (o := .cells #[.int .i64 t482, .int .i64 t483, .slice Ao63 t484.length co63] 27 (0, 0)) (by refine sB_ ?_; refine blk_far ?_ NB487_494.out _; refine sB_ ?_; refine blk_far ?_ NB487_494.out _; refine sB_ ?_; refine blk_far ?_ NB487_494.out _; refine sB_ ?_; exact BK487.out) hb); have n11_ := Aside0.mk (blk_below (g := gb494) (o := .cells #[.int .i64 t488, .int .i64 t489, .slice Ao73 t490.length co73] 27 (0, 0)) (by refine sB_ ?_; refine blk_put (cs := #[.int .i64 t488, .int .i64 t489, .slice none 0 0]) ?_ 2 _ rfl; refine sB_ ?_; refine blk_put (cs := #[.int .i64 t488, .int .i64 0, .slice none 0 0]) ?_ 1 _ rfl; refine sB_ ?_; refine blk_put (cs := #[.int .i64 0, .int .i64 0, .slice none 0 0]) ?_ 0 _ rfl; refine sB_ ?_; exact BK494.out) hb); have n12_ := Aside0.mk (below_step (sW_ HB.out) hb); clear HO463 HO468 HO473 HO480 HO486 HO492 BK455 BK456 BK475 BK481 BK487 BK494 HB; have HO463 := n0_; have HO468 := n1_; have HO473 := n2_; have HO480 := n3_; have HO486 := n4_; have HO492 := n5_; have BK455 := n6_; have BK456 := n7_; have BK475 := n8_; have BK481 := n9_; have BK487 := n10_; have BK494 := n11_; have HB := n12_; clear n0_ n1_ n2_ n3_ n4_ n5_ n6_ n7_ n8_ n9_ n10_ n11_ n12_; (try clear hb); (try clear hb2); (try clear hk); (try clear hi)))
  go_meet
  case rel => exact ⟨_, (true), (by first | rfl | (simp; done) | (simp [*]; done)), H', ⟨by first | omega | exact Nat.le_refl _⟩, ⟨by (with_reducible repeat (first | apply Kd.R_alloc | apply Kd.R_drewN | apply Kd.R_drew)); exact Kd.R_mono HO473.out (fun _ hk => ⟨hk.1.1.2, ⟨hk.1.2, hk.2⟩⟩)⟩, ⟨by (with_reducible repeat (first | apply Kd.R_alloc | apply Kd.R_drewN | apply Kd.R_drew)); exact Kd.R_mono HO480.out (fun _ hk => ⟨hk.1.1.2, ⟨hk.1.2, hk.2⟩⟩)⟩, ⟨by (with_reducible repeat (first | apply Kd.R_alloc | apply Kd.R_drewN | apply Kd.R_drew)); exact Kd.R_mono HO486.out (fun _ hk => ⟨hk.1.1.2, ⟨hk.1.2, hk.2⟩⟩)⟩, ⟨by (with_reducible repeat (first | apply Kd.R_alloc | apply Kd.R_drewN | apply Kd.R_drew)); exact Kd.R_mono HO492.out (fun _ hk => ⟨hk.1.1.2, ⟨hk.1.2, hk.2⟩⟩)⟩, ⟨by refine sB_ ?_; exact BK455.out⟩, ⟨by refine sB_ ?_; exact BK456.out⟩, ⟨by refine sB_ ?_; exact BK475.out⟩, ⟨by refine sB_ ?_; exact BK481.out⟩, ⟨by refine sB_ ?_; exact BK487.out⟩, ⟨by refine sB_ ?_; exact BK494.out⟩, ⟨by repeat (first | (with_reducible first | exact HB.out | apply below_alloc | apply pw_below_drewN | apply below_drew1 | refine below_set ?_ GE455.out | refine below_set ?_ GE456.out | refine below_set ?_ GE475.out | refine below_set ?_ GE481.out | refine below_set ?_ GE487.out | refine below_set ?_ GE494.out) | exact HB.out)⟩⟩
 case rest =>
  clear HC25
  try clear c1
  try clear c2
  try clear p2
  try clear c4
  try clear c5
  try clear c6
  try clear c7
  try clear c8
  try clear c9
  try clear c19
  try clear c20
  try clear c21
  try clear c22
  try clear c45
  try clear c49
  try clear c50
  try clear c51
  try clear c54
  try clear c58
  try clear c59
  try clear c60
  try clear c61
  try clear c67
  try clear c68
  try clear c69
  try clear c70
  try clear c71
  try clear c75
  try clear c76
  try clear c77
  try clear c78
  try clear c79
  try clear c80
  try clear c82
  try clear c83
  try clear c84
  try clear c85
  try clear c88
  try clear c89
  try clear c90
  try clear c91
  try clear c92
  try clear c94
  try clear c95
  try clear c96
  try clear c97
  try clear hcz46_0
  try clear hcz46_1
  try clear hcz46_2
  try clear hcz52_0
  try clear hcz52_1
  try clear hcz52_2
  try clear hcz55_0
  try clear hcz55_1
  try clear hcz55_2
  try clear hcz62_0
  try clear hcz62_1
  try clear hcz62_2
  try clear hcz64_0
  try clear hcz64_1
  try clear hcz64_2
  try clear hcz72_0
  try clear hcz72_1
  try clear hcz72_2
  try clear hcz81_0
  try clear hcz81_1
  try clear hcz81_2
  try clear hcz86_0
  try clear hcz86_1
  try clear hcz86_2
  try clear hcz93_0
  try clear hcz93_1
  try clear hcz93_2
  try clear hcz98_0
  try clear hcz98_1
  try clear hcz98_2
  try clear hfz46_0
  try clear hfz46_1
  try clear hfz46_2
  try clear hfz52_0
  try clear hfz52_1
  try clear hfz52_2
  try clear hfz55_0
  try clear hfz55_1
  try clear hfz55_2
  try clear hfz62_0
  try clear hfz62_1
  try clear hfz62_2
  try clear hfz64_0
  try clear hfz64_1
  try clear hfz64_2
  try clear hfz72_0
  try clear hfz72_1
  try clear hfz72_2
  try clear hfz81_0
  try clear hfz81_1
  try clear hfz81_2
  try clear hfz86_0
  try clear hfz86_1
  try clear hfz86_2
  try clear hfz93_0
  try clear hfz93_1
  try clear hfz93_2
  try clear hfz98_0
  try clear hfz98_1
  try clear hfz98_2
  obtain ⟨kq, x53_24, rfl, HA, HJ24, HO_476002, HO_482002, HO_488002, HO_495002, BK455, BK456, BK475, BK481, BK487, BK494, HB⟩ := hcut
  cases kq with
  | zero => exact absurd HA.out (by simp [laws_FnExactAddPictures.j0])
  | succ kj24 =>
   have H := HA.out; clear HA
   simp only [laws_FnExactAddPictures.j0] at H
   by_cases c100 : x53_24 = true
   ·subst c100
    have H1 : (some false) = some r := by rw [if_pos rfl] at H; exact H
    clear H; have H := H1; clear H1
    exact absurd ((Option.some.inj H).trans hT.out) (by decide)
   replace c100 := Bool.eq_false_iff.mpr c100
   subst c100
   have H1 : ((laws_toPicture.f kj24 a0_0 a0_1 l0_2).bind fun bt496 => ((laws_eqPicture.f kj24 t476 t477 t478 bt496.1 bt496.2.1 bt496.2.2).bind fun t501 => (if t501 = true then ((laws_toPicture.f kj24 a1_0 a1_1 l1_2).bind fun bt502 => ((laws_eqPicture.f kj24 t482 t483 t484 bt502.1 bt502.2.1 bt502.2.2).bind fun t507 => (if t507 = true then ((laws_markPicture.f kj24 t476 t477 t478 1).bind fun bt508 => ((laws_markPicture.f kj24 t482 t483 t484 bt508.1).bind fun bt510 => (if bt510.1 < 0 then (laws_FnExactAddPictures.j1 kj24 t474 true a0_0 a0_1 l0_2 a1_0 a1_1 l1_2 t469 t470 t471 t488 t489 t490) else ((laws_eqPicture.f kj24 t488 t489 t490 t469 t470 t471).bind fun t512 => (if t512 = true then (laws_FnExactAddPictures.j1 kj24 t474 (t493 != t474) a0_0 a0_1 l0_2 a1_0 a1_1 l1_2 t469 t470 t471 t488 t489 t490) else (laws_FnExactAddPictures.j1 kj24 t474 true a0_0 a0_1 l0_2 a1_0 a1_1 l1_2 t469 t470 t471 t488 t489 t490)))))) else (some false)))) else (some false)))) = some r := by rw [if_neg (show ¬ (false = true) by decide)] at H; exact H
   clear H; have H := H1; clear H1
   replace H := Option.bind_eq_some_iff.mp H
   obtain ⟨⟨t496, t497, t498⟩, A1010, H⟩ := H
   replace H : ((laws_eqPicture.f kj24 t476 t477 t478 t496 t497 t498).bind fun t501 => (if t501 = true then ((laws_toPicture.f kj24 a1_0 a1_1 l1_2).bind fun bt502 => ((laws_eqPicture.f kj24 t482 t483 t484 bt502.1 bt502.2.1 bt502.2.2).bind fun t507 => (if t507 = true then ((laws_markPicture.f kj24 t476 t477 t478 1).bind fun bt508 => ((laws_markPicture.f kj24 t482 t483 t484 bt508.1).bind fun bt510 => (if bt510.1 < 0 then (laws_FnExactAddPictures.j1 kj24 t474 true a0_0 a0_1 l0_2 a1_0 a1_1 l1_2 t469 t470 t471 t488 t489 t490) else ((laws_eqPicture.f kj24 t488 t489 t490 t469 t470 t471).bind fun t512 => (if t512 = true then (laws_FnExactAddPictures.j1 kj24 t474 (t493 != t474) a0_0 a0_1 l0_2 a1_0 a1_1 l1_2 t469 t470 t471 t488 t489 t490) else (laws_FnExactAddPictures.j1 kj24 t474 true a0_0 a0_1 l0_2 a1_0 a1_1 l1_2 t469 t470 t471 t488 t489 t490)))))) else (some false)))) else (some false))) = some r := H
   have A101 := Aside0.mk A1010
   clear A1010
   replace H := Option.bind_eq_some_iff.mp H
   obtain ⟨t501, A1020, H⟩ := H
   replace H : (if t501 = true then ((laws_toPicture.f kj24 a1_0 a1_1 l1_2).bind fun bt502 => ((laws_eqPicture.f kj24 t482 t483 t484 bt502.1 bt502.2.1 bt502.2.2).bind fun t507 => (if t507 = true then ((laws_markPicture.f kj24 t476 t477 t478 1).bind fun bt508 => ((laws_markPicture.f kj24 t482 t483 t484 bt508.1).bind fun bt510 => (if bt510.1 < 0 then (laws_FnExactAddPictures.j1 kj24 t474 true a0_0 a0_1 l0_2 a1_0 a1_1 l1_2 t469 t470 t471 t488 t489 t490) else ((laws_eqPicture.f kj24 t488 t489 t490 t469 t470 t471).bind fun t512 => (if t512 = true then (laws_FnExactAddPictures.j1 kj24 t474 (t493 != t474) a0_0 a0_1 l0_2 a1_0 a1_1 l1_2 t469 t470 t471 t488 t489 t490) else (laws_FnExactAddPictures.j1 kj24 t474 true a0_0 a0_1 l0_2 a1_0 a1_1 l1_2 t469 t470 t471 t488 t489 t490)))))) else (some false)))) else (some false)) = some r := H
   have A102 := Aside0.mk A1020
   clear A1020
   by_cases c103 : t501 = true
   ·subst c103
    have H1 : ((laws_toPicture.f kj24 a1_0 a1_1 l1_2).bind fun bt502 => ((laws_eqPicture.f kj24 t482 t483 t484 bt502.1 bt502.2.1 bt502.2.2).bind fun t507 => (if t507 = true then ((laws_markPicture.f kj24 t476 t477 t478 1).bind fun bt508 => ((laws_markPicture.f kj24 t482 t483 t484 bt508.1).bind fun bt510 => (if bt510.1 < 0 then (laws_FnExactAddPictures.j1 kj24 t474 true a0_0 a0_1 l0_2 a1_0 a1_1 l1_2 t469 t470 t471 t488 t489 t490) else ((laws_eqPicture.f kj24 t488 t489 t490 t469 t470 t471).bind fun t512 => (if t512 = true then (laws_FnExactAddPictures.j1 kj24 t474 (t493 != t474) a0_0 a0_1 l0_2 a1_0 a1_1 l1_2 t469 t470 t471 t488 t489 t490) else (laws_FnExactAddPictures.j1 kj24 t474 true a0_0 a0_1 l0_2 a1_0 a1_1 l1_2 t469 t470 t471 t488 t489 t490)))))) else (some false)))) = some r := by rw [if_pos rfl] at H; exact H
    clear H; have H := H1; clear H1
    replace H := Option.bind_eq_some_iff.mp H
    obtain ⟨⟨t502, t503, t504⟩, A1040, H⟩ := H
    replace H : ((laws_eqPicture.f kj24 t482 t483 t484 t502 t503 t504).bind fun t507 => (if t507 = true then ((laws_markPicture.f kj24 t476 t477 t478 1).bind fun bt508 => ((laws_markPicture.f kj24 t482 t483 t484 bt508.1).bind fun bt510 => (if bt510.1 < 0 then (laws_FnExactAddPictures.j1 kj24 t474 true a0_0 a0_1 l0_2 a1_0 a1_1 l1_2 t469 t470 t471 t488 t489 t490) else ((laws_eqPicture.f kj24 t488 t489 t490 t469 t470 t471).bind fun t512 => (if t512 = true then (laws_FnExactAddPictures.j1 kj24 t474 (t493 != t474) a0_0 a0_1 l0_2 a1_0 a1_1 l1_2 t469 t470 t471 t488 t489 t490) else (laws_FnExactAddPictures.j1 kj24 t474 true a0_0 a0_1 l0_2 a1_0 a1_1 l1_2 t469 t470 t471 t488 t489 t490)))))) else (some false))) = some r := H
    have A104 := Aside0.mk A1040
    clear A1040
    replace H := Option.bind_eq_some_iff.mp H
    obtain ⟨t507, A1050, H⟩ := H
    replace H : (if t507 = true then ((laws_markPicture.f kj24 t476 t477 t478 1).bind fun bt508 => ((laws_markPicture.f kj24 t482 t483 t484 bt508.1).bind fun bt510 => (if bt510.1 < 0 then (laws_FnExactAddPictures.j1 kj24 t474 true a0_0 a0_1 l0_2 a1_0 a1_1 l1_2 t469 t470 t471 t488 t489 t490) else ((laws_eqPicture.f kj24 t488 t489 t490 t469 t470 t471).bind fun t512 => (if t512 = true then (laws_FnExactAddPictures.j1 kj24 t474 (t493 != t474) a0_0 a0_1 l0_2 a1_0 a1_1 l1_2 t469 t470 t471 t488 t489 t490) else (laws_FnExactAddPictures.j1 kj24 t474 true a0_0 a0_1 l0_2 a1_0 a1_1 l1_2 t469 t470 t471 t488 t489 t490)))))) else (some false)) = some r := H
    have A105 := Aside0.mk A1050
    clear A1050
    by_cases c106 : t507 = true
    ·subst c106
     have H1 : ((laws_markPicture.f kj24 t476 t477 t478 1).bind fun bt508 => ((laws_markPicture.f kj24 t482 t483 t484 bt508.1).bind fun bt510 => (if bt510.1 < 0 then (laws_FnExactAddPictures.j1 kj24 t474 true a0_0 a0_1 l0_2 a1_0 a1_1 l1_2 t469 t470 t471 t488 t489 t490) else ((laws_eqPicture.f kj24 t488 t489 t490 t469 t470 t471).bind fun t512 => (if t512 = true then (laws_FnExactAddPictures.j1 kj24 t474 (t493 != t474) a0_0 a0_1 l0_2 a1_0 a1_1 l1_2 t469 t470 t471 t488 t489 t490) else (laws_FnExactAddPictures.j1 kj24 t474 true a0_0 a0_1 l0_2 a1_0 a1_1 l1_2 t469 t470 t471 t488 t489 t490)))))) = some r := by rw [if_pos rfl] at H; exact H
     clear H; have H := H1; clear H1
     replace H := Option.bind_eq_some_iff.mp H
     obtain ⟨⟨t508, t509⟩, A1070, H⟩ := H
     replace H : ((laws_markPicture.f kj24 t482 t483 t484 t508).bind fun bt510 => (if bt510.1 < 0 then (laws_FnExactAddPictures.j1 kj24 t474 true a0_0 a0_1 l0_2 a1_0 a1_1 l1_2 t469 t470 t471 t488 t489 t490) else ((laws_eqPicture.f kj24 t488 t489 t490 t469 t470 t471).bind fun t512 => (if t512 = true then (laws_FnExactAddPictures.j1 kj24 t474 (t493 != t474) a0_0 a0_1 l0_2 a1_0 a1_1 l1_2 t469 t470 t471 t488 t489 t490) else (laws_FnExactAddPictures.j1 kj24 t474 true a0_0 a0_1 l0_2 a1_0 a1_1 l1_2 t469 t470 t471 t488 t489 t490))))) = some r := H
     have A107 := Aside0.mk A1070
     clear A1070
     replace H := Option.bind_eq_some_iff.mp H
     obtain ⟨⟨t510, t511⟩, A1080, H⟩ := H
     replace H : (if t510 < 0 then (laws_FnExactAddPictures.j1 kj24 t474 true a0_0 a0_1 l0_2 a1_0 a1_1 l1_2 t469 t470 t471 t488 t489 t490) else ((laws_eqPicture.f kj24 t488 t489 t490 t469 t470 t471).bind fun t512 => (if t512 = true then (laws_FnExactAddPictures.j1 kj24 t474 (t493 != t474) a0_0 a0_1 l0_2 a1_0 a1_1 l1_2 t469 t470 t471 t488 t489 t490) else (laws_FnExactAddPictures.j1 kj24 t474 true a0_0 a0_1 l0_2 a1_0 a1_1 l1_2 t469 t470 t471 t488 t489 t490)))) = some r := H
     have A108 := Aside0.mk A1080
     clear A1080
     have HC109 := Aside0.mk H
     clear H
     try go_wp2
     have n0_ := Aside0.mk (Kd.R_drew HO_476002.out)
     have n1_ := Aside0.mk (Kd.R_drew HO_482002.out)
     have n2_ := Aside0.mk (Kd.R_drew HO_488002.out)
     have n3_ := Aside0.mk (Kd.R_drew HO_495002.out)
     have n4_ := Aside0.mk (blk_drew BK455.out)
     have n5_ := Aside0.mk (blk_drew BK456.out)
     have n6_ := Aside0.mk (blk_drew BK475.out)
     have n7_ := Aside0.mk (blk_drew BK481.out)
     have n8_ := Aside0.mk (blk_drew BK487.out)
     have n9_ := Aside0.mk (blk_drew BK494.out)
     have n10_ := Aside0.mk (below_drew1 HB.out)
     clear HO_476002 HO_482002 HO_488002 HO_495002 BK455 BK456 BK475 BK481 BK487 BK494 HB; have HO_476002 := n0_; have HO_482002 := n1_; have HO_488002 := n2_; have HO_495002 := n3_; have BK455 := n4_; have BK456 := n5_; have BK475 := n6_; have BK481 := n7_; have BK487 := n8_; have BK494 := n9_; have HB := n10_; clear n0_ n1_ n2_ n3_ n4_ n5_ n6_ n7_ n8_ n9_ n10_
     refine start_ (n := 5) (S := fun w' => w'.cell? ⟨gb481, 0, none⟩ = some (.int .i64 t476) ∧ w'.cell? ⟨gb481, 1, none⟩ = some (.int .i64 t477) ∧ w'.cell? ⟨gb481, 2, none⟩ = some (.slice Ao53 t478.length co53) ∧ w'.cell? ⟨gb455, 0, none⟩ = some (.int .i64 a0_0) ∧ w'.cell? ⟨gb455, 1, none⟩ = some (.int .i64 a0_1) ∧ w'.cell? ⟨gb455, 2, none⟩ = some (.slice A0_2 l0_2.length c0_2)) (ds := []) #[false, false, false, false, false] (by kernel_rfl) rfl rfl ⟨(blk_cell BK481.out 0).trans rfl, (blk_cell BK481.out 1).trans rfl, (blk_cell BK481.out 2).trans rfl, (blk_cell BK455.out 0).trans rfl, (blk_cell BK455.out 1).trans rfl, (blk_cell BK455.out 2).trans rfl⟩ (fun hHeld => ?_)
     generalize wc.drew = w110 at HO_476002 HO_482002 HO_488002 HO_495002 BK455 BK456 BK475 BK481 BK487 BK494 HB hHeld ⊢
     refine take_ (i := 0) (N := some 54) (v := ?_) (a' := ?_) #[true, false, false, false, false] rfl rfl (by kernel_rfl) (fun _ _ _ h => h) (Or.inl ⟨by rfl, ?_⟩) hHeld ?_ ?_
     rotate_left
     ·rintro w' ⟨s0, s1, s2, s3, s4, s5⟩
      go_simp
      with_reducible rfl
     rotate_left
     ·simp only [Act.put, List.setIfInBounds_toArray, List.set_cons_zero, List.set_cons_succ, i64_w, i32_w]
      rfl
     refine take_ (i := 1) (N := some 55) (v := ?_) (a' := ?_) #[true, true, false, false, false] rfl rfl (by kernel_rfl) (fun _ _ _ h => h) (Or.inl ⟨by rfl, ?_⟩) hHeld ?_ ?_
     rotate_left
     ·rintro w' ⟨s0, s1, s2, s3, s4, s5⟩
      go_simp
      with_reducible rfl
     rotate_left
     ·simp only [Act.put, List.setIfInBounds_toArray, List.set_cons_zero, List.set_cons_succ, i64_w, i32_w]
      rfl
     refine one_ (i := 2) (N := some 56) #[true, true, true, false, false] rfl rfl (by kernel_rfl) (by decide) (fun K hK => ?_)
     refine goes_ Try.func20 (by kernel_rfl) rfl #[.agg #[.int .i64 a0_0, .int .i64 a0_1, .slice A0_2 l0_2.length c0_2]] (by rfl) rfl rfl sL_ ?_
     with_reducible refine (laws_toPicture.calls kj24 a0_0 a0_1 _ _ l0_2 t496 t497 t498 _ ?side1 ?side2 A101.out).mono ?_
     (case side1 => repeat (first | exact (Kd.C_below HR0_2.out HB.out) | (with_reducible refine Kd.C_alloc ?_ _) | (with_reducible refine Kd.C_drewN ?_ _) | (with_reducible refine Kd.C_drew ?_)))
     (case side2 => exact HC0_2.out)
     rintro e w111 ⟨v499, rfl, ho0, hb⟩
     refine ⟨_, rfl, ?_⟩
     have n0_ := Aside0.mk (Kd.R_elder' (sR_ HO_476002.out) (Kd.R_base ho0) hb)
     have n1_ := Aside0.mk (Kd.R_elder' (sR_ HO_482002.out) (Kd.R_base ho0) hb)
     have n2_ := Aside0.mk (Kd.R_elder' (sR_ HO_488002.out) (Kd.R_base ho0) hb)
     have n3_ := Aside0.mk (Kd.R_elder' (sR_ HO_495002.out) (Kd.R_base ho0) hb)
     have n4_ := Aside0.mk (Kd.R_lower (Kd.R_new' (Kd.R_new' (Kd.R_new' (Kd.R_new' ho0 (Kd.R_lt (sR_ HO_476002.out))) (Kd.R_lt (sR_ HO_482002.out))) (Kd.R_lt (sR_ HO_488002.out))) (Kd.R_lt (sR_ HO_495002.out))) (below_size (sW_ HB.out)))
     have n5_ := Aside0.mk (blk_below (sB_ BK455.out) hb)
     have n6_ := Aside0.mk (blk_below (sB_ BK456.out) hb)
     have n7_ := Aside0.mk (blk_below (sB_ BK475.out) hb)
     have n8_ := Aside0.mk (blk_below (sB_ BK481.out) hb)
     have n9_ := Aside0.mk (blk_below (sB_ BK487.out) hb)
     have n10_ := Aside0.mk (blk_below (sB_ BK494.out) hb)
     have n11_ := Aside0.mk (below_step (sW_ HB.out) hb)
     clear HO_476002 HO_482002 HO_488002 HO_495002 BK455 BK456 BK475 BK481 BK487 BK494 HB; have HO_476002 := n0_; have HO_482002 := n1_; have HO_488002 := n2_; have HO_495002 := n3_; have HO500 := n4_; have BK455 := n5_; have BK456 := n6_; have BK475 := n7_; have BK481 := n8_; have BK487 := n9_; have BK494 := n10_; have HB := n11_; clear n0_ n1_ n2_ n3_ n4_ n5_ n6_ n7_ n8_ n9_ n10_ n11_
     (try clear hb)
     (try clear hb2)
     (try clear hk)
     (try clear hi)
     (try clear ho0)
     obtain ⟨Ao112, co112, eo112⟩ := Kd.R_slice HO500.out
     (first | subst eo112 | (injection eo112 with f1_ f2_ f3_; have f4_ := f1_.symm; have f5_ := f3_.symm; clear f1_ f2_ f3_; subst f4_; subst f5_))
     refine hK.out _ _ ⟨(blk_cell BK481.out 0).trans rfl, (blk_cell BK481.out 1).trans rfl, (blk_cell BK481.out 2).trans rfl, (blk_cell BK455.out 0).trans rfl, (blk_cell BK455.out 1).trans rfl, (blk_cell BK455.out 2).trans rfl⟩ (fun hHeld => ?_)
     clear hK K
     refine norm_ (a' := ?_) ?_ ?_
     rotate_left
     ·show Act.put _ (some 56) _ = _
      simp only [Act.put, List.setIfInBounds_toArray, List.set_cons_zero, List.set_cons_succ, i64_w, i32_w]
      rfl
     refine one_ (i := 3) (N := some 57) #[true, true, true, true, false] rfl rfl (by kernel_rfl) (by decide) (fun K hK => ?_)
     refine goes_ Try.func22 (by kernel_rfl) rfl #[.agg #[.int .i64 t476, .int .i64 t477, .slice Ao53 t478.length co53], .agg #[.int .i64 t496, .int .i64 t497, .slice Ao112 t498.length co112]] (by rfl) rfl rfl sL_ ?_
     with_reducible refine (laws_eqPicture.calls kj24 t476 t477 _ _ t478 t496 t497 _ _ t498 true _ ?side1 ?side2 ?side3 ?side4 A102.out).mono ?_
     (case side1 => repeat (first | exact (Kd.R_reads' HO_482002.out).2.2 | (with_reducible refine Kd.C_alloc ?_ _) | (with_reducible refine Kd.C_drewN ?_ _) | (with_reducible refine Kd.C_drew ?_)))
     (case side2 => exact (Kd.R_reads' HO_482002.out).2.1)
     (case side3 => repeat (first | exact (Kd.R_reads' HO500.out).2.2 | (with_reducible refine Kd.C_alloc ?_ _) | (with_reducible refine Kd.C_drewN ?_ _) | (with_reducible refine Kd.C_drew ?_)))
     (case side4 => exact (Kd.R_reads' HO500.out).2.1)
     rintro e w113 ⟨rfl, hb⟩
     refine ⟨_, rfl, ?_⟩
     have n0_ := Aside0.mk (Kd.R_below (sR_ HO_476002.out) hb)
     have n1_ := Aside0.mk (Kd.R_below (sR_ HO_482002.out) hb)
     have n2_ := Aside0.mk (Kd.R_below (sR_ HO_488002.out) hb)
     have n3_ := Aside0.mk (Kd.R_below (sR_ HO_495002.out) hb)
     have n4_ := Aside0.mk (Kd.R_below (sR_ HO500.out) hb)
     have n5_ := Aside0.mk (blk_below (sB_ BK455.out) hb)
     have n6_ := Aside0.mk (blk_below (sB_ BK456.out) hb)
     have n7_ := Aside0.mk (blk_below (sB_ BK475.out) hb)
     have n8_ := Aside0.mk (blk_below (sB_ BK481.out) hb)
     have n9_ := Aside0.mk (blk_below (sB_ BK487.out) hb)
     have n10_ := Aside0.mk (blk_below (sB_ BK494.out) hb)
     have n11_ := Aside0.mk (below_step (sW_ HB.out) hb)
     clear HO_476002 HO_482002 HO_488002 HO_495002 HO500 BK455 BK456 BK475 BK481 BK487 BK494 HB; have HO_476002 := n0_; have HO_482002 := n1_; have HO_488002 := n2_; have HO_495002 := n3_; have HO500 := n4_; have BK455 := n5_; have BK456 := n6_; have BK475 := n7_; have BK481 := n8_; have BK487 := n9_; have BK494 := n10_; have HB := n11_; clear n0_ n1_ n2_ n3_ n4_ n5_ n6_ n7_ n8_ n9_ n10_ n11_
     (try clear hb)
     (try clear hb2)
     (try clear hk)
     (try clear hi)
     refine hK.out _ _ ⟨(blk_cell BK481.out 0).trans rfl, (blk_cell BK481.out 1).trans rfl, (blk_cell BK481.out 2).trans rfl, (blk_cell BK455.out 0).trans rfl, (blk_cell BK455.out 1).trans rfl, (blk_cell BK455.out 2).trans rfl⟩ (fun hHeld => ?_)
     clear hK K
     refine norm_ (a' := ?_) ?_ ?_
     rotate_left
     ·show Act.put _ (some 57) _ = _
      simp only [Act.put, List.setIfInBounds_toArray, List.set_cons_zero, List.set_cons_succ, i64_w, i32_w]
      rfl
     refine pure_ (i := 4) (N := some 58) (v := ?_) (a' := ?_) #[true, true, true, true, true] rfl rfl (by kernel_rfl) (fun _ _ _ h => h) (Or.inl ⟨by rfl, ?_⟩) ?_ ?_
     rotate_left
     ·intro w'
      go_simp
      with_reducible rfl
     rotate_left
     ·simp only [Act.put, List.setIfInBounds_toArray, List.set_cons_zero, List.set_cons_succ, i64_w, i32_w]
      rfl
     refine done_ (by kernel_rfl) ?_
     try go_wp2
     have n0_ := Aside0.mk (Kd.R_drew HO_476002.out)
     have n1_ := Aside0.mk (Kd.R_drew HO_482002.out)
     have n2_ := Aside0.mk (Kd.R_drew HO_488002.out)
     have n3_ := Aside0.mk (Kd.R_drew HO_495002.out)
     have n4_ := Aside0.mk (Kd.R_drew HO500.out)
     have n5_ := Aside0.mk (blk_drew BK455.out)
     have n6_ := Aside0.mk (blk_drew BK456.out)
     have n7_ := Aside0.mk (blk_drew BK475.out)
     have n8_ := Aside0.mk (blk_drew BK481.out)
     have n9_ := Aside0.mk (blk_drew BK487.out)
     have n10_ := Aside0.mk (blk_drew BK494.out)
     have n11_ := Aside0.mk (below_drew1 HB.out)
     clear HO_476002 HO_482002 HO_488002 HO_495002 HO500 BK455 BK456 BK475 BK481 BK487 BK494 HB; have HO_476002 := n0_; have HO_482002 := n1_; have HO_488002 := n2_; have HO_495002 := n3_; have HO500 := n4_; have BK455 := n5_; have BK456 := n6_; have BK475 := n7_; have BK481 := n8_; have BK487 := n9_; have BK494 := n10_; have HB := n11_; clear n0_ n1_ n2_ n3_ n4_ n5_ n6_ n7_ n8_ n9_ n10_ n11_
     refine start_ (n := 5) (S := fun w' => w'.cell? ⟨gb487, 0, none⟩ = some (.int .i64 t482) ∧ w'.cell? ⟨gb487, 1, none⟩ = some (.int .i64 t483) ∧ w'.cell? ⟨gb487, 2, none⟩ = some (.slice Ao63 t484.length co63) ∧ w'.cell? ⟨gb456, 0, none⟩ = some (.int .i64 a1_0) ∧ w'.cell? ⟨gb456, 1, none⟩ = some (.int .i64 a1_1) ∧ w'.cell? ⟨gb456, 2, none⟩ = some (.slice A1_2 l1_2.length c1_2)) (ds := []) #[false, false, false, false, false] (by kernel_rfl) rfl rfl ⟨(blk_cell BK487.out 0).trans rfl, (blk_cell BK487.out 1).trans rfl, (blk_cell BK487.out 2).trans rfl, (blk_cell BK456.out 0).trans rfl, (blk_cell BK456.out 1).trans rfl, (blk_cell BK456.out 2).trans rfl⟩ (fun hHeld => ?_)
     generalize w113.drew = w114 at HO_476002 HO_482002 HO_488002 HO_495002 HO500 BK455 BK456 BK475 BK481 BK487 BK494 HB hHeld ⊢
     refine take_ (i := 0) (N := some 59) (v := ?_) (a' := ?_) #[true, false, false, false, false] rfl rfl (by kernel_rfl) (fun _ _ _ h => h) (Or.inl ⟨by rfl, ?_⟩) hHeld ?_ ?_
     rotate_left
     ·rintro w' ⟨s0, s1, s2, s3, s4, s5⟩
      go_simp
      with_reducible rfl
     rotate_left
     ·simp only [Act.put, List.setIfInBounds_toArray, List.set_cons_zero, List.set_cons_succ, i64_w, i32_w]
      rfl
     refine take_ (i := 1) (N := some 60) (v := ?_) (a' := ?_) #[true, true, false, false, false] rfl rfl (by kernel_rfl) (fun _ _ _ h => h) (Or.inl ⟨by rfl, ?_⟩) hHeld ?_ ?_
     rotate_left
     ·rintro w' ⟨s0, s1, s2, s3, s4, s5⟩
      go_simp
      with_reducible rfl
     rotate_left
     ·simp only [Act.put, List.setIfInBounds_toArray, List.set_cons_zero, List.set_cons_succ, i64_w, i32_w]
      rfl
     refine one_ (i := 2) (N := some 61) #[true, true, true, false, false] rfl rfl (by kernel_rfl) (by decide) (fun K hK => ?_)
     refine goes_ Try.func20 (by kernel_rfl) rfl #[.agg #[.int .i64 a1_0, .int .i64 a1_1, .slice A1_2 l1_2.length c1_2]] (by rfl) rfl rfl sL_ ?_
     with_reducible refine (laws_toPicture.calls kj24 a1_0 a1_1 _ _ l1_2 t502 t503 t504 _ ?side1 ?side2 A104.out).mono ?_
     (case side1 => repeat (first | exact (Kd.C_below HR1_2.out HB.out) | (with_reducible refine Kd.C_alloc ?_ _) | (with_reducible refine Kd.C_drewN ?_ _) | (with_reducible refine Kd.C_drew ?_)))
     (case side2 => exact HC1_2.out)
     rintro e w115 ⟨v505, rfl, ho0, hb⟩
     refine ⟨_, rfl, ?_⟩
     have n0_ := Aside0.mk (Kd.R_elder' (sR_ HO_476002.out) (Kd.R_base ho0) hb)
     have n1_ := Aside0.mk (Kd.R_elder' (sR_ HO_482002.out) (Kd.R_base ho0) hb)
     have n2_ := Aside0.mk (Kd.R_elder' (sR_ HO_488002.out) (Kd.R_base ho0) hb)
     have n3_ := Aside0.mk (Kd.R_elder' (sR_ HO_495002.out) (Kd.R_base ho0) hb)
     have n4_ := Aside0.mk (Kd.R_elder' (sR_ HO500.out) (Kd.R_base ho0) hb)
     have n5_ := Aside0.mk (Kd.R_lower (Kd.R_new' (Kd.R_new' (Kd.R_new' (Kd.R_new' (Kd.R_new' ho0 (Kd.R_lt (sR_ HO_476002.out))) (Kd.R_lt (sR_ HO_482002.out))) (Kd.R_lt (sR_ HO_488002.out))) (Kd.R_lt (sR_ HO_495002.out))) (Kd.R_lt (sR_ HO500.out))) (below_size (sW_ HB.out)))
     have n6_ := Aside0.mk (blk_below (sB_ BK455.out) hb)
     have n7_ := Aside0.mk (blk_below (sB_ BK456.out) hb)
     have n8_ := Aside0.mk (blk_below (sB_ BK475.out) hb)
     have n9_ := Aside0.mk (blk_below (sB_ BK481.out) hb)
     have n10_ := Aside0.mk (blk_below (sB_ BK487.out) hb)
     have n11_ := Aside0.mk (blk_below (sB_ BK494.out) hb)
     have n12_ := Aside0.mk (below_step (sW_ HB.out) hb)
     clear HO_476002 HO_482002 HO_488002 HO_495002 HO500 BK455 BK456 BK475 BK481 BK487 BK494 HB; have HO_476002 := n0_; have HO_482002 := n1_; have HO_488002 := n2_; have HO_495002 := n3_; have HO500 := n4_; have HO506 := n5_; have BK455 := n6_; have BK456 := n7_; have BK475 := n8_; have BK481 := n9_; have BK487 := n10_; have BK494 := n11_; have HB := n12_; clear n0_ n1_ n2_ n3_ n4_ n5_ n6_ n7_ n8_ n9_ n10_ n11_ n12_
     (try clear hb)
     (try clear hb2)
     (try clear hk)
     (try clear hi)
     (try clear ho0)
     obtain ⟨Ao116, co116, eo116⟩ := Kd.R_slice HO506.out
     (first | subst eo116 | (injection eo116 with f1_ f2_ f3_; have f4_ := f1_.symm; have f5_ := f3_.symm; clear f1_ f2_ f3_; subst f4_; subst f5_))
     refine hK.out _ _ ⟨(blk_cell BK487.out 0).trans rfl, (blk_cell BK487.out 1).trans rfl, (blk_cell BK487.out 2).trans rfl, (blk_cell BK456.out 0).trans rfl, (blk_cell BK456.out 1).trans rfl, (blk_cell BK456.out 2).trans rfl⟩ (fun hHeld => ?_)
     clear hK K
     refine norm_ (a' := ?_) ?_ ?_
     rotate_left
     ·show Act.put _ (some 61) _ = _
      simp only [Act.put, List.setIfInBounds_toArray, List.set_cons_zero, List.set_cons_succ, i64_w, i32_w]
      rfl
     refine one_ (i := 3) (N := some 62) #[true, true, true, true, false] rfl rfl (by kernel_rfl) (by decide) (fun K hK => ?_)
     refine goes_ Try.func22 (by kernel_rfl) rfl #[.agg #[.int .i64 t482, .int .i64 t483, .slice Ao63 t484.length co63], .agg #[.int .i64 t502, .int .i64 t503, .slice Ao116 t504.length co116]] (by rfl) rfl rfl sL_ ?_
     with_reducible refine (laws_eqPicture.calls kj24 t482 t483 _ _ t484 t502 t503 _ _ t504 true _ ?side1 ?side2 ?side3 ?side4 A105.out).mono ?_
     (case side1 => repeat (first | exact (Kd.R_reads' HO_488002.out).2.2 | (with_reducible refine Kd.C_alloc ?_ _) | (with_reducible refine Kd.C_drewN ?_ _) | (with_reducible refine Kd.C_drew ?_)))
     (case side2 => exact (Kd.R_reads' HO_488002.out).2.1)
     (case side3 => repeat (first | exact (Kd.R_reads' HO506.out).2.2 | (with_reducible refine Kd.C_alloc ?_ _) | (with_reducible refine Kd.C_drewN ?_ _) | (with_reducible refine Kd.C_drew ?_)))
     (case side4 => exact (Kd.R_reads' HO506.out).2.1)
     rintro e w117 ⟨rfl, hb⟩
     refine ⟨_, rfl, ?_⟩
     have n0_ := Aside0.mk (Kd.R_below (sR_ HO_476002.out) hb)
     have n1_ := Aside0.mk (Kd.R_below (sR_ HO_482002.out) hb)
     have n2_ := Aside0.mk (Kd.R_below (sR_ HO_488002.out) hb)
     have n3_ := Aside0.mk (Kd.R_below (sR_ HO_495002.out) hb)
     have n4_ := Aside0.mk (Kd.R_below (sR_ HO500.out) hb)
     have n5_ := Aside0.mk (Kd.R_below (sR_ HO506.out) hb)
     have n6_ := Aside0.mk (blk_below (sB_ BK455.out) hb)
     have n7_ := Aside0.mk (blk_below (sB_ BK456.out) hb)
     have n8_ := Aside0.mk (blk_below (sB_ BK475.out) hb)
     have n9_ := Aside0.mk (blk_below (sB_ BK481.out) hb)
     have n10_ := Aside0.mk (blk_below (sB_ BK487.out) hb)
     have n11_ := Aside0.mk (blk_below (sB_ BK494.out) hb)
     have n12_ := Aside0.mk (below_step (sW_ HB.out) hb)
     clear HO_476002 HO_482002 HO_488002 HO_495002 HO500 HO506 BK455 BK456 BK475 BK481 BK487 BK494 HB; have HO_476002 := n0_; have HO_482002 := n1_; have HO_488002 := n2_; have HO_495002 := n3_; have HO500 := n4_; have HO506 := n5_; have BK455 := n6_; have BK456 := n7_; have BK475 := n8_; have BK481 := n9_; have BK487 := n10_; have BK494 := n11_; have HB := n12_; clear n0_ n1_ n2_ n3_ n4_ n5_ n6_ n7_ n8_ n9_ n10_ n11_ n12_
     (try clear hb)
     (try clear hb2)
     (try clear hk)
     (try clear hi)
     refine hK.out _ _ ⟨(blk_cell BK487.out 0).trans rfl, (blk_cell BK487.out 1).trans rfl, (blk_cell BK487.out 2).trans rfl, (blk_cell BK456.out 0).trans rfl, (blk_cell BK456.out 1).trans rfl, (blk_cell BK456.out 2).trans rfl⟩ (fun hHeld => ?_)
     clear hK K
     refine norm_ (a' := ?_) ?_ ?_
     rotate_left
     ·show Act.put _ (some 62) _ = _
      simp only [Act.put, List.setIfInBounds_toArray, List.set_cons_zero, List.set_cons_succ, i64_w, i32_w]
      rfl
     refine pure_ (i := 4) (N := some 63) (v := ?_) (a' := ?_) #[true, true, true, true, true] rfl rfl (by kernel_rfl) (fun _ _ _ h => h) (Or.inl ⟨by rfl, ?_⟩) ?_ ?_
     rotate_left
     ·intro w'
      go_simp
      with_reducible rfl
     rotate_left
     ·simp only [Act.put, List.setIfInBounds_toArray, List.set_cons_zero, List.set_cons_succ, i64_w, i32_w]
      rfl
     refine done_ (by kernel_rfl) ?_
     have hnb118 := NB481_455.out; have hnc118 := NB455_481.out; have hnb119 := NB481_456.out; have hnc119 := NB456_481.out; have hnb120 := NB481_475.out; have hnc120 := NB475_481.out; have hnb121 := NB481_487.out; have hnc121 := NB487_481.out; have hnb122 := NB481_494.out; have hnc122 := NB494_481.out
     obtain ⟨hcz123_0, hcz123_1, hcz123_2, hfz123_0, hfz123_1, hfz123_2⟩ := sZ_ BK481.out
     go_upto_region 21 with (first | ((with_reducible refine gate_callee (f := 23) rfl ?_); refine goesL_ (some 66) rfl rfl Try.func23 (by kernel_rfl) rfl #[.agg #[.int .i64 t476, .int .i64 t477, .slice Ao53 t478.length co53], .int .i64 1] rfl sL_ ?_; (with_reducible refine (laws_markPicture.calls kj24 t476 t477 (fun k_ => some k_ = (.slice Ao53 t478.length co53 : Value).ownBlock) (.slice Ao53 t478.length co53) t478 1 t508 t509 w _ ?side1 ?side2 A107.out).mono ?_); (case side1 => repeat (first | (with_reducible first | exact HB.out | apply below_alloc | apply pw_below_drewN | apply below_drew1 | refine below_set ?_ GE455.out | refine below_set ?_ GE456.out | refine below_set ?_ GE475.out | refine below_set ?_ GE481.out | refine below_set ?_ GE487.out | refine below_set ?_ GE494.out) | exact HB.out)); (case side2 => exact Kd.R_tight rfl HO_482002.out); rintro e w124 ⟨rfl, hy0, hb, hkp⟩; refine ⟨_, rfl, ?_⟩; have n0_ := Aside0.mk (Kd.R_mono (ok' := fun k_ => some k_ ≠ (.slice Ao53 t478.length co53 : Value).ownBlock ∧ some k_ ≠ (.slice Ao63 t484.length co63 : Value).ownBlock ∧ some k_ ≠ (.slice Ao73 t490.length co73 : Value).ownBlock ∧ some k_ ≠ (.slice Ao112 t498.length co112 : Value).ownBlock ∧ some k_ ≠ (.slice Ao116 t504.length co116 : Value).ownBlock) (Kd.R_keptB (HO_476002.out) hkp (fun k_ hk_ hs_ => (hk_.1.1.1) hs_)) (fun k_ hk_ => ⟨hk_.1.1.1.1, hk_.1.1.1.2.1, hk_.1.1.1.2.2, hk_.1.1.2, hk_.1.2⟩)); have n1_ := Aside0.mk (Kd.R_reok rfl hy0 (fun k_ e_ => HO_482002.out.1 k_ e_)); have n2_ := Aside0.mk (Kd.R_mono (ok' := fun k_ => some k_ ≠ (.slice Ao43 t471.length co43 : Value).ownBlock ∧ some k_ ≠ (.slice Ao53 t478.length co53 : Value).ownBlock ∧ some k_ ≠ (.slice Ao73 t490.length co73 : Value).ownBlock ∧ some k_ ≠ (.slice Ao112 t498.length co112 : Value).ownBlock ∧ some k_ ≠ (.slice Ao116 t504.length co116 : Value).ownBlock) (Kd.R_keptB (HO_488002.out) hkp (fun k_ hk_ hs_ => (hk_.1.1.2.1) hs_)) (fun k_ hk_ => ⟨hk_.1.1.1.1, hk_.1.1.1.2.1, hk_.1.1.1.2.2, hk_.1.1.2, hk_.1.2⟩)); have n3_ := Aside0.mk (Kd.R_mono (ok' := fun k_ => some k_ ≠ (.slice Ao43 t471.length co43 : Value).ownBlock ∧ some k_ ≠ (.slice Ao53 t478.length co53 : Value).ownBlock ∧ some k_ ≠ (.slice Ao63 t484.length co63 : Value).ownBlock ∧ some k_ ≠ (.slice Ao112 t498.length co112 : Value).ownBlock ∧ some k_ ≠ (.slice Ao116 t504.length co116 : Value).ownBlock) (Kd.R_keptB (HO_495002.out) hkp (fun k_ hk_ hs_ => (hk_.1.1.2.1) hs_)) (fun k_ hk_ => ⟨hk_.1.1.1.1, hk_.1.1.1.2.1, hk_.1.1.1.2.2, hk_.1.1.2, hk_.1.2⟩)); have n4_ := Aside0.mk (blk_kept (sB_ BK455.out) hkp (fun hs_ => (fun e_ => (Kd.R_ne HO_482002.out BK455.out (by decide)) e_) hs_)); have n5_ := Aside0.mk (blk_kept (sB_ BK456.out) hkp (fun hs_ => (fun e_ => (Kd.R_ne HO_482002.out BK456.out (by decide)) e_) hs_)); have n6_ := Aside0.mk (blk_kept (sB_ BK475.out) hkp (fun hs_ => (fun e_ => (Kd.R_ne HO_482002.out BK475.out (by decide)) e_) hs_)); have n7_ := Aside0.mk (blk_kept (sB_ BK481.out) hkp (fun hs_ => (fun e_ => (Kd.R_ne HO_482002.out BK481.out (by decide)) e_) hs_)); have n8_ := Aside0.mk (blk_kept (sB_ BK487.out) hkp (fun hs_ => (fun e_ => (Kd.R_ne HO_482002.out BK487.out (by decide)) e_) hs_)); have n9_ := Aside0.mk (blk_kept (sB_ BK494.out) hkp (fun hs_ => (fun e_ => (Kd.R_ne HO_482002.out BK494.out (by decide)) e_) hs_)); have n10_ := Aside0.mk (Kd.R_mono (ok' := fun k_ => some k_ ≠ (.slice Ao43 t471.length co43 : Value).ownBlock ∧ some k_ ≠ (.slice Ao53 t478.length co53 : Value).ownBlock ∧ some k_ ≠ (.slice Ao63 t484.length co63 : Value).ownBlock ∧ some k_ ≠ (.slice Ao73 t490.length co73 : Value).ownBlock ∧ some k_ ≠ (.slice Ao116 t504.length co116 : Value).ownBlock) (Kd.R_keptB (HO500.out) hkp (fun k_ hk_ hs_ => (hk_.1.1.1.2) hs_)) (fun k_ hk_ => ⟨hk_.1.1.1.1.1.2, hk_.1.1.1.1.2, hk_.1.1.1.2, hk_.1.1.2, hk_.1.2⟩)); have n11_ := Aside0.mk (Kd.R_mono (ok' := fun k_ => some k_ ≠ (.slice Ao43 t471.length co43 : Value).ownBlock ∧ some k_ ≠ (.slice Ao53 t478.length co53 : Value).ownBlock ∧ some k_ ≠ (.slice Ao63 t484.length co63 : Value).ownBlock ∧ some k_ ≠ (.slice Ao73 t490.length co73 : Value).ownBlock ∧ some k_ ≠ (.slice Ao112 t498.length co112 : Value).ownBlock) (Kd.R_keptB (HO506.out) hkp (fun k_ hk_ hs_ => (hk_.1.1.1.2) hs_)) (fun k_ hk_ => ⟨hk_.1.1.1.1.1.2, hk_.1.1.1.1.2, hk_.1.1.1.2, hk_.1.1.2, hk_.1.2⟩)); have n12_ := Aside0.mk (hb); clear HO_476002 HO_482002 HO_488002 HO_495002 BK455 BK456 BK475 BK481 BK487 BK494 HO500 HO506 HB; have HO_476002 := n0_; have HO_482002 := n1_; have HO_488002 := n2_; have HO_495002 := n3_; have BK455 := n4_; have BK456 := n5_; have BK475 := n6_; have BK481 := n7_; have BK487 := n8_; have BK494 := n9_; have HO500 := n10_; have HO506 := n11_; have HB := n12_; clear n0_ n1_ n2_ n3_ n4_ n5_ n6_ n7_ n8_ n9_ n10_ n11_ n12_; (try clear hb); (try clear hkp); (try clear hy0); have hnb125 := NB487_455.out; have hnc125 := NB455_487.out; have hnb126 := NB487_456.out; have hnc126 := NB456_487.out; have hnb127 := NB487_475.out; have hnc127 := NB475_487.out; have hnb128 := NB487_494.out; have hnc128 := NB494_487.out; obtain ⟨hcz129_0, hcz129_1, hcz129_2, hfz129_0, hfz129_1, hfz129_2⟩ := sZ_ BK487.out) | ((with_reducible refine gate_callee (f := 23) rfl ?_); refine goesL_ (some 69) rfl rfl Try.func23 (by kernel_rfl) rfl #[.agg #[.int .i64 t482, .int .i64 t483, .slice Ao63 t484.length co63], .int .i64 t508] rfl sL_ ?_; (with_reducible refine (laws_markPicture.calls kj24 t482 t483 (fun k_ => some k_ = (.slice Ao63 t484.length co63 : Value).ownBlock) (.slice Ao63 t484.length co63) t484 t508 t510 t511 w _ ?side1 ?side2 A108.out).mono ?_); (case side1 => repeat (first | (with_reducible first | exact HB.out | apply below_alloc | apply pw_below_drewN | apply below_drew1 | refine below_set ?_ GE455.out | refine below_set ?_ GE456.out | refine below_set ?_ GE475.out | refine below_set ?_ GE481.out | refine below_set ?_ GE487.out | refine below_set ?_ GE494.out) | exact HB.out)); (case side2 => exact Kd.R_tight rfl HO_488002.out); rintro e w130 ⟨rfl, hy0, hb, hkp⟩; refine ⟨_, rfl, ?_⟩; have n0_ := Aside0.mk (Kd.R_mono (ok' := fun k_ => some k_ ≠ (.slice Ao53 t478.length co53 : Value).ownBlock ∧ some k_ ≠ (.slice Ao63 t484.length co63 : Value).ownBlock ∧ some k_ ≠ (.slice Ao73 t490.length co73 : Value).ownBlock ∧ some k_ ≠ (.slice Ao112 t498.length co112 : Value).ownBlock ∧ some k_ ≠ (.slice Ao116 t504.length co116 : Value).ownBlock) (Kd.R_keptB (HO_476002.out) hkp (fun k_ hk_ hs_ => (hk_.2.1) hs_)) (fun k_ hk_ => ⟨hk_.1.1, hk_.1.2.1, hk_.1.2.2.1, hk_.1.2.2.2.1, hk_.1.2.2.2.2⟩)); have n1_ := Aside0.mk (Kd.R_mono (ok' := fun k_ => some k_ ≠ (.slice Ao43 t471.length co43 : Value).ownBlock ∧ some k_ ≠ (.slice Ao63 t484.length co63 : Value).ownBlock ∧ some k_ ≠ (.slice Ao73 t490.length co73 : Value).ownBlock ∧ some k_ ≠ (.slice Ao112 t498.length co112 : Value).ownBlock ∧ some k_ ≠ (.slice Ao116 t504.length co116 : Value).ownBlock) (Kd.R_keptB (HO_482002.out) hkp (fun k_ hk_ hs_ => (hk_.1.1.2.1) hs_)) (fun k_ hk_ => ⟨hk_.1.1.1.1, hk_.1.1.1.2.1, hk_.1.1.1.2.2, hk_.1.1.2, hk_.1.2⟩)); have n2_ := Aside0.mk (Kd.R_reok rfl hy0 (fun k_ e_ => HO_488002.out.1 k_ e_)); have n3_ := Aside0.mk (Kd.R_mono (ok' := fun k_ => some k_ ≠ (.slice Ao43 t471.length co43 : Value).ownBlock ∧ some k_ ≠ (.slice Ao53 t478.length co53 : Value).ownBlock ∧ some k_ ≠ (.slice Ao63 t484.length co63 : Value).ownBlock ∧ some k_ ≠ (.slice Ao112 t498.length co112 : Value).ownBlock ∧ some k_ ≠ (.slice Ao116 t504.length co116 : Value).ownBlock) (Kd.R_keptB (HO_495002.out) hkp (fun k_ hk_ hs_ => (hk_.2.2.1) hs_)) (fun k_ hk_ => ⟨hk_.1.1, hk_.1.2.1, hk_.1.2.2.1, hk_.1.2.2.2.1, hk_.1.2.2.2.2⟩)); have n4_ := Aside0.mk (blk_kept (sB_ BK455.out) hkp (fun hs_ => (fun e_ => (Kd.R_ne HO_488002.out BK455.out (by decide)) e_) hs_)); have n5_ := Aside0.mk (blk_kept (sB_ BK456.out) hkp (fun hs_ => (fun e_ => (Kd.R_ne HO_488002.out BK456.out (by decide)) e_) hs_)); have n6_ := Aside0.mk (blk_kept (sB_ BK475.out) hkp (fun hs_ => (fun e_ => (Kd.R_ne HO_488002.out BK475.out (by decide)) e_) hs_)); have n7_ := Aside0.mk (blk_kept (sB_ BK481.out) hkp (fun hs_ => (fun e_ => (Kd.R_ne HO_488002.out BK481.out (by decide)) e_) hs_)); have n8_ := Aside0.mk (blk_kept (sB_ BK487.out) hkp (fun hs_ => (fun e_ => (Kd.R_ne HO_488002.out BK487.out (by decide)) e_) hs_)); have n9_ := Aside0.mk (blk_kept (sB_ BK494.out) hkp (fun hs_ => (fun e_ => (Kd.R_ne HO_488002.out BK494.out (by decide)) e_) hs_)); have n10_ := Aside0.mk (Kd.R_mono (ok' := fun k_ => some k_ ≠ (.slice Ao43 t471.length co43 : Value).ownBlock ∧ some k_ ≠ (.slice Ao53 t478.length co53 : Value).ownBlock ∧ some k_ ≠ (.slice Ao63 t484.length co63 : Value).ownBlock ∧ some k_ ≠ (.slice Ao73 t490.length co73 : Value).ownBlock ∧ some k_ ≠ (.slice Ao116 t504.length co116 : Value).ownBlock) (Kd.R_keptB (HO500.out) hkp (fun k_ hk_ hs_ => (hk_.2.2.1) hs_)) (fun k_ hk_ => ⟨hk_.1.1, hk_.1.2.1, hk_.1.2.2.1, hk_.1.2.2.2.1, hk_.1.2.2.2.2⟩)); have n11_ := Aside0.mk (Kd.R_mono (ok' := fun k_ => some k_ ≠ (.slice Ao43 t471.length co43 : Value).ownBlock ∧ some k_ ≠ (.slice Ao53 t478.length co53 : Value).ownBlock ∧ some k_ ≠ (.slice Ao63 t484.length co63 : Value).ownBlock ∧ some k_ ≠ (.slice Ao73 t490.length co73 : Value).ownBlock ∧ some k_ ≠ (.slice Ao112 t498.length co112 : Value).ownBlock) (Kd.R_keptB (HO506.out) hkp (fun k_ hk_ hs_ => (hk_.2.2.1) hs_)) (fun k_ hk_ => ⟨hk_.1.1, hk_.1.2.1, hk_.1.2.2.1, hk_.1.2.2.2.1, hk_.1.2.2.2.2⟩)); have n12_ := Aside0.mk (hb); clear HO_476002 HO_482002 HO_488002 HO_495002 BK455 BK456 BK475 BK481 BK487 BK494 HO500 HO506 HB; have HO_476002 := n0_; have HO_482002 := n1_; have HO_488002 := n2_; have HO_495002 := n3_; have BK455 := n4_; have BK456 := n5_; have BK475 := n6_; have BK481 := n7_; have BK487 := n8_; have BK494 := n9_; have HO500 := n10_; have HO506 := n11_; have HB := n12_; clear n0_ n1_ n2_ n3_ n4_ n5_ n6_ n7_ n8_ n9_ n10_ n11_ n12_; (try clear hb); (try clear hkp); (try clear hy0)))
     (try simp only [Act.put, List.setIfInBounds_toArray, List.set_cons_zero, List.set_cons_succ])
     go_cut [82] (fun v82 wc => ∃ (kq : Nat) (x82_108 : Bool), v82 = .bool x82_108 ∧ Aside0 (laws_FnExactAddPictures.j1 kq t474 x82_108 a0_0 a0_1 l0_2 a1_0 a1_1 l1_2 t469 t470 t471 t488 t489 t490 = some r) ∧ Aside0 (kq ≤ kj24) ∧ Aside0 (Kd.R (Kd.int .i64) 3 wc w.heap.size (fun k_ => some k_ ≠ ((.slice Ao53 t478.length co53) : Value).ownBlock ∧ some k_ ≠ ((.slice Ao63 t484.length co63) : Value).ownBlock ∧ some k_ ≠ ((.slice Ao73 t490.length co73) : Value).ownBlock) (.slice Ao43 t471.length co43) t471) ∧ Aside0 (Kd.R (Kd.int .i64) 3 wc w.heap.size (fun k_ => some k_ ≠ ((.slice Ao43 t471.length co43) : Value).ownBlock ∧ some k_ ≠ ((.slice Ao63 t484.length co63) : Value).ownBlock ∧ some k_ ≠ ((.slice Ao73 t490.length co73) : Value).ownBlock) (.slice Ao53 t478.length co53) t509) ∧ Aside0 (Kd.R (Kd.int .i64) 3 wc w.heap.size (fun k_ => some k_ ≠ ((.slice Ao43 t471.length co43) : Value).ownBlock ∧ some k_ ≠ ((.slice Ao53 t478.length co53) : Value).ownBlock ∧ some k_ ≠ ((.slice Ao73 t490.length co73) : Value).ownBlock) (.slice Ao63 t484.length co63) t511) ∧ Aside0 (Kd.R (Kd.int .i64) 3 wc w.heap.size (fun k_ => some k_ ≠ ((.slice Ao43 t471.length co43) : Value).ownBlock ∧ some k_ ≠ ((.slice Ao53 t478.length co53) : Value).ownBlock ∧ some k_ ≠ ((.slice Ao63 t484.length co63) : Value).ownBlock) (.slice Ao73 t490.length co73) t490) ∧ Aside0 (wc.heap[gb455]? = some (.cells #[.int .i64 a0_0, .int .i64 a0_1, (.slice A0_2 l0_2.length c0_2)] 39 (0, 0))) ∧ Aside0 (wc.heap[gb456]? = some (.cells #[.int .i64 a1_0, .int .i64 a1_1, (.slice A1_2 l1_2.length c1_2)] 39 (0, 0))) ∧ Aside0 (wc.heap[gb475]? = some (.cells #[.int .i64 t469, .int .i64 t470, (.slice Ao43 t471.length co43)] 27 (0, 0))) ∧ Aside0 (wc.heap[gb481]? = some (.cells #[.int .i64 t476, .int .i64 t477, (.slice Ao53 t478.length co53)] 27 (0, 0))) ∧ Aside0 (wc.heap[gb487]? = some (.cells #[.int .i64 t482, .int .i64 t483, (.slice Ao63 t484.length co63)] 27 (0, 0))) ∧ Aside0 (wc.heap[gb494]? = some (.cells #[.int .i64 t488, .int .i64 t489, (.slice Ao73 t490.length co73)] 27 (0, 0))) ∧ Aside0 (Below w.heap.size w wc))
     case first =>
      have H := HC109.out; clear HC109
      by_cases c131 : t510 < 0
      ·rw [if_pos c131] at H
       have c131b0 : decide (t510 < 0) = true := decide_eq_true c131
       clear c131
       (first | rw [c131b0] | (simp only [i64_w, i32_w]; rw [c131b0]) | skip)
       have H' := Aside0.mk H
       clear H
       go_wp2
       go_meet
       case rel => exact ⟨_, (true), (by first | rfl | (simp; done) | (simp [*]; done)), H', ⟨by have := HJ24.out; first | omega | exact Nat.le_refl _⟩, ⟨by (with_reducible repeat (first | apply Kd.R_alloc | apply Kd.R_drewN | apply Kd.R_drew)); exact Kd.R_mono HO_476002.out (fun _ hk => ⟨hk.1, ⟨hk.2.1, hk.2.2.1⟩⟩)⟩, ⟨by (with_reducible repeat (first | apply Kd.R_alloc | apply Kd.R_drewN | apply Kd.R_drew)); exact Kd.R_mono HO_482002.out (fun _ hk => ⟨hk.1, ⟨hk.2.1, hk.2.2.1⟩⟩)⟩, ⟨by (with_reducible repeat (first | apply Kd.R_alloc | apply Kd.R_drewN | apply Kd.R_drew)); exact Kd.R_mono HO_488002.out (fun _ hk => ⟨hk.1, ⟨hk.2.1, hk.2.2.1⟩⟩)⟩, ⟨by (with_reducible repeat (first | apply Kd.R_alloc | apply Kd.R_drewN | apply Kd.R_drew)); exact Kd.R_mono HO_495002.out (fun _ hk => ⟨hk.1, ⟨hk.2.1, hk.2.2.1⟩⟩)⟩, ⟨by refine sB_ ?_; exact BK455.out⟩, ⟨by refine sB_ ?_; exact BK456.out⟩, ⟨by refine sB_ ?_; exact BK475.out⟩, ⟨by refine sB_ ?_; exact BK481.out⟩, ⟨by refine sB_ ?_; exact BK487.out⟩, ⟨by refine sB_ ?_; exact BK494.out⟩, ⟨by repeat (first | (with_reducible first | exact HB.out | apply below_alloc | apply pw_below_drewN | apply below_drew1 | refine below_set ?_ GE455.out | refine below_set ?_ GE456.out | refine below_set ?_ GE475.out | refine below_set ?_ GE481.out | refine below_set ?_ GE487.out | refine below_set ?_ GE494.out) | exact HB.out)⟩⟩
      rw [if_neg c131] at H
      have c131b0 : decide (t510 < 0) = false := decide_eq_false c131
      clear c131
      (first | rw [c131b0] | (simp only [i64_w, i32_w]; rw [c131b0]) | skip)
      replace H := Option.bind_eq_some_iff.mp H
      obtain ⟨t512, A1320, H⟩ := H
      replace H : (if t512 = true then (laws_FnExactAddPictures.j1 kj24 t474 (t493 != t474) a0_0 a0_1 l0_2 a1_0 a1_1 l1_2 t469 t470 t471 t488 t489 t490) else (laws_FnExactAddPictures.j1 kj24 t474 true a0_0 a0_1 l0_2 a1_0 a1_1 l1_2 t469 t470 t471 t488 t489 t490)) = some r := H
      have A132 := Aside0.mk A1320
      clear A1320
      by_cases c133 : t512 = true
      ·subst c133
       have H1 : (laws_FnExactAddPictures.j1 kj24 t474 (t493 != t474) a0_0 a0_1 l0_2 a1_0 a1_1 l1_2 t469 t470 t471 t488 t489 t490) = some r := by rw [if_pos rfl] at H; exact H
       clear H; have H := H1; clear H1
       have H' := Aside0.mk H
       clear H; have hnb134 := NB494_455.out; have hnc134 := NB455_494.out; have hnb135 := NB494_456.out; have hnc135 := NB456_494.out; have hnb136 := NB494_475.out; have hnc136 := NB475_494.out; have hnb137 := NB494_481.out; have hnc137 := NB481_494.out; have hnb138 := NB494_487.out; have hnc138 := NB487_494.out
       obtain ⟨hcz139_0, hcz139_1, hcz139_2, hfz139_0, hfz139_1, hfz139_2⟩ := sZ_ BK494.out
       have hnb140 := NB475_455.out; have hnc140 := NB455_475.out; have hnb141 := NB475_456.out; have hnc141 := NB456_475.out; have hnb142 := NB475_481.out; have hnc142 := NB481_475.out; have hnb143 := NB475_487.out; have hnc143 := NB487_475.out
       obtain ⟨hcz144_0, hcz144_1, hcz144_2, hfz144_0, hfz144_1, hfz144_2⟩ := sZ_ BK475.out
       go_wp2_with (first | (go_at_call 22; (with_reducible refine (laws_eqPicture.calls kj24 t488 t489 _ _ t490 t469 t470 _ _ t471 true _ ?side1 ?side2 ?side3 ?side4 A132.out).mono ?_); (case side1 => repeat (first | exact (Kd.R_reads' HO_495002.out).2.2 | (with_reducible refine Kd.C_alloc ?_ _) | (with_reducible refine Kd.C_drewN ?_ _) | (with_reducible refine Kd.C_drew ?_))); (case side2 => exact (Kd.R_reads' HO_495002.out).2.1); (case side3 => repeat (first | exact (Kd.R_reads' HO_476002.out).2.2 | (with_reducible refine Kd.C_alloc ?_ _) | (with_reducible refine Kd.C_drewN ?_ _) | (with_reducible refine Kd.C_drew ?_))); (case side4 => exact (Kd.R_reads' HO_476002.out).2.1); rintro e w145 ⟨rfl, hb⟩; have n0_ := Aside0.mk (Kd.R_below (sR_ HO_476002.out) hb); have n1_ := Aside0.mk (Kd.R_below (sR_ HO_482002.out) hb); have n2_ := Aside0.mk (Kd.R_below (sR_ HO_488002.out) hb); have n3_ := Aside0.mk (Kd.R_below (sR_ HO_495002.out) hb); have n4_ := Aside0.mk (Kd.R_below (sR_ HO500.out) hb); have n5_ := Aside0.mk (Kd.R_below (sR_ HO506.out) hb); have n6_ := Aside0.mk (blk_below (sB_ BK455.out) hb); have n7_ := Aside0.mk (blk_below (sB_ BK456.out) hb); have n8_ := Aside0.mk (blk_below (sB_ BK475.out) hb); have n9_ := Aside0.mk (blk_below (sB_ BK481.out) hb); have n10_ := Aside0.mk (blk_below (sB_ BK487.out) hb); have n11_ := Aside0.mk (blk_below (sB_ BK494.out) hb); have n12_ := Aside0.mk (below_step (sW_ HB.out) hb); clear HO_476002 HO_482002 HO_488002 HO_495002 HO500 HO506 BK455 BK456 BK475 BK481 BK487 BK494 HB; have HO_476002 := n0_; have HO_482002 := n1_; have HO_488002 := n2_; have HO_495002 := n3_; have HO500 := n4_; have HO506 := n5_; have BK455 := n6_; have BK456 := n7_; have BK475 := n8_; have BK481 := n9_; have BK487 := n10_; have BK494 := n11_; have HB := n12_; clear n0_ n1_ n2_ n3_ n4_ n5_ n6_ n7_ n8_ n9_ n10_ n11_ n12_; (try clear hb); (try clear hb2); (try clear hk); (try clear hi)))
       go_meet
       case rel => exact ⟨_, ((t493 != t474)), (by first | rfl | (simp; done) | (simp [*]; done)), H', ⟨by have := HJ24.out; first | omega | exact Nat.le_refl _⟩, ⟨by (with_reducible repeat (first | apply Kd.R_alloc | apply Kd.R_drewN | apply Kd.R_drew)); exact Kd.R_mono HO_476002.out (fun _ hk => ⟨hk.1, ⟨hk.2.1, hk.2.2.1⟩⟩)⟩, ⟨by (with_reducible repeat (first | apply Kd.R_alloc | apply Kd.R_drewN | apply Kd.R_drew)); exact Kd.R_mono HO_482002.out (fun _ hk => ⟨hk.1, ⟨hk.2.1, hk.2.2.1⟩⟩)⟩, ⟨by (with_reducible repeat (first | apply Kd.R_alloc | apply Kd.R_drewN | apply Kd.R_drew)); exact Kd.R_mono HO_488002.out (fun _ hk => ⟨hk.1, ⟨hk.2.1, hk.2.2.1⟩⟩)⟩, ⟨by (with_reducible repeat (first | apply Kd.R_alloc | apply Kd.R_drewN | apply Kd.R_drew)); exact Kd.R_mono HO_495002.out (fun _ hk => ⟨hk.1, ⟨hk.2.1, hk.2.2.1⟩⟩)⟩, ⟨by refine sB_ ?_; exact BK455.out⟩, ⟨by refine sB_ ?_; exact BK456.out⟩, ⟨by refine sB_ ?_; exact BK475.out⟩, ⟨by refine sB_ ?_; exact BK481.out⟩, ⟨by refine sB_ ?_; exact BK487.out⟩, ⟨by refine sB_ ?_; exact BK494.out⟩, ⟨by repeat (first | (with_reducible first | exact HB.out | apply below_alloc | apply pw_below_drewN | apply below_drew1 | refine below_set ?_ GE455.out | refine below_set ?_ GE456.out | refine below_set ?_ GE475.out | refine below_set ?_ GE481.out | refine below_set ?_ GE487.out | refine below_set ?_ GE494.out) | exact HB.out)⟩⟩
      replace c133 := Bool.eq_false_iff.mpr c133
      subst c133
      have H1 : (laws_FnExactAddPictures.j1 kj24 t474 true a0_0 a0_1 l0_2 a1_0 a1_1 l1_2 t469 t470 t471 t488 t489 t490) = some r := by rw [if_neg (show ¬ (false = true) by decide)] at H; exact H
      clear H; have H := H1; clear H1
      have H' := Aside0.mk H
      clear H; have hnb146 := NB494_455.out; have hnc146 := NB455_494.out; have hnb147 := NB494_456.out; have hnc147 := NB456_494.out; have hnb148 := NB494_475.out; have hnc148 := NB475_494.out; have hnb149 := NB494_481.out; have hnc149 := NB481_494.out; have hnb150 := NB494_487.out; have hnc150 := NB487_494.out
      obtain ⟨hcz151_0, hcz151_1, hcz151_2, hfz151_0, hfz151_1, hfz151_2⟩ := sZ_ BK494.out
      have hnb152 := NB475_455.out; have hnc152 := NB455_475.out; have hnb153 := NB475_456.out; have hnc153 := NB456_475.out; have hnb154 := NB475_481.out; have hnc154 := NB481_475.out; have hnb155 := NB475_487.out; have hnc155 := NB487_475.out
      obtain ⟨hcz156_0, hcz156_1, hcz156_2, hfz156_0, hfz156_1, hfz156_2⟩ := sZ_ BK475.out
      go_wp2_with (first | (go_at_call 22; (with_reducible refine (laws_eqPicture.calls kj24 t488 t489 _ _ t490 t469 t470 _ _ t471 false _ ?side1 ?side2 ?side3 ?side4 A132.out).mono ?_); (case side1 => repeat (first | exact (Kd.R_reads' HO_495002.out).2.2 | (with_reducible refine Kd.C_alloc ?_ _) | (with_reducible refine Kd.C_drewN ?_ _) | (with_reducible refine Kd.C_drew ?_))); (case side2 => exact (Kd.R_reads' HO_495002.out).2.1); (case side3 => repeat (first | exact (Kd.R_reads' HO_476002.out).2.2 | (with_reducible refine Kd.C_alloc ?_ _) | (with_reducible refine Kd.C_drewN ?_ _) | (with_reducible refine Kd.C_drew ?_))); (case side4 => exact (Kd.R_reads' HO_476002.out).2.1); rintro e w157 ⟨rfl, hb⟩; have n0_ := Aside0.mk (Kd.R_below (sR_ HO_476002.out) hb); have n1_ := Aside0.mk (Kd.R_below (sR_ HO_482002.out) hb); have n2_ := Aside0.mk (Kd.R_below (sR_ HO_488002.out) hb); have n3_ := Aside0.mk (Kd.R_below (sR_ HO_495002.out) hb); have n4_ := Aside0.mk (Kd.R_below (sR_ HO500.out) hb); have n5_ := Aside0.mk (Kd.R_below (sR_ HO506.out) hb); have n6_ := Aside0.mk (blk_below (sB_ BK455.out) hb); have n7_ := Aside0.mk (blk_below (sB_ BK456.out) hb); have n8_ := Aside0.mk (blk_below (sB_ BK475.out) hb); have n9_ := Aside0.mk (blk_below (sB_ BK481.out) hb); have n10_ := Aside0.mk (blk_below (sB_ BK487.out) hb); have n11_ := Aside0.mk (blk_below (sB_ BK494.out) hb); have n12_ := Aside0.mk (below_step (sW_ HB.out) hb); clear HO_476002 HO_482002 HO_488002 HO_495002 HO500 HO506 BK455 BK456 BK475 BK481 BK487 BK494 HB; have HO_476002 := n0_; have HO_482002 := n1_; have HO_488002 := n2_; have HO_495002 := n3_; have HO500 := n4_; have HO506 := n5_; have BK455 := n6_; have BK456 := n7_; have BK475 := n8_; have BK481 := n9_; have BK487 := n10_; have BK494 := n11_; have HB := n12_; clear n0_ n1_ n2_ n3_ n4_ n5_ n6_ n7_ n8_ n9_ n10_ n11_ n12_; (try clear hb); (try clear hb2); (try clear hk); (try clear hi)))
      go_meet
      case rel => exact ⟨_, (true), (by first | rfl | (simp; done) | (simp [*]; done)), H', ⟨by have := HJ24.out; first | omega | exact Nat.le_refl _⟩, ⟨by (with_reducible repeat (first | apply Kd.R_alloc | apply Kd.R_drewN | apply Kd.R_drew)); exact Kd.R_mono HO_476002.out (fun _ hk => ⟨hk.1, ⟨hk.2.1, hk.2.2.1⟩⟩)⟩, ⟨by (with_reducible repeat (first | apply Kd.R_alloc | apply Kd.R_drewN | apply Kd.R_drew)); exact Kd.R_mono HO_482002.out (fun _ hk => ⟨hk.1, ⟨hk.2.1, hk.2.2.1⟩⟩)⟩, ⟨by (with_reducible repeat (first | apply Kd.R_alloc | apply Kd.R_drewN | apply Kd.R_drew)); exact Kd.R_mono HO_488002.out (fun _ hk => ⟨hk.1, ⟨hk.2.1, hk.2.2.1⟩⟩)⟩, ⟨by (with_reducible repeat (first | apply Kd.R_alloc | apply Kd.R_drewN | apply Kd.R_drew)); exact Kd.R_mono HO_495002.out (fun _ hk => ⟨hk.1, ⟨hk.2.1, hk.2.2.1⟩⟩)⟩, ⟨by refine sB_ ?_; exact BK455.out⟩, ⟨by refine sB_ ?_; exact BK456.out⟩, ⟨by refine sB_ ?_; exact BK475.out⟩, ⟨by refine sB_ ?_; exact BK481.out⟩, ⟨by refine sB_ ?_; exact BK487.out⟩, ⟨by refine sB_ ?_; exact BK494.out⟩, ⟨by repeat (first | (with_reducible first | exact HB.out | apply below_alloc | apply pw_below_drewN | apply below_drew1 | refine below_set ?_ GE455.out | refine below_set ?_ GE456.out | refine below_set ?_ GE475.out | refine below_set ?_ GE481.out | refine below_set ?_ GE487.out | refine below_set ?_ GE494.out) | exact HB.out)⟩⟩
     case rest =>
      clear HC109
      try clear c1
      try clear c2
      try clear p2
      try clear c10
      try clear c11
      try clear c12
      try clear c13
      try clear c14
      try clear c15
      try clear c20
      try clear c22
      try clear c23
      try clear c100
      try clear c103
      try clear c106
      try clear c118
      try clear c119
      try clear c120
      try clear c121
      try clear c122
      try clear c125
      try clear c126
      try clear c127
      try clear c128
      try clear c131
      try clear c131b0
      try clear c133
      try clear c134
      try clear c135
      try clear c136
      try clear c137
      try clear c138
      try clear c140
      try clear c141
      try clear c142
      try clear c143
      try clear c146
      try clear c147
      try clear c148
      try clear c149
      try clear c150
      try clear c152
      try clear c153
      try clear c154
      try clear c155
      try clear hcz123_0
      try clear hcz123_1
      try clear hcz123_2
      try clear hcz129_0
      try clear hcz129_1
      try clear hcz129_2
      try clear hcz139_0
      try clear hcz139_1
      try clear hcz139_2
      try clear hcz144_0
      try clear hcz144_1
      try clear hcz144_2
      try clear hcz151_0
      try clear hcz151_1
      try clear hcz151_2
      try clear hcz156_0
      try clear hcz156_1
      try clear hcz156_2
      try clear hcz62_1
      try clear hcz62_2
      try clear hcz64_0
      try clear hcz64_1
      try clear hcz64_2
      try clear hcz72_0
      try clear hcz72_1
      try clear hcz72_2
      try clear hcz81_0
      try clear hcz81_1
      try clear hcz81_2
      try clear hcz86_0
      try clear hcz86_1
      try clear hcz86_2
      try clear hcz93_0
      try clear hcz93_1
      try clear hcz93_2
      try clear hcz98_0
      try clear hcz98_1
      try clear hcz98_2
      try clear hfz123_0
      try clear hfz123_1
      try clear hfz123_2
      try clear hfz129_0
      try clear hfz129_1
      try clear hfz129_2
      try clear hfz139_0
      try clear hfz139_1
      try clear hfz139_2
      try clear hfz144_0
      try clear hfz144_1
      try clear hfz144_2
      try clear hfz151_0
      try clear hfz151_1
      try clear hfz151_2
      try clear hfz156_0
      try clear hfz156_1
      try clear hfz156_2
      try clear hfz46_0
      try clear hfz46_1
      try clear hfz46_2
      try clear hfz52_0
      try clear hfz52_1
      try clear hfz52_2
      try clear hfz55_0
      try clear hfz55_1
      try clear hfz55_2
      try clear hfz62_0
      try clear hfz62_1
      try clear hfz62_2
      try clear hfz64_0
      try clear hfz64_1
      try clear hfz64_2
      try clear hfz72_0
      try clear hfz72_1
      try clear hfz72_2
      try clear hfz81_0
      try clear hfz81_1
      try clear hfz81_2
      try clear hfz86_0
      try clear hfz86_1
      try clear hfz86_2
      try clear hfz93_0
      try clear hfz93_1
      try clear hfz93_2
      try clear hfz98_0
      try clear hfz98_1
      try clear hfz98_2
      obtain ⟨kq, x82_108, rfl, HA, HJ108, HO_476002, HO_482002, HO_488002, HO_495002, BK455, BK456, BK475, BK481, BK487, BK494, HB⟩ := hcut
      have hl482002_108 := (Kd.R_reads' HO_482002.out).1
      rw [hl482002_108] at HO_482002
      (try simp only [hl482002_108])
      (try simp only [hl482002_108] at BK455)
      (try simp only [hl482002_108] at BK456)
      (try simp only [hl482002_108] at BK475)
      (try simp only [hl482002_108] at BK481)
      (try simp only [hl482002_108] at BK487)
      (try simp only [hl482002_108] at BK494)
      (try simp only [hl482002_108] at HO_476002)
      (try simp only [hl482002_108] at HO_488002)
      (try simp only [hl482002_108] at HO_495002)
      have hl488002_108 := (Kd.R_reads' HO_488002.out).1
      rw [hl488002_108] at HO_488002
      (try simp only [hl488002_108])
      (try simp only [hl488002_108] at BK455)
      (try simp only [hl488002_108] at BK456)
      (try simp only [hl488002_108] at BK475)
      (try simp only [hl488002_108] at BK481)
      (try simp only [hl488002_108] at BK487)
      (try simp only [hl488002_108] at BK494)
      (try simp only [hl488002_108] at HO_476002)
      (try simp only [hl488002_108] at HO_482002)
      (try simp only [hl488002_108] at HO_495002)
      cases kq with
      | zero => exact absurd HA.out (by simp [laws_FnExactAddPictures.j1])
      | succ kj108 =>
       have H := HA.out; clear HA
       simp only [laws_FnExactAddPictures.j1] at H
       by_cases c158 : x82_108 = true
       ·subst c158
        have H1 : (some false) = some r := by rw [if_pos rfl] at H; exact H
        clear H; have H := H1; clear H1
        exact absurd ((Option.some.inj H).trans hT.out) (by decide)
       replace c158 := Bool.eq_false_iff.mpr c158
       subst c158
       have H1 : ((laws_markPicture.f kj108 t488 t489 t490 1).bind fun bt513 => ((laws_heldPicture.f kj108 t488 t489 bt513.2 1).bind fun t515 => (if t515 < 0 then (some false) else (if t515 = bt513.1 then ((laws_toPicture.f kj108 a0_0 a0_1 l0_2).bind fun bt516 => ((laws_toPicture.f kj108 a1_0 a1_1 l1_2).bind fun bt521 => ((impl_AddPictures.f bt516.1 bt516.2.1 bt516.2.2 bt521.1 bt521.2.1 bt521.2.2).bind fun bt526 => ((laws_eqPicture.f kj108 bt526.1 bt526.2.1 bt526.2.2.1 t469 t470 t471).bind fun t533 => (if t533 = true then (laws_FnExactAddPictures.j2 kj108 bt513.1 (bt526.2.2.2 != t474) t488 t489 bt513.2) else (laws_FnExactAddPictures.j2 kj108 bt513.1 true t488 t489 bt513.2)))))) else (some false))))) = some r := by rw [if_neg (show ¬ (false = true) by decide)] at H; exact H
       clear H; have H := H1; clear H1
       replace H := Option.bind_eq_some_iff.mp H
       obtain ⟨⟨t513, t514⟩, A1590, H⟩ := H
       replace H : ((laws_heldPicture.f kj108 t488 t489 t514 1).bind fun t515 => (if t515 < 0 then (some false) else (if t515 = t513 then ((laws_toPicture.f kj108 a0_0 a0_1 l0_2).bind fun bt516 => ((laws_toPicture.f kj108 a1_0 a1_1 l1_2).bind fun bt521 => ((impl_AddPictures.f bt516.1 bt516.2.1 bt516.2.2 bt521.1 bt521.2.1 bt521.2.2).bind fun bt526 => ((laws_eqPicture.f kj108 bt526.1 bt526.2.1 bt526.2.2.1 t469 t470 t471).bind fun t533 => (if t533 = true then (laws_FnExactAddPictures.j2 kj108 t513 (bt526.2.2.2 != t474) t488 t489 t514) else (laws_FnExactAddPictures.j2 kj108 t513 true t488 t489 t514)))))) else (some false)))) = some r := H
       have A159 := Aside0.mk A1590
       clear A1590
       replace H := Option.bind_eq_some_iff.mp H
       obtain ⟨t515, A1600, H⟩ := H
       replace H : (if t515 < 0 then (some false) else (if t515 = t513 then ((laws_toPicture.f kj108 a0_0 a0_1 l0_2).bind fun bt516 => ((laws_toPicture.f kj108 a1_0 a1_1 l1_2).bind fun bt521 => ((impl_AddPictures.f bt516.1 bt516.2.1 bt516.2.2 bt521.1 bt521.2.1 bt521.2.2).bind fun bt526 => ((laws_eqPicture.f kj108 bt526.1 bt526.2.1 bt526.2.2.1 t469 t470 t471).bind fun t533 => (if t533 = true then (laws_FnExactAddPictures.j2 kj108 t513 (bt526.2.2.2 != t474) t488 t489 t514) else (laws_FnExactAddPictures.j2 kj108 t513 true t488 t489 t514)))))) else (some false))) = some r := H
       have A160 := Aside0.mk A1600
       clear A1600
       by_cases c161 : t515 < 0
       ·rw [if_pos c161] at H
        have c161b0 : decide (t515 < 0) = true := decide_eq_true c161
        clear c161
        exact absurd ((Option.some.inj H).trans hT.out) (by decide)
       rw [if_neg c161] at H
       have c161b0 : decide (t515 < 0) = false := decide_eq_false c161
       clear c161
       by_cases c162 : t515 = t513
       ·rw [if_pos c162] at H
        have c162b0 : (t515 == t513) = true := beq_iff_eq.mpr c162
        have c162b1 : (t515 != t513) = false := bne_eq_false_iff_eq.mpr c162
        clear c162
        replace H := Option.bind_eq_some_iff.mp H
        obtain ⟨⟨t516, t517, t518⟩, A1630, H⟩ := H
        replace H : ((laws_toPicture.f kj108 a1_0 a1_1 l1_2).bind fun bt521 => ((impl_AddPictures.f t516 t517 t518 bt521.1 bt521.2.1 bt521.2.2).bind fun bt526 => ((laws_eqPicture.f kj108 bt526.1 bt526.2.1 bt526.2.2.1 t469 t470 t471).bind fun t533 => (if t533 = true then (laws_FnExactAddPictures.j2 kj108 t513 (bt526.2.2.2 != t474) t488 t489 t514) else (laws_FnExactAddPictures.j2 kj108 t513 true t488 t489 t514))))) = some r := H
        have A163 := Aside0.mk A1630
        clear A1630
        replace H := Option.bind_eq_some_iff.mp H
        obtain ⟨⟨t521, t522, t523⟩, A1640, H⟩ := H
        replace H : ((impl_AddPictures.f t516 t517 t518 t521 t522 t523).bind fun bt526 => ((laws_eqPicture.f kj108 bt526.1 bt526.2.1 bt526.2.2.1 t469 t470 t471).bind fun t533 => (if t533 = true then (laws_FnExactAddPictures.j2 kj108 t513 (bt526.2.2.2 != t474) t488 t489 t514) else (laws_FnExactAddPictures.j2 kj108 t513 true t488 t489 t514)))) = some r := H
        have A164 := Aside0.mk A1640
        clear A1640
        replace H := Option.bind_eq_some_iff.mp H
        obtain ⟨⟨t526, t527, t528, t531⟩, A1650, H⟩ := H
        replace H : ((laws_eqPicture.f kj108 t526 t527 t528 t469 t470 t471).bind fun t533 => (if t533 = true then (laws_FnExactAddPictures.j2 kj108 t513 (t531 != t474) t488 t489 t514) else (laws_FnExactAddPictures.j2 kj108 t513 true t488 t489 t514))) = some r := H
        have A165 := Aside0.mk A1650
        clear A1650
        have HC166 := Aside0.mk H
        clear H; have hnb167 := NB494_455.out; have hnc167 := NB455_494.out; have hnb168 := NB494_456.out; have hnc168 := NB456_494.out; have hnb169 := NB494_475.out; have hnc169 := NB475_494.out; have hnb170 := NB494_481.out; have hnc170 := NB481_494.out; have hnb171 := NB494_487.out; have hnc171 := NB487_494.out
        obtain ⟨hcz172_0, hcz172_1, hcz172_2, hfz172_0, hfz172_1, hfz172_2⟩ := sZ_ BK494.out
        try go_wp2_with (first | ((with_reducible refine gate_callee (f := 23) rfl ?_); refine goesL_ (some 85) rfl rfl Try.func23 (by kernel_rfl) rfl #[.agg #[.int .i64 t488, .int .i64 t489, .slice Ao73 t490.length co73], .int .i64 1] rfl sL_ ?_; (with_reducible refine (laws_markPicture.calls kj108 t488 t489 (fun k_ => some k_ = (.slice Ao73 t490.length co73 : Value).ownBlock) (.slice Ao73 t490.length co73) t490 1 t513 t514 w _ ?side1 ?side2 A159.out).mono ?_); (case side1 => repeat (first | (with_reducible first | exact HB.out | apply below_alloc | apply pw_below_drewN | apply below_drew1 | refine below_set ?_ GE455.out | refine below_set ?_ GE456.out | refine below_set ?_ GE475.out | refine below_set ?_ GE481.out | refine below_set ?_ GE487.out | refine below_set ?_ GE494.out) | exact HB.out)); (case side2 => exact Kd.R_tight rfl HO_495002.out); rintro e w173 ⟨rfl, hy0, hb, hkp⟩; refine ⟨_, rfl, ?_⟩; have n0_ := Aside0.mk (Kd.R_mono (ok' := fun k_ => some k_ ≠ (.slice Ao53 t509.length co53 : Value).ownBlock ∧ some k_ ≠ (.slice Ao63 t511.length co63 : Value).ownBlock ∧ some k_ ≠ (.slice Ao73 t490.length co73 : Value).ownBlock) (Kd.R_keptB (HO_476002.out) hkp (fun k_ hk_ hs_ => (hk_.2.2) hs_)) (fun k_ hk_ => ⟨hk_.1.1, hk_.1.2.1, hk_.1.2.2⟩)); have n1_ := Aside0.mk (Kd.R_mono (ok' := fun k_ => some k_ ≠ (.slice Ao43 t471.length co43 : Value).ownBlock ∧ some k_ ≠ (.slice Ao63 t511.length co63 : Value).ownBlock ∧ some k_ ≠ (.slice Ao73 t490.length co73 : Value).ownBlock) (Kd.R_keptB (HO_482002.out) hkp (fun k_ hk_ hs_ => (hk_.2.2) hs_)) (fun k_ hk_ => ⟨hk_.1.1, hk_.1.2.1, hk_.1.2.2⟩)); have n2_ := Aside0.mk (Kd.R_mono (ok' := fun k_ => some k_ ≠ (.slice Ao43 t471.length co43 : Value).ownBlock ∧ some k_ ≠ (.slice Ao53 t509.length co53 : Value).ownBlock ∧ some k_ ≠ (.slice Ao73 t490.length co73 : Value).ownBlock) (Kd.R_keptB (HO_488002.out) hkp (fun k_ hk_ hs_ => (hk_.2.2) hs_)) (fun k_ hk_ => ⟨hk_.1.1, hk_.1.2.1, hk_.1.2.2⟩)); have n3_ := Aside0.mk (Kd.R_reok rfl hy0 (fun k_ e_ => HO_495002.out.1 k_ e_)); have n4_ := Aside0.mk (blk_kept (sB_ BK455.out) hkp (fun hs_ => (fun e_ => (Kd.R_ne HO_495002.out BK455.out (by decide)) e_) hs_)); have n5_ := Aside0.mk (blk_kept (sB_ BK456.out) hkp (fun hs_ => (fun e_ => (Kd.R_ne HO_495002.out BK456.out (by decide)) e_) hs_)); have n6_ := Aside0.mk (blk_kept (sB_ BK475.out) hkp (fun hs_ => (fun e_ => (Kd.R_ne HO_495002.out BK475.out (by decide)) e_) hs_)); have n7_ := Aside0.mk (blk_kept (sB_ BK481.out) hkp (fun hs_ => (fun e_ => (Kd.R_ne HO_495002.out BK481.out (by decide)) e_) hs_)); have n8_ := Aside0.mk (blk_kept (sB_ BK487.out) hkp (fun hs_ => (fun e_ => (Kd.R_ne HO_495002.out BK487.out (by decide)) e_) hs_)); have n9_ := Aside0.mk (blk_kept (sB_ BK494.out) hkp (fun hs_ => (fun e_ => (Kd.R_ne HO_495002.out BK494.out (by decide)) e_) hs_)); have n10_ := Aside0.mk (hb); clear HO_476002 HO_482002 HO_488002 HO_495002 BK455 BK456 BK475 BK481 BK487 BK494 HB; have HO_476002 := n0_; have HO_482002 := n1_; have HO_488002 := n2_; have HO_495002 := n3_; have BK455 := n4_; have BK456 := n5_; have BK475 := n6_; have BK481 := n7_; have BK487 := n8_; have BK494 := n9_; have HB := n10_; clear n0_ n1_ n2_ n3_ n4_ n5_ n6_ n7_ n8_ n9_ n10_; (try clear hb); (try clear hkp); (try clear hy0); obtain ⟨hcz174_0, hcz174_1, hcz174_2, hfz174_0, hfz174_1, hfz174_2⟩ := sZ_ BK494.out) | ((with_reducible refine gate_callee (f := 24) rfl ?_); refine goesL_ (some 88) rfl rfl Try.func24 (by kernel_rfl) rfl #[.agg #[.int .i64 t488, .int .i64 t489, .slice Ao73 t514.length co73], .int .i64 1] rfl (by (try simp only [List.map_toArray, List.map_cons, List.map_nil]); first | done | (rw [show t514.length = t490.length from (Kd.R_reads' HO_495002.out).1.symm] <;> rfl) | rfl | (simp only [List.length_drop, List.length_take]; rfl)) ?_; (with_reducible refine (laws_heldPicture.calls kj108 t488 t489 _ _ t514 1 t515 _ ?side1 ?side2 A160.out).mono ?_); (case side1 => repeat (first | exact (Kd.R_reads' HO_495002.out).2.2 | (with_reducible refine Kd.C_alloc ?_ _) | (with_reducible refine Kd.C_drewN ?_ _) | (with_reducible refine Kd.C_drew ?_))); (case side2 => rw [show t514.length = t490.length from (Kd.R_reads' HO_495002.out).1.symm]; exact (Kd.R_reads' HO_495002.out).2.1); rintro e w175 ⟨rfl, hb⟩; refine ⟨_, rfl, ?_⟩; have n0_ := Aside0.mk (Kd.R_below (sR_ HO_476002.out) hb); have n1_ := Aside0.mk (Kd.R_below (sR_ HO_482002.out) hb); have n2_ := Aside0.mk (Kd.R_below (sR_ HO_488002.out) hb); have n3_ := Aside0.mk (Kd.R_below (sR_ HO_495002.out) hb); have n4_ := Aside0.mk (blk_below (sB_ BK455.out) hb); have n5_ := Aside0.mk (blk_below (sB_ BK456.out) hb); have n6_ := Aside0.mk (blk_below (sB_ BK475.out) hb); have n7_ := Aside0.mk (blk_below (sB_ BK481.out) hb); have n8_ := Aside0.mk (blk_below (sB_ BK487.out) hb); have n9_ := Aside0.mk (blk_below (sB_ BK494.out) hb); have n10_ := Aside0.mk (below_step (sW_ HB.out) hb); clear HO_476002 HO_482002 HO_488002 HO_495002 BK455 BK456 BK475 BK481 BK487 BK494 HB; have HO_476002 := n0_; have HO_482002 := n1_; have HO_488002 := n2_; have HO_495002 := n3_; have BK455 := n4_; have BK456 := n5_; have BK475 := n6_; have BK481 := n7_; have BK487 := n8_; have BK494 := n9_; have HB := n10_; clear n0_ n1_ n2_ n3_ n4_ n5_ n6_ n7_ n8_ n9_ n10_; (try clear hb); (try clear hb2); (try clear hk); (try clear hi)))
        have n0_ := Aside0.mk (Kd.R_drew HO_476002.out)
        have n1_ := Aside0.mk (Kd.R_drew HO_482002.out)
        have n2_ := Aside0.mk (Kd.R_drew HO_488002.out)
        have n3_ := Aside0.mk (Kd.R_drew HO_495002.out)
        have n4_ := Aside0.mk (blk_drew BK455.out)
        have n5_ := Aside0.mk (blk_drew BK456.out)
        have n6_ := Aside0.mk (blk_drew BK475.out)
        have n7_ := Aside0.mk (blk_drew BK481.out)
        have n8_ := Aside0.mk (blk_drew BK487.out)
        have n9_ := Aside0.mk (blk_drew BK494.out)
        have n10_ := Aside0.mk (below_drew1 HB.out)
        clear HO_476002 HO_482002 HO_488002 HO_495002 BK455 BK456 BK475 BK481 BK487 BK494 HB; have HO_476002 := n0_; have HO_482002 := n1_; have HO_488002 := n2_; have HO_495002 := n3_; have BK455 := n4_; have BK456 := n5_; have BK475 := n6_; have BK481 := n7_; have BK487 := n8_; have BK494 := n9_; have HB := n10_; clear n0_ n1_ n2_ n3_ n4_ n5_ n6_ n7_ n8_ n9_ n10_
        refine start_ (n := 11) (S := fun w' => w'.cell? ⟨gb455, 0, none⟩ = some (.int .i64 a0_0) ∧ w'.cell? ⟨gb455, 1, none⟩ = some (.int .i64 a0_1) ∧ w'.cell? ⟨gb455, 2, none⟩ = some (.slice A0_2 l0_2.length c0_2) ∧ w'.cell? ⟨gb456, 0, none⟩ = some (.int .i64 a1_0) ∧ w'.cell? ⟨gb456, 1, none⟩ = some (.int .i64 a1_1) ∧ w'.cell? ⟨gb456, 2, none⟩ = some (.slice A1_2 l1_2.length c1_2)) (ds := []) #[false, false, false, false, false, false, false, false, false, false, false] (by kernel_rfl) rfl rfl ⟨(blk_cell BK455.out 0).trans rfl, (blk_cell BK455.out 1).trans rfl, (blk_cell BK455.out 2).trans rfl, (blk_cell BK456.out 0).trans rfl, (blk_cell BK456.out 1).trans rfl, (blk_cell BK456.out 2).trans rfl⟩ (fun hHeld => ?_); refine with_tabW laws_FnExactAddPictures.tab31 laws_FnExactAddPictures.bits31 (fun HT_ HW_ => ?_)
        generalize w175.drew = w176 at HO_476002 HO_482002 HO_488002 HO_495002 BK455 BK456 BK475 BK481 BK487 BK494 HB hHeld ⊢
        refine take_ (i := 0) (N := some 95) (v := ?_) (a' := ?_) #[true, false, false, false, false, false, false, false, false, false, false] rfl rfl (take_ofW HT_.out HW_.out (by kernel_rfl)) (fun _ _ _ h => h) (Or.inl ⟨by rfl, ?_⟩) hHeld ?_ ?_
        rotate_left
        ·rintro w' ⟨s0, s1, s2, s3, s4, s5⟩
         go_simp
         with_reducible rfl
        rotate_left
        ·simp only [Act.put, List.setIfInBounds_toArray, List.set_cons_zero, List.set_cons_succ, i64_w, i32_w]
         rfl
        refine take_ (i := 2) (N := some 97) (v := ?_) (a' := ?_) #[true, false, true, false, false, false, false, false, false, false, false] rfl rfl (take_ofW HT_.out HW_.out (by kernel_rfl)) (fun _ _ _ h => h) (Or.inl ⟨by rfl, ?_⟩) hHeld ?_ ?_
        rotate_left
        ·rintro w' ⟨s0, s1, s2, s3, s4, s5⟩
         go_simp
         with_reducible rfl
        rotate_left
        ·simp only [Act.put, List.setIfInBounds_toArray, List.set_cons_zero, List.set_cons_succ, i64_w, i32_w]
         rfl
        refine join_ (σ := Value × Value × Value × Nat) 2 #[true, true, true, true, true, true, true, true, true, false, false] (fun s_ => [(96, .agg #[.int .i64 t516, .int .i64 t517, s_.1]), (98, .agg #[.int .i64 t521, .int .i64 t522, s_.2.1]), (99, .tuple #[.agg #[.int .i64 t526, .int .i64 t527, s_.2.2.1], .bool t531]), (15, .pointer (some ⟨s_.2.2.2, 0, none⟩)), (94, .tuple #[.agg #[.int .i64 t526, .int .i64 t527, s_.2.2.1], .bool t531]), (100, .agg #[.int .i64 t526, .int .i64 t527, s_.2.2.1]), (101, .bool t531)]) (fun s_ w' => (w'.cell? ⟨gb455, 0, none⟩ = some (.int .i64 a0_0) ∧ w'.cell? ⟨gb455, 1, none⟩ = some (.int .i64 a0_1) ∧ w'.cell? ⟨gb455, 2, none⟩ = some (.slice A0_2 l0_2.length c0_2) ∧ w'.cell? ⟨gb456, 0, none⟩ = some (.int .i64 a1_0) ∧ w'.cell? ⟨gb456, 1, none⟩ = some (.int .i64 a1_1) ∧ w'.cell? ⟨gb456, 2, none⟩ = some (.slice A1_2 l1_2.length c1_2)) ∧ (Kd.R (Kd.int .i64) 3 w' w.heap.size (fun k_ => some k_ ≠ (s_.2.1 : Value).ownBlock ∧ some k_ ≠ (s_.2.2.1 : Value).ownBlock ∧ some k_ ≠ (.slice Ao43 t471.length co43 : Value).ownBlock ∧ some k_ ≠ (.slice Ao53 t509.length co53 : Value).ownBlock ∧ some k_ ≠ (.slice Ao63 t511.length co63 : Value).ownBlock ∧ some k_ ≠ (.slice Ao73 t490.length co73 : Value).ownBlock) s_.1 t518) ∧ (Kd.R (Kd.int .i64) 3 w' w.heap.size (fun k_ => some k_ ≠ (s_.1 : Value).ownBlock ∧ some k_ ≠ (s_.2.2.1 : Value).ownBlock ∧ some k_ ≠ (.slice Ao43 t471.length co43 : Value).ownBlock ∧ some k_ ≠ (.slice Ao53 t509.length co53 : Value).ownBlock ∧ some k_ ≠ (.slice Ao63 t511.length co63 : Value).ownBlock ∧ some k_ ≠ (.slice Ao73 t490.length co73 : Value).ownBlock) s_.2.1 t523) ∧ (Kd.R (Kd.int .i64) 3 w' w.heap.size (fun k_ => some k_ ≠ (s_.1 : Value).ownBlock ∧ some k_ ≠ (s_.2.1 : Value).ownBlock ∧ some k_ ≠ (.slice Ao43 t471.length co43 : Value).ownBlock ∧ some k_ ≠ (.slice Ao53 t509.length co53 : Value).ownBlock ∧ some k_ ≠ (.slice Ao63 t511.length co63 : Value).ownBlock ∧ some k_ ≠ (.slice Ao73 t490.length co73 : Value).ownBlock) s_.2.2.1 t528) ∧ (Kd.R (Kd.int .i64) 3 w' w.heap.size (fun k_ => some k_ ≠ (s_.1 : Value).ownBlock ∧ some k_ ≠ (s_.2.1 : Value).ownBlock ∧ some k_ ≠ (s_.2.2.1 : Value).ownBlock ∧ some k_ ≠ (.slice Ao53 t509.length co53 : Value).ownBlock ∧ some k_ ≠ (.slice Ao63 t511.length co63 : Value).ownBlock ∧ some k_ ≠ (.slice Ao73 t490.length co73 : Value).ownBlock) (.slice Ao43 t471.length co43) t471) ∧ (Kd.R (Kd.int .i64) 3 w' w.heap.size (fun k_ => some k_ ≠ (s_.1 : Value).ownBlock ∧ some k_ ≠ (s_.2.1 : Value).ownBlock ∧ some k_ ≠ (s_.2.2.1 : Value).ownBlock ∧ some k_ ≠ (.slice Ao43 t471.length co43 : Value).ownBlock ∧ some k_ ≠ (.slice Ao63 t511.length co63 : Value).ownBlock ∧ some k_ ≠ (.slice Ao73 t490.length co73 : Value).ownBlock) (.slice Ao53 t509.length co53) t509) ∧ (Kd.R (Kd.int .i64) 3 w' w.heap.size (fun k_ => some k_ ≠ (s_.1 : Value).ownBlock ∧ some k_ ≠ (s_.2.1 : Value).ownBlock ∧ some k_ ≠ (s_.2.2.1 : Value).ownBlock ∧ some k_ ≠ (.slice Ao43 t471.length co43 : Value).ownBlock ∧ some k_ ≠ (.slice Ao53 t509.length co53 : Value).ownBlock ∧ some k_ ≠ (.slice Ao73 t490.length co73 : Value).ownBlock) (.slice Ao63 t511.length co63) t511) ∧ (Kd.R (Kd.int .i64) 3 w' w.heap.size (fun k_ => some k_ ≠ (s_.1 : Value).ownBlock ∧ some k_ ≠ (s_.2.1 : Value).ownBlock ∧ some k_ ≠ (s_.2.2.1 : Value).ownBlock ∧ some k_ ≠ (.slice Ao43 t471.length co43 : Value).ownBlock ∧ some k_ ≠ (.slice Ao53 t509.length co53 : Value).ownBlock ∧ some k_ ≠ (.slice Ao63 t511.length co63 : Value).ownBlock) (.slice Ao73 t490.length co73) t514) ∧ (w'.heap[gb455]? = some (.cells #[.int .i64 a0_0, .int .i64 a0_1, .slice A0_2 l0_2.length c0_2] 39 (0, 0))) ∧ (w'.heap[gb456]? = some (.cells #[.int .i64 a1_0, .int .i64 a1_1, .slice A1_2 l1_2.length c1_2] 39 (0, 0))) ∧ (w'.heap[gb475]? = some (.cells #[.int .i64 t469, .int .i64 t470, .slice Ao43 t471.length co43] 27 (0, 0))) ∧ (w'.heap[gb481]? = some (.cells #[.int .i64 t476, .int .i64 t477, .slice Ao53 t509.length co53] 27 (0, 0))) ∧ (w'.heap[gb487]? = some (.cells #[.int .i64 t482, .int .i64 t483, .slice Ao63 t511.length co63] 27 (0, 0))) ∧ (w'.heap[gb494]? = some (.cells #[.int .i64 t488, .int .i64 t489, .slice Ao73 t490.length co73] 27 (0, 0))) ∧ (w'.heap[s_.2.2.2]? = some (.cells #[.int .i64 0, .int .i64 0, .slice none 0 0] 27 (0, 0))) ∧ (w.heap.size ≤ s_.2.2.2) ∧ (w.heap.size ≤ s_.2.2.2) ∧ (gb455 ≠ s_.2.2.2) ∧ (s_.2.2.2 ≠ gb455) ∧ (gb456 ≠ s_.2.2.2) ∧ (s_.2.2.2 ≠ gb456) ∧ (gb475 ≠ s_.2.2.2) ∧ (s_.2.2.2 ≠ gb475) ∧ (gb481 ≠ s_.2.2.2) ∧ (s_.2.2.2 ≠ gb481) ∧ (gb487 ≠ s_.2.2.2) ∧ (s_.2.2.2 ≠ gb487) ∧ (gb494 ≠ s_.2.2.2) ∧ (s_.2.2.2 ≠ gb494) ∧ (Below w.heap.size w w')) ?_ ?_
        rotate_left
        ·intro hCont
         refine two_ (i := 1) (j := 8) (Ni := some 96) (Nj := some 15) #[true, true, true, false, false, false, false, false, false, false, false] #[true, false, true, false, false, false, false, false, true, false, false] rfl rfl rfl rfl (two_of HT_.out (by kernel_rfl)) (by decide) (by decide) (fun K hK => ?_) (fun K hK => ?_)
         ·skip
          refine goes_ Try.func20 (by kernel_rfl) rfl #[.agg #[.int .i64 a0_0, .int .i64 a0_1, .slice A0_2 l0_2.length c0_2]] (by rfl) rfl rfl sL_ ?_
          with_reducible refine (laws_toPicture.calls kj108 a0_0 a0_1 _ _ l0_2 t516 t517 t518 _ ?side1 ?side2 A163.out).mono ?_
          (case side1 => repeat (first | exact (Kd.C_below HR0_2.out HB.out) | (with_reducible refine Kd.C_alloc ?_ _) | (with_reducible refine Kd.C_drewN ?_ _) | (with_reducible refine Kd.C_drew ?_)))
          (case side2 => exact HC0_2.out)
          rintro e w177 ⟨v519, rfl, ho0, hb⟩
          refine ⟨_, rfl, ?_⟩
          have n0_ := Aside0.mk (Kd.R_elder' (sR_ HO_476002.out) (Kd.R_base ho0) hb)
          have n1_ := Aside0.mk (Kd.R_elder' (sR_ HO_482002.out) (Kd.R_base ho0) hb)
          have n2_ := Aside0.mk (Kd.R_elder' (sR_ HO_488002.out) (Kd.R_base ho0) hb)
          have n3_ := Aside0.mk (Kd.R_elder' (sR_ HO_495002.out) (Kd.R_base ho0) hb)
          have n4_ := Aside0.mk (Kd.R_lower (Kd.R_new' (Kd.R_new' (Kd.R_new' (Kd.R_new' ho0 (Kd.R_lt (sR_ HO_476002.out))) (Kd.R_lt (sR_ HO_482002.out))) (Kd.R_lt (sR_ HO_488002.out))) (Kd.R_lt (sR_ HO_495002.out))) (below_size (sW_ HB.out)))
          have n5_ := Aside0.mk (blk_below (sB_ BK455.out) hb)
          have n6_ := Aside0.mk (blk_below (sB_ BK456.out) hb)
          have n7_ := Aside0.mk (blk_below (sB_ BK475.out) hb)
          have n8_ := Aside0.mk (blk_below (sB_ BK481.out) hb)
          have n9_ := Aside0.mk (blk_below (sB_ BK487.out) hb)
          have n10_ := Aside0.mk (blk_below (sB_ BK494.out) hb)
          have n11_ := Aside0.mk (below_step (sW_ HB.out) hb)
          clear HO_476002 HO_482002 HO_488002 HO_495002 BK455 BK456 BK475 BK481 BK487 BK494 HB; have HO_476002 := n0_; have HO_482002 := n1_; have HO_488002 := n2_; have HO_495002 := n3_; have HO520 := n4_; have BK455 := n5_; have BK456 := n6_; have BK475 := n7_; have BK481 := n8_; have BK487 := n9_; have BK494 := n10_; have HB := n11_; clear n0_ n1_ n2_ n3_ n4_ n5_ n6_ n7_ n8_ n9_ n10_ n11_
          (try clear hb)
          (try clear hb2)
          (try clear hk)
          (try clear hi)
          (try clear ho0)
          refine hK.out _ _ ⟨(blk_cell BK455.out 0).trans rfl, (blk_cell BK455.out 1).trans rfl, (blk_cell BK455.out 2).trans rfl, (blk_cell BK456.out 0).trans rfl, (blk_cell BK456.out 1).trans rfl, (blk_cell BK456.out 2).trans rfl⟩ (fun hHeld => ?_)
          clear hK K
          refine norm_ (a' := ?_) ?_ ?_
          rotate_left
          ·show Act.put _ (some 96) _ = _
           simp only [Act.put, List.setIfInBounds_toArray, List.set_cons_zero, List.set_cons_succ, i64_w, i32_w]
           rfl
          refine two_ (i := 3) (j := 8) (Ni := some 98) (Nj := some 15) #[true, true, true, true, false, false, false, false, false, false, false] #[true, true, true, false, false, false, false, false, true, false, false] rfl rfl rfl rfl (two_of HT_.out (by kernel_rfl)) (by decide) (by decide) (fun K hK => ?_) (fun K hK => ?_)
          ·skip
           refine goes_ Try.func20 (by kernel_rfl) rfl #[.agg #[.int .i64 a1_0, .int .i64 a1_1, .slice A1_2 l1_2.length c1_2]] (by rfl) rfl rfl sL_ ?_
           with_reducible refine (laws_toPicture.calls kj108 a1_0 a1_1 _ _ l1_2 t521 t522 t523 _ ?side1 ?side2 A164.out).mono ?_
           (case side1 => repeat (first | exact (Kd.C_below HR1_2.out HB.out) | (with_reducible refine Kd.C_alloc ?_ _) | (with_reducible refine Kd.C_drewN ?_ _) | (with_reducible refine Kd.C_drew ?_)))
           (case side2 => exact HC1_2.out)
           rintro e w178 ⟨v524, rfl, ho0, hb⟩
           refine ⟨_, rfl, ?_⟩
           have n0_ := Aside0.mk (Kd.R_elder' (sR_ HO_476002.out) (Kd.R_base ho0) hb)
           have n1_ := Aside0.mk (Kd.R_elder' (sR_ HO_482002.out) (Kd.R_base ho0) hb)
           have n2_ := Aside0.mk (Kd.R_elder' (sR_ HO_488002.out) (Kd.R_base ho0) hb)
           have n3_ := Aside0.mk (Kd.R_elder' (sR_ HO_495002.out) (Kd.R_base ho0) hb)
           have n4_ := Aside0.mk (Kd.R_elder' (sR_ HO520.out) (Kd.R_base ho0) hb)
           have n5_ := Aside0.mk (Kd.R_lower (Kd.R_new' (Kd.R_new' (Kd.R_new' (Kd.R_new' (Kd.R_new' ho0 (Kd.R_lt (sR_ HO_476002.out))) (Kd.R_lt (sR_ HO_482002.out))) (Kd.R_lt (sR_ HO_488002.out))) (Kd.R_lt (sR_ HO_495002.out))) (Kd.R_lt (sR_ HO520.out))) (below_size (sW_ HB.out)))
           have n6_ := Aside0.mk (blk_below (sB_ BK455.out) hb)
           have n7_ := Aside0.mk (blk_below (sB_ BK456.out) hb)
           have n8_ := Aside0.mk (blk_below (sB_ BK475.out) hb)
           have n9_ := Aside0.mk (blk_below (sB_ BK481.out) hb)
           have n10_ := Aside0.mk (blk_below (sB_ BK487.out) hb)
           have n11_ := Aside0.mk (blk_below (sB_ BK494.out) hb)
           have n12_ := Aside0.mk (below_step (sW_ HB.out) hb)
           clear HO_476002 HO_482002 HO_488002 HO_495002 HO520 BK455 BK456 BK475 BK481 BK487 BK494 HB; have HO_476002 := n0_; have HO_482002 := n1_; have HO_488002 := n2_; have HO_495002 := n3_; have HO520 := n4_; have HO525 := n5_; have BK455 := n6_; have BK456 := n7_; have BK475 := n8_; have BK481 := n9_; have BK487 := n10_; have BK494 := n11_; have HB := n12_; clear n0_ n1_ n2_ n3_ n4_ n5_ n6_ n7_ n8_ n9_ n10_ n11_ n12_
           (try clear hb)
           (try clear hb2)
           (try clear hk)
           (try clear hi)
           (try clear ho0)
           obtain ⟨Ao179, co179, eo179⟩ := Kd.R_slice HO520.out
           (first | subst eo179 | (injection eo179 with f1_ f2_ f3_; have f4_ := f1_.symm; have f5_ := f3_.symm; clear f1_ f2_ f3_; subst f4_; subst f5_))
           obtain ⟨Ao180, co180, eo180⟩ := Kd.R_slice HO525.out
           (first | subst eo180 | (injection eo180 with f1_ f2_ f3_; have f4_ := f1_.symm; have f5_ := f3_.symm; clear f1_ f2_ f3_; subst f4_; subst f5_))
           refine hK.out _ _ ⟨(blk_cell BK455.out 0).trans rfl, (blk_cell BK455.out 1).trans rfl, (blk_cell BK455.out 2).trans rfl, (blk_cell BK456.out 0).trans rfl, (blk_cell BK456.out 1).trans rfl, (blk_cell BK456.out 2).trans rfl⟩ (fun hHeld => ?_)
           clear hK K
           refine norm_ (a' := ?_) ?_ ?_
           rotate_left
           ·show Act.put _ (some 98) _ = _
            simp only [Act.put, List.setIfInBounds_toArray, List.set_cons_zero, List.set_cons_succ, i64_w, i32_w]
            rfl
           refine two_ (i := 4) (j := 8) (Ni := some 99) (Nj := some 15) #[true, true, true, true, true, false, false, false, false, false, false] #[true, true, true, true, false, false, false, false, true, false, false] rfl rfl rfl rfl (two_of HT_.out (by kernel_rfl)) (by decide) (by decide) (fun K hK => ?_) (fun K hK => ?_)
           ·skip
            refine goes_ Try.func21 (by kernel_rfl) rfl #[.agg #[.int .i64 t516, .int .i64 t517, .slice Ao179 t518.length co179], .agg #[.int .i64 t521, .int .i64 t522, .slice Ao180 t523.length co180]] (by rfl) rfl rfl sL_ ?_
            with_reducible refine (impl_AddPictures.calls t516 t517 _ _ t518 t521 t522 _ _ t523 t526 t527 t528 t531 _ ?side1 ?side2 ?side3 ?side4 A165.out).mono ?_
            (case side1 => repeat (first | exact (Kd.R_reads' HO520.out).2.2 | (with_reducible refine Kd.C_alloc ?_ _) | (with_reducible refine Kd.C_drewN ?_ _) | (with_reducible refine Kd.C_drew ?_)))
            (case side2 => exact (Kd.R_reads' HO520.out).2.1)
            (case side3 => repeat (first | exact (Kd.R_reads' HO525.out).2.2 | (with_reducible refine Kd.C_alloc ?_ _) | (with_reducible refine Kd.C_drewN ?_ _) | (with_reducible refine Kd.C_drew ?_)))
            (case side4 => exact (Kd.R_reads' HO525.out).2.1)
            rintro e w181 ⟨v529, rfl, ho0, hb⟩
            refine ⟨_, rfl, ?_⟩
            have n0_ := Aside0.mk (Kd.R_elder' (sR_ HO_476002.out) (Kd.R_base ho0) hb)
            have n1_ := Aside0.mk (Kd.R_elder' (sR_ HO_482002.out) (Kd.R_base ho0) hb)
            have n2_ := Aside0.mk (Kd.R_elder' (sR_ HO_488002.out) (Kd.R_base ho0) hb)
            have n3_ := Aside0.mk (Kd.R_elder' (sR_ HO_495002.out) (Kd.R_base ho0) hb)
            have n4_ := Aside0.mk (Kd.R_elder' (sR_ HO520.out) (Kd.R_base ho0) hb)
            have n5_ := Aside0.mk (Kd.R_elder' (sR_ HO525.out) (Kd.R_base ho0) hb)
            have n6_ := Aside0.mk (Kd.R_lower (Kd.R_new' (Kd.R_new' (Kd.R_new' (Kd.R_new' (Kd.R_new' (Kd.R_new' ho0 (Kd.R_lt (sR_ HO_476002.out))) (Kd.R_lt (sR_ HO_482002.out))) (Kd.R_lt (sR_ HO_488002.out))) (Kd.R_lt (sR_ HO_495002.out))) (Kd.R_lt (sR_ HO520.out))) (Kd.R_lt (sR_ HO525.out))) (below_size (sW_ HB.out)))
            have n7_ := Aside0.mk (blk_below (sB_ BK455.out) hb)
            have n8_ := Aside0.mk (blk_below (sB_ BK456.out) hb)
            have n9_ := Aside0.mk (blk_below (sB_ BK475.out) hb)
            have n10_ := Aside0.mk (blk_below (sB_ BK481.out) hb)
            have n11_ := Aside0.mk (blk_below (sB_ BK487.out) hb)
            have n12_ := Aside0.mk (blk_below (sB_ BK494.out) hb)
            have n13_ := Aside0.mk (below_step (sW_ HB.out) hb)
            clear HO_476002 HO_482002 HO_488002 HO_495002 HO520 HO525 BK455 BK456 BK475 BK481 BK487 BK494 HB; have HO_476002 := n0_; have HO_482002 := n1_; have HO_488002 := n2_; have HO_495002 := n3_; have HO520 := n4_; have HO525 := n5_; have HO530 := n6_; have BK455 := n7_; have BK456 := n8_; have BK475 := n9_; have BK481 := n10_; have BK487 := n11_; have BK494 := n12_; have HB := n13_; clear n0_ n1_ n2_ n3_ n4_ n5_ n6_ n7_ n8_ n9_ n10_ n11_ n12_ n13_
            (try clear hb)
            (try clear hb2)
            (try clear hk)
            (try clear hi)
            (try clear ho0)
            refine hK.out _ _ ⟨(blk_cell BK455.out 0).trans rfl, (blk_cell BK455.out 1).trans rfl, (blk_cell BK455.out 2).trans rfl, (blk_cell BK456.out 0).trans rfl, (blk_cell BK456.out 1).trans rfl, (blk_cell BK456.out 2).trans rfl⟩ (fun hHeld => ?_)
            clear hK K
            refine norm_ (a' := ?_) ?_ ?_
            rotate_left
            ·show Act.put _ (some 99) _ = _
             simp only [Act.put, List.setIfInBounds_toArray, List.set_cons_zero, List.set_cons_succ, i64_w, i32_w]
             rfl
            refine pure_ (i := 5) (N := some 94) (v := ?_) (a' := ?_) #[true, true, true, true, true, true, false, false, false, false, false] rfl rfl (any_of HT_.out (by kernel_rfl)) (fun _ _ _ h => h) (Or.inl ⟨by rfl, ?_⟩) ?_ ?_
            rotate_left
            ·intro w'
             go_simp
             with_reducible rfl
            rotate_left
            ·simp only [Act.put, List.setIfInBounds_toArray, List.set_cons_zero, List.set_cons_succ, i64_w, i32_w]
             rfl
            refine pure_ (i := 6) (N := some 100) (v := ?_) (a' := ?_) #[true, true, true, true, true, true, true, false, false, false, false] rfl rfl (any_of HT_.out (by kernel_rfl)) (fun _ _ _ h => h) (Or.inl ⟨by rfl, ?_⟩) ?_ ?_
            rotate_left
            ·intro w'
             go_simp
             with_reducible rfl
            rotate_left
            ·simp only [Act.put, List.setIfInBounds_toArray, List.set_cons_zero, List.set_cons_succ, i64_w, i32_w]
             rfl
            refine pure_ (i := 7) (N := some 101) (v := ?_) (a' := ?_) #[true, true, true, true, true, true, true, true, false, false, false] rfl rfl (any_of HT_.out (by kernel_rfl)) (fun _ _ _ h => h) (Or.inl ⟨by rfl, ?_⟩) ?_ ?_
            rotate_left
            ·intro w'
             go_simp
             with_reducible rfl
            rotate_left
            ·simp only [Act.put, List.setIfInBounds_toArray, List.set_cons_zero, List.set_cons_succ, i64_w, i32_w]
             rfl
            refine one_ (i := 8) (N := some 15) #[true, true, true, true, true, true, true, true, true, false, false] rfl rfl (one_of HT_.out (by kernel_rfl)) (by decide) (fun K hK => ?_)
            refine box_step ?hg (N := 15) ?hd (cs := #[.int .i64 0, .int .i64 0, .slice none 0 0]) (t := 27) ?hr ?_; (case hd => rfl); (case hg => rfl); (case hr => first | (go_simp; done) | (go_simp; rfl))
            intro gb532 hg w182 hbox hb
            have n0_ := Aside0.mk (Kd.R_below (sR_ HO_476002.out) hb)
            have n1_ := Aside0.mk (Kd.R_below (sR_ HO_482002.out) hb)
            have n2_ := Aside0.mk (Kd.R_below (sR_ HO_488002.out) hb)
            have n3_ := Aside0.mk (Kd.R_below (sR_ HO_495002.out) hb)
            have n4_ := Aside0.mk (Kd.R_below (sR_ HO520.out) hb)
            have n5_ := Aside0.mk (Kd.R_below (sR_ HO525.out) hb)
            have n6_ := Aside0.mk (Kd.R_below (sR_ HO530.out) hb)
            have n7_ := Aside0.mk (blk_below (sB_ BK455.out) hb)
            have n8_ := Aside0.mk (blk_below (sB_ BK456.out) hb)
            have n9_ := Aside0.mk (blk_below (sB_ BK475.out) hb)
            have n10_ := Aside0.mk (blk_below (sB_ BK481.out) hb)
            have n11_ := Aside0.mk (blk_below (sB_ BK487.out) hb)
            have n12_ := Aside0.mk (blk_below (sB_ BK494.out) hb)
            have n13_ := Aside0.mk (below_step (sW_ HB.out) hb)
            have n14_ := Aside0.mk (hbox)
            have n15_ := Aside0.mk ((by rw [hg]; exact (below_size (sW_ HB.out)) : w.heap.size ≤ gb532))
            have n16_ := n15_
            have n17_ := Aside0.mk (sN_ hg (blk_lt (sB_ BK455.out)))
            have n18_ := Aside0.mk n17_.out.symm
            have n19_ := Aside0.mk (sN_ hg (blk_lt (sB_ BK456.out)))
            have n20_ := Aside0.mk n19_.out.symm
            have n21_ := Aside0.mk (sN_ hg (blk_lt (sB_ BK475.out)))
            have n22_ := Aside0.mk n21_.out.symm
            have n23_ := Aside0.mk (sN_ hg (blk_lt (sB_ BK481.out)))
            have n24_ := Aside0.mk n23_.out.symm
            have n25_ := Aside0.mk (sN_ hg (blk_lt (sB_ BK487.out)))
            have n26_ := Aside0.mk n25_.out.symm
            have n27_ := Aside0.mk (sN_ hg (blk_lt (sB_ BK494.out)))
            have n28_ := Aside0.mk n27_.out.symm
            clear HO_476002 HO_482002 HO_488002 HO_495002 HO520 HO525 HO530 BK455 BK456 BK475 BK481 BK487 BK494 HB; have HO_476002 := n0_; have HO_482002 := n1_; have HO_488002 := n2_; have HO_495002 := n3_; have HO520 := n4_; have HO525 := n5_; have HO530 := n6_; have BK455 := n7_; have BK456 := n8_; have BK475 := n9_; have BK481 := n10_; have BK487 := n11_; have BK494 := n12_; have HB := n13_; have BK532 := n14_; have GW532 := n15_; have GE532 := n16_; have NB455_532 := n17_; have NB532_455 := n18_; have NB456_532 := n19_; have NB532_456 := n20_; have NB475_532 := n21_; have NB532_475 := n22_; have NB481_532 := n23_; have NB532_481 := n24_; have NB487_532 := n25_; have NB532_487 := n26_; have NB494_532 := n27_; have NB532_494 := n28_; clear n0_ n1_ n2_ n3_ n4_ n5_ n6_ n7_ n8_ n9_ n10_ n11_ n12_ n13_ n14_ n15_ n16_ n17_ n18_ n19_ n20_ n21_ n22_ n23_ n24_ n25_ n26_ n27_ n28_ hb hbox hg
            refine hK.out _ _ ⟨(blk_cell BK455.out 0).trans rfl, (blk_cell BK455.out 1).trans rfl, (blk_cell BK455.out 2).trans rfl, (blk_cell BK456.out 0).trans rfl, (blk_cell BK456.out 1).trans rfl, (blk_cell BK456.out 2).trans rfl⟩ (fun hHeld => ?_)
            clear hK K
            refine norm_ (a' := ?_) ?_ ?_
            rotate_left
            ·show Act.put _ (some 15) _ = _
             simp only [Act.put, List.setIfInBounds_toArray, List.set_cons_zero, List.set_cons_succ, i64_w, i32_w]
             rfl
            exact norm_ sP_ (hCont (.slice Ao179 t518.length co179, .slice Ao180 t523.length co180, v529, gb532) _ ⟨hHeld, (by (with_reducible repeat (first | apply Kd.R_alloc | apply Kd.R_drewN | apply Kd.R_drew)); exact Kd.R_mono HO520.out (fun _ hk => ⟨hk.1.2, ⟨hk.2, ⟨hk.1.1.1.1.1.2, ⟨hk.1.1.1.1.2, ⟨hk.1.1.1.2, hk.1.1.2⟩⟩⟩⟩⟩)), (by (with_reducible repeat (first | apply Kd.R_alloc | apply Kd.R_drewN | apply Kd.R_drew)); exact Kd.R_mono HO525.out (fun _ hk => ⟨hk.1.2, ⟨hk.2, ⟨hk.1.1.1.1.1.2, ⟨hk.1.1.1.1.2, ⟨hk.1.1.1.2, hk.1.1.2⟩⟩⟩⟩⟩)), (by (with_reducible repeat (first | apply Kd.R_alloc | apply Kd.R_drewN | apply Kd.R_drew)); exact Kd.R_mono HO530.out (fun _ hk => ⟨hk.1.2, ⟨hk.2, ⟨hk.1.1.1.1.1.2, ⟨hk.1.1.1.1.2, ⟨hk.1.1.1.2, hk.1.1.2⟩⟩⟩⟩⟩)), (by (with_reducible repeat (first | apply Kd.R_alloc | apply Kd.R_drewN | apply Kd.R_drew)); exact Kd.R_mono HO_476002.out (fun _ hk => ⟨hk.1.1.2, ⟨hk.1.2, ⟨hk.2, ⟨hk.1.1.1.1, ⟨hk.1.1.1.2.1, hk.1.1.1.2.2⟩⟩⟩⟩⟩)), (by (with_reducible repeat (first | apply Kd.R_alloc | apply Kd.R_drewN | apply Kd.R_drew)); exact Kd.R_mono HO_482002.out (fun _ hk => ⟨hk.1.1.2, ⟨hk.1.2, ⟨hk.2, ⟨hk.1.1.1.1, ⟨hk.1.1.1.2.1, hk.1.1.1.2.2⟩⟩⟩⟩⟩)), (by (with_reducible repeat (first | apply Kd.R_alloc | apply Kd.R_drewN | apply Kd.R_drew)); exact Kd.R_mono HO_488002.out (fun _ hk => ⟨hk.1.1.2, ⟨hk.1.2, ⟨hk.2, ⟨hk.1.1.1.1, ⟨hk.1.1.1.2.1, hk.1.1.1.2.2⟩⟩⟩⟩⟩)), (by (with_reducible repeat (first | apply Kd.R_alloc | apply Kd.R_drewN | apply Kd.R_drew)); exact Kd.R_mono HO_495002.out (fun _ hk => ⟨hk.1.1.2, ⟨hk.1.2, ⟨hk.2, ⟨hk.1.1.1.1, ⟨hk.1.1.1.2.1, hk.1.1.1.2.2⟩⟩⟩⟩⟩)), (sB_ BK455.out), (sB_ BK456.out), (sB_ BK475.out), (sB_ BK481.out), (sB_ BK487.out), (sB_ BK494.out), (sB_ BK532.out), GW532.out, GE532.out, NB455_532.out, NB532_455.out, NB456_532.out, NB532_456.out, NB475_532.out, NB532_475.out, NB481_532.out, NB532_481.out, NB487_532.out, NB532_487.out, NB494_532.out, NB532_494.out, (sW_ HB.out)⟩)
           skip
           refine box_step ?hg (N := 15) ?hd (cs := #[.int .i64 0, .int .i64 0, .slice none 0 0]) (t := 27) ?hr ?_; (case hd => rfl); (case hg => rfl); (case hr => first | (go_simp; done) | (go_simp; rfl))
           intro gb532 hg w179 hbox hb
           have n0_ := Aside0.mk (Kd.R_below (sR_ HO_476002.out) hb)
           have n1_ := Aside0.mk (Kd.R_below (sR_ HO_482002.out) hb)
           have n2_ := Aside0.mk (Kd.R_below (sR_ HO_488002.out) hb)
           have n3_ := Aside0.mk (Kd.R_below (sR_ HO_495002.out) hb)
           have n4_ := Aside0.mk (Kd.R_below (sR_ HO520.out) hb)
           have n5_ := Aside0.mk (Kd.R_below (sR_ HO525.out) hb)
           have n6_ := Aside0.mk (blk_below (sB_ BK455.out) hb)
           have n7_ := Aside0.mk (blk_below (sB_ BK456.out) hb)
           have n8_ := Aside0.mk (blk_below (sB_ BK475.out) hb)
           have n9_ := Aside0.mk (blk_below (sB_ BK481.out) hb)
           have n10_ := Aside0.mk (blk_below (sB_ BK487.out) hb)
           have n11_ := Aside0.mk (blk_below (sB_ BK494.out) hb)
           have n12_ := Aside0.mk (below_step (sW_ HB.out) hb)
           have n13_ := Aside0.mk (hbox)
           have n14_ := Aside0.mk ((by rw [hg]; exact (below_size (sW_ HB.out)) : w.heap.size ≤ gb532))
           have n15_ := n14_
           have n16_ := Aside0.mk (sN_ hg (blk_lt (sB_ BK455.out)))
           have n17_ := Aside0.mk n16_.out.symm
           have n18_ := Aside0.mk (sN_ hg (blk_lt (sB_ BK456.out)))
           have n19_ := Aside0.mk n18_.out.symm
           have n20_ := Aside0.mk (sN_ hg (blk_lt (sB_ BK475.out)))
           have n21_ := Aside0.mk n20_.out.symm
           have n22_ := Aside0.mk (sN_ hg (blk_lt (sB_ BK481.out)))
           have n23_ := Aside0.mk n22_.out.symm
           have n24_ := Aside0.mk (sN_ hg (blk_lt (sB_ BK487.out)))
           have n25_ := Aside0.mk n24_.out.symm
           have n26_ := Aside0.mk (sN_ hg (blk_lt (sB_ BK494.out)))
           have n27_ := Aside0.mk n26_.out.symm
           clear HO_476002 HO_482002 HO_488002 HO_495002 HO520 HO525 BK455 BK456 BK475 BK481 BK487 BK494 HB; have HO_476002 := n0_; have HO_482002 := n1_; have HO_488002 := n2_; have HO_495002 := n3_; have HO520 := n4_; have HO525 := n5_; have BK455 := n6_; have BK456 := n7_; have BK475 := n8_; have BK481 := n9_; have BK487 := n10_; have BK494 := n11_; have HB := n12_; have BK532 := n13_; have GW532 := n14_; have GE532 := n15_; have NB455_532 := n16_; have NB532_455 := n17_; have NB456_532 := n18_; have NB532_456 := n19_; have NB475_532 := n20_; have NB532_475 := n21_; have NB481_532 := n22_; have NB532_481 := n23_; have NB487_532 := n24_; have NB532_487 := n25_; have NB494_532 := n26_; have NB532_494 := n27_; clear n0_ n1_ n2_ n3_ n4_ n5_ n6_ n7_ n8_ n9_ n10_ n11_ n12_ n13_ n14_ n15_ n16_ n17_ n18_ n19_ n20_ n21_ n22_ n23_ n24_ n25_ n26_ n27_ hb hbox hg
           obtain ⟨Ao180, co180, eo180⟩ := Kd.R_slice HO520.out
           (first | subst eo180 | (injection eo180 with f1_ f2_ f3_; have f4_ := f1_.symm; have f5_ := f3_.symm; clear f1_ f2_ f3_; subst f4_; subst f5_))
           obtain ⟨Ao181, co181, eo181⟩ := Kd.R_slice HO525.out
           (first | subst eo181 | (injection eo181 with f1_ f2_ f3_; have f4_ := f1_.symm; have f5_ := f3_.symm; clear f1_ f2_ f3_; subst f4_; subst f5_))
           refine hK.out _ _ ⟨(blk_cell BK455.out 0).trans rfl, (blk_cell BK455.out 1).trans rfl, (blk_cell BK455.out 2).trans rfl, (blk_cell BK456.out 0).trans rfl, (blk_cell BK456.out 1).trans rfl, (blk_cell BK456.out 2).trans rfl⟩ (fun hHeld => ?_)
           clear hK K
           refine norm_ (a' := ?_) ?_ ?_
           rotate_left
           ·show Act.put _ (some 15) _ = _
            simp only [Act.put, List.setIfInBounds_toArray, List.set_cons_zero, List.set_cons_succ, i64_w, i32_w]
            rfl
           refine one_ (i := 4) (N := some 99) #[true, true, true, true, true, false, false, false, true, false, false] rfl rfl (one_of HT_.out (by kernel_rfl)) (by decide) (fun K hK => ?_)
           refine goes_ Try.func21 (by kernel_rfl) rfl #[.agg #[.int .i64 t516, .int .i64 t517, .slice Ao180 t518.length co180], .agg #[.int .i64 t521, .int .i64 t522, .slice Ao181 t523.length co181]] (by rfl) rfl rfl sL_ ?_
           with_reducible refine (impl_AddPictures.calls t516 t517 _ _ t518 t521 t522 _ _ t523 t526 t527 t528 t531 _ ?side1 ?side2 ?side3 ?side4 A165.out).mono ?_
           (case side1 => repeat (first | exact (Kd.R_reads' HO520.out).2.2 | (with_reducible refine Kd.C_alloc ?_ _) | (with_reducible refine Kd.C_drewN ?_ _) | (with_reducible refine Kd.C_drew ?_)))
           (case side2 => exact (Kd.R_reads' HO520.out).2.1)
           (case side3 => repeat (first | exact (Kd.R_reads' HO525.out).2.2 | (with_reducible refine Kd.C_alloc ?_ _) | (with_reducible refine Kd.C_drewN ?_ _) | (with_reducible refine Kd.C_drew ?_)))
           (case side4 => exact (Kd.R_reads' HO525.out).2.1)
           rintro e w182 ⟨v529, rfl, ho0, hb⟩
           refine ⟨_, rfl, ?_⟩
           have n0_ := Aside0.mk (Kd.R_elder' (sR_ HO_476002.out) (Kd.R_base ho0) hb)
           have n1_ := Aside0.mk (Kd.R_elder' (sR_ HO_482002.out) (Kd.R_base ho0) hb)
           have n2_ := Aside0.mk (Kd.R_elder' (sR_ HO_488002.out) (Kd.R_base ho0) hb)
           have n3_ := Aside0.mk (Kd.R_elder' (sR_ HO_495002.out) (Kd.R_base ho0) hb)
           have n4_ := Aside0.mk (Kd.R_elder' (sR_ HO520.out) (Kd.R_base ho0) hb)
           have n5_ := Aside0.mk (Kd.R_elder' (sR_ HO525.out) (Kd.R_base ho0) hb)
           have n6_ := Aside0.mk (Kd.R_lower (Kd.R_new' (Kd.R_new' (Kd.R_new' (Kd.R_new' (Kd.R_new' (Kd.R_new' ho0 (Kd.R_lt (sR_ HO_476002.out))) (Kd.R_lt (sR_ HO_482002.out))) (Kd.R_lt (sR_ HO_488002.out))) (Kd.R_lt (sR_ HO_495002.out))) (Kd.R_lt (sR_ HO520.out))) (Kd.R_lt (sR_ HO525.out))) (below_size (sW_ HB.out)))
           have n7_ := Aside0.mk (blk_below (sB_ BK455.out) hb)
           have n8_ := Aside0.mk (blk_below (sB_ BK456.out) hb)
           have n9_ := Aside0.mk (blk_below (sB_ BK475.out) hb)
           have n10_ := Aside0.mk (blk_below (sB_ BK481.out) hb)
           have n11_ := Aside0.mk (blk_below (sB_ BK487.out) hb)
           have n12_ := Aside0.mk (blk_below (sB_ BK494.out) hb)
           have n13_ := Aside0.mk (blk_below (sB_ BK532.out) hb)
           have n14_ := Aside0.mk (below_step (sW_ HB.out) hb)
           clear HO_476002 HO_482002 HO_488002 HO_495002 HO520 HO525 BK455 BK456 BK475 BK481 BK487 BK494 BK532 HB; have HO_476002 := n0_; have HO_482002 := n1_; have HO_488002 := n2_; have HO_495002 := n3_; have HO520 := n4_; have HO525 := n5_; have HO530 := n6_; have BK455 := n7_; have BK456 := n8_; have BK475 := n9_; have BK481 := n10_; have BK487 := n11_; have BK494 := n12_; have BK532 := n13_; have HB := n14_; clear n0_ n1_ n2_ n3_ n4_ n5_ n6_ n7_ n8_ n9_ n10_ n11_ n12_ n13_ n14_
           (try clear hb)
           (try clear hb2)
           (try clear hk)
           (try clear hi)
           (try clear ho0)
           refine hK.out _ _ ⟨(blk_cell BK455.out 0).trans rfl, (blk_cell BK455.out 1).trans rfl, (blk_cell BK455.out 2).trans rfl, (blk_cell BK456.out 0).trans rfl, (blk_cell BK456.out 1).trans rfl, (blk_cell BK456.out 2).trans rfl⟩ (fun hHeld => ?_)
           clear hK K
           refine norm_ (a' := ?_) ?_ ?_
           rotate_left
           ·show Act.put _ (some 99) _ = _
            simp only [Act.put, List.setIfInBounds_toArray, List.set_cons_zero, List.set_cons_succ, i64_w, i32_w]
            rfl
           refine pure_ (i := 5) (N := some 94) (v := ?_) (a' := ?_) #[true, true, true, true, true, true, false, false, true, false, false] rfl rfl (any_of HT_.out (by kernel_rfl)) (fun _ _ _ h => h) (Or.inl ⟨by rfl, ?_⟩) ?_ ?_
           rotate_left
           ·intro w'
            go_simp
            with_reducible rfl
           rotate_left
           ·simp only [Act.put, List.setIfInBounds_toArray, List.set_cons_zero, List.set_cons_succ, i64_w, i32_w]
            rfl
           refine pure_ (i := 6) (N := some 100) (v := ?_) (a' := ?_) #[true, true, true, true, true, true, true, false, true, false, false] rfl rfl (any_of HT_.out (by kernel_rfl)) (fun _ _ _ h => h) (Or.inl ⟨by rfl, ?_⟩) ?_ ?_
           rotate_left
           ·intro w'
            go_simp
            with_reducible rfl
           rotate_left
           ·simp only [Act.put, List.setIfInBounds_toArray, List.set_cons_zero, List.set_cons_succ, i64_w, i32_w]
            rfl
           refine pure_ (i := 7) (N := some 101) (v := ?_) (a' := ?_) #[true, true, true, true, true, true, true, true, true, false, false] rfl rfl (any_of HT_.out (by kernel_rfl)) (fun _ _ _ h => h) (Or.inl ⟨by rfl, ?_⟩) ?_ ?_
           rotate_left
           ·intro w'
            go_simp
            with_reducible rfl
           rotate_left
           ·simp only [Act.put, List.setIfInBounds_toArray, List.set_cons_zero, List.set_cons_succ, i64_w, i32_w]
            rfl
           exact norm_ sP_ (hCont (.slice Ao180 t518.length co180, .slice Ao181 t523.length co181, v529, gb532) _ ⟨hHeld, (by (with_reducible repeat (first | apply Kd.R_alloc | apply Kd.R_drewN | apply Kd.R_drew)); exact Kd.R_mono HO520.out (fun _ hk => ⟨hk.1.2, ⟨hk.2, ⟨hk.1.1.1.1.1.2, ⟨hk.1.1.1.1.2, ⟨hk.1.1.1.2, hk.1.1.2⟩⟩⟩⟩⟩)), (by (with_reducible repeat (first | apply Kd.R_alloc | apply Kd.R_drewN | apply Kd.R_drew)); exact Kd.R_mono HO525.out (fun _ hk => ⟨hk.1.2, ⟨hk.2, ⟨hk.1.1.1.1.1.2, ⟨hk.1.1.1.1.2, ⟨hk.1.1.1.2, hk.1.1.2⟩⟩⟩⟩⟩)), (by (with_reducible repeat (first | apply Kd.R_alloc | apply Kd.R_drewN | apply Kd.R_drew)); exact Kd.R_mono HO530.out (fun _ hk => ⟨hk.1.2, ⟨hk.2, ⟨hk.1.1.1.1.1.2, ⟨hk.1.1.1.1.2, ⟨hk.1.1.1.2, hk.1.1.2⟩⟩⟩⟩⟩)), (by (with_reducible repeat (first | apply Kd.R_alloc | apply Kd.R_drewN | apply Kd.R_drew)); exact Kd.R_mono HO_476002.out (fun _ hk => ⟨hk.1.1.2, ⟨hk.1.2, ⟨hk.2, ⟨hk.1.1.1.1, ⟨hk.1.1.1.2.1, hk.1.1.1.2.2⟩⟩⟩⟩⟩)), (by (with_reducible repeat (first | apply Kd.R_alloc | apply Kd.R_drewN | apply Kd.R_drew)); exact Kd.R_mono HO_482002.out (fun _ hk => ⟨hk.1.1.2, ⟨hk.1.2, ⟨hk.2, ⟨hk.1.1.1.1, ⟨hk.1.1.1.2.1, hk.1.1.1.2.2⟩⟩⟩⟩⟩)), (by (with_reducible repeat (first | apply Kd.R_alloc | apply Kd.R_drewN | apply Kd.R_drew)); exact Kd.R_mono HO_488002.out (fun _ hk => ⟨hk.1.1.2, ⟨hk.1.2, ⟨hk.2, ⟨hk.1.1.1.1, ⟨hk.1.1.1.2.1, hk.1.1.1.2.2⟩⟩⟩⟩⟩)), (by (with_reducible repeat (first | apply Kd.R_alloc | apply Kd.R_drewN | apply Kd.R_drew)); exact Kd.R_mono HO_495002.out (fun _ hk => ⟨hk.1.1.2, ⟨hk.1.2, ⟨hk.2, ⟨hk.1.1.1.1, ⟨hk.1.1.1.2.1, hk.1.1.1.2.2⟩⟩⟩⟩⟩)), (sB_ BK455.out), (sB_ BK456.out), (sB_ BK475.out), (sB_ BK481.out), (sB_ BK487.out), (sB_ BK494.out), (sB_ BK532.out), GW532.out, GE532.out, NB455_532.out, NB532_455.out, NB456_532.out, NB532_456.out, NB475_532.out, NB532_475.out, NB481_532.out, NB532_481.out, NB487_532.out, NB532_487.out, NB494_532.out, NB532_494.out, (sW_ HB.out)⟩)
          skip
          refine box_step ?hg (N := 15) ?hd (cs := #[.int .i64 0, .int .i64 0, .slice none 0 0]) (t := 27) ?hr ?_; (case hd => rfl); (case hg => rfl); (case hr => first | (go_simp; done) | (go_simp; rfl))
          intro gb532 hg w178 hbox hb
          have n0_ := Aside0.mk (Kd.R_below (sR_ HO_476002.out) hb)
          have n1_ := Aside0.mk (Kd.R_below (sR_ HO_482002.out) hb)
          have n2_ := Aside0.mk (Kd.R_below (sR_ HO_488002.out) hb)
          have n3_ := Aside0.mk (Kd.R_below (sR_ HO_495002.out) hb)
          have n4_ := Aside0.mk (Kd.R_below (sR_ HO520.out) hb)
          have n5_ := Aside0.mk (blk_below (sB_ BK455.out) hb)
          have n6_ := Aside0.mk (blk_below (sB_ BK456.out) hb)
          have n7_ := Aside0.mk (blk_below (sB_ BK475.out) hb)
          have n8_ := Aside0.mk (blk_below (sB_ BK481.out) hb)
          have n9_ := Aside0.mk (blk_below (sB_ BK487.out) hb)
          have n10_ := Aside0.mk (blk_below (sB_ BK494.out) hb)
          have n11_ := Aside0.mk (below_step (sW_ HB.out) hb)
          have n12_ := Aside0.mk (hbox)
          have n13_ := Aside0.mk ((by rw [hg]; exact (below_size (sW_ HB.out)) : w.heap.size ≤ gb532))
          have n14_ := n13_
          have n15_ := Aside0.mk (sN_ hg (blk_lt (sB_ BK455.out)))
          have n16_ := Aside0.mk n15_.out.symm
          have n17_ := Aside0.mk (sN_ hg (blk_lt (sB_ BK456.out)))
          have n18_ := Aside0.mk n17_.out.symm
          have n19_ := Aside0.mk (sN_ hg (blk_lt (sB_ BK475.out)))
          have n20_ := Aside0.mk n19_.out.symm
          have n21_ := Aside0.mk (sN_ hg (blk_lt (sB_ BK481.out)))
          have n22_ := Aside0.mk n21_.out.symm
          have n23_ := Aside0.mk (sN_ hg (blk_lt (sB_ BK487.out)))
          have n24_ := Aside0.mk n23_.out.symm
          have n25_ := Aside0.mk (sN_ hg (blk_lt (sB_ BK494.out)))
          have n26_ := Aside0.mk n25_.out.symm
          clear HO_476002 HO_482002 HO_488002 HO_495002 HO520 BK455 BK456 BK475 BK481 BK487 BK494 HB; have HO_476002 := n0_; have HO_482002 := n1_; have HO_488002 := n2_; have HO_495002 := n3_; have HO520 := n4_; have BK455 := n5_; have BK456 := n6_; have BK475 := n7_; have BK481 := n8_; have BK487 := n9_; have BK494 := n10_; have HB := n11_; have BK532 := n12_; have GW532 := n13_; have GE532 := n14_; have NB455_532 := n15_; have NB532_455 := n16_; have NB456_532 := n17_; have NB532_456 := n18_; have NB475_532 := n19_; have NB532_475 := n20_; have NB481_532 := n21_; have NB532_481 := n22_; have NB487_532 := n23_; have NB532_487 := n24_; have NB494_532 := n25_; have NB532_494 := n26_; clear n0_ n1_ n2_ n3_ n4_ n5_ n6_ n7_ n8_ n9_ n10_ n11_ n12_ n13_ n14_ n15_ n16_ n17_ n18_ n19_ n20_ n21_ n22_ n23_ n24_ n25_ n26_ hb hbox hg
          refine hK.out _ _ ⟨(blk_cell BK455.out 0).trans rfl, (blk_cell BK455.out 1).trans rfl, (blk_cell BK455.out 2).trans rfl, (blk_cell BK456.out 0).trans rfl, (blk_cell BK456.out 1).trans rfl, (blk_cell BK456.out 2).trans rfl⟩ (fun hHeld => ?_)
          clear hK K
          refine norm_ (a' := ?_) ?_ ?_
          rotate_left
          ·show Act.put _ (some 15) _ = _
           simp only [Act.put, List.setIfInBounds_toArray, List.set_cons_zero, List.set_cons_succ, i64_w, i32_w]
           rfl
          refine one_ (i := 3) (N := some 98) #[true, true, true, true, false, false, false, false, true, false, false] rfl rfl (one_of HT_.out (by kernel_rfl)) (by decide) (fun K hK => ?_)
          refine goes_ Try.func20 (by kernel_rfl) rfl #[.agg #[.int .i64 a1_0, .int .i64 a1_1, .slice A1_2 l1_2.length c1_2]] (by rfl) rfl rfl sL_ ?_
          with_reducible refine (laws_toPicture.calls kj108 a1_0 a1_1 _ _ l1_2 t521 t522 t523 _ ?side1 ?side2 A164.out).mono ?_
          (case side1 => repeat (first | exact (Kd.C_below HR1_2.out HB.out) | (with_reducible refine Kd.C_alloc ?_ _) | (with_reducible refine Kd.C_drewN ?_ _) | (with_reducible refine Kd.C_drew ?_)))
          (case side2 => exact HC1_2.out)
          rintro e w179 ⟨v524, rfl, ho0, hb⟩
          refine ⟨_, rfl, ?_⟩
          have n0_ := Aside0.mk (Kd.R_elder' (sR_ HO_476002.out) (Kd.R_base ho0) hb)
          have n1_ := Aside0.mk (Kd.R_elder' (sR_ HO_482002.out) (Kd.R_base ho0) hb)
          have n2_ := Aside0.mk (Kd.R_elder' (sR_ HO_488002.out) (Kd.R_base ho0) hb)
          have n3_ := Aside0.mk (Kd.R_elder' (sR_ HO_495002.out) (Kd.R_base ho0) hb)
          have n4_ := Aside0.mk (Kd.R_elder' (sR_ HO520.out) (Kd.R_base ho0) hb)
          have n5_ := Aside0.mk (Kd.R_lower (Kd.R_new' (Kd.R_new' (Kd.R_new' (Kd.R_new' (Kd.R_new' ho0 (Kd.R_lt (sR_ HO_476002.out))) (Kd.R_lt (sR_ HO_482002.out))) (Kd.R_lt (sR_ HO_488002.out))) (Kd.R_lt (sR_ HO_495002.out))) (Kd.R_lt (sR_ HO520.out))) (below_size (sW_ HB.out)))
          have n6_ := Aside0.mk (blk_below (sB_ BK455.out) hb)
          have n7_ := Aside0.mk (blk_below (sB_ BK456.out) hb)
          have n8_ := Aside0.mk (blk_below (sB_ BK475.out) hb)
          have n9_ := Aside0.mk (blk_below (sB_ BK481.out) hb)
          have n10_ := Aside0.mk (blk_below (sB_ BK487.out) hb)
          have n11_ := Aside0.mk (blk_below (sB_ BK494.out) hb)
          have n12_ := Aside0.mk (blk_below (sB_ BK532.out) hb)
          have n13_ := Aside0.mk (below_step (sW_ HB.out) hb)
          clear HO_476002 HO_482002 HO_488002 HO_495002 HO520 BK455 BK456 BK475 BK481 BK487 BK494 BK532 HB; have HO_476002 := n0_; have HO_482002 := n1_; have HO_488002 := n2_; have HO_495002 := n3_; have HO520 := n4_; have HO525 := n5_; have BK455 := n6_; have BK456 := n7_; have BK475 := n8_; have BK481 := n9_; have BK487 := n10_; have BK494 := n11_; have BK532 := n12_; have HB := n13_; clear n0_ n1_ n2_ n3_ n4_ n5_ n6_ n7_ n8_ n9_ n10_ n11_ n12_ n13_
          (try clear hb)
          (try clear hb2)
          (try clear hk)
          (try clear hi)
          (try clear ho0)
          obtain ⟨Ao180, co180, eo180⟩ := Kd.R_slice HO520.out
          (first | subst eo180 | (injection eo180 with f1_ f2_ f3_; have f4_ := f1_.symm; have f5_ := f3_.symm; clear f1_ f2_ f3_; subst f4_; subst f5_))
          obtain ⟨Ao181, co181, eo181⟩ := Kd.R_slice HO525.out
          (first | subst eo181 | (injection eo181 with f1_ f2_ f3_; have f4_ := f1_.symm; have f5_ := f3_.symm; clear f1_ f2_ f3_; subst f4_; subst f5_))
          refine hK.out _ _ ⟨(blk_cell BK455.out 0).trans rfl, (blk_cell BK455.out 1).trans rfl, (blk_cell BK455.out 2).trans rfl, (blk_cell BK456.out 0).trans rfl, (blk_cell BK456.out 1).trans rfl, (blk_cell BK456.out 2).trans rfl⟩ (fun hHeld => ?_)
          clear hK K
          refine norm_ (a' := ?_) ?_ ?_
          rotate_left
          ·show Act.put _ (some 98) _ = _
           simp only [Act.put, List.setIfInBounds_toArray, List.set_cons_zero, List.set_cons_succ, i64_w, i32_w]
           rfl
          refine one_ (i := 4) (N := some 99) #[true, true, true, true, true, false, false, false, true, false, false] rfl rfl (one_of HT_.out (by kernel_rfl)) (by decide) (fun K hK => ?_)
          refine goes_ Try.func21 (by kernel_rfl) rfl #[.agg #[.int .i64 t516, .int .i64 t517, .slice Ao180 t518.length co180], .agg #[.int .i64 t521, .int .i64 t522, .slice Ao181 t523.length co181]] (by rfl) rfl rfl sL_ ?_
          with_reducible refine (impl_AddPictures.calls t516 t517 _ _ t518 t521 t522 _ _ t523 t526 t527 t528 t531 _ ?side1 ?side2 ?side3 ?side4 A165.out).mono ?_
          (case side1 => repeat (first | exact (Kd.R_reads' HO520.out).2.2 | (with_reducible refine Kd.C_alloc ?_ _) | (with_reducible refine Kd.C_drewN ?_ _) | (with_reducible refine Kd.C_drew ?_)))
          (case side2 => exact (Kd.R_reads' HO520.out).2.1)
          (case side3 => repeat (first | exact (Kd.R_reads' HO525.out).2.2 | (with_reducible refine Kd.C_alloc ?_ _) | (with_reducible refine Kd.C_drewN ?_ _) | (with_reducible refine Kd.C_drew ?_)))
          (case side4 => exact (Kd.R_reads' HO525.out).2.1)
          rintro e w182 ⟨v529, rfl, ho0, hb⟩
          refine ⟨_, rfl, ?_⟩
          have n0_ := Aside0.mk (Kd.R_elder' (sR_ HO_476002.out) (Kd.R_base ho0) hb)
          have n1_ := Aside0.mk (Kd.R_elder' (sR_ HO_482002.out) (Kd.R_base ho0) hb)
          have n2_ := Aside0.mk (Kd.R_elder' (sR_ HO_488002.out) (Kd.R_base ho0) hb)
          have n3_ := Aside0.mk (Kd.R_elder' (sR_ HO_495002.out) (Kd.R_base ho0) hb)
          have n4_ := Aside0.mk (Kd.R_elder' (sR_ HO520.out) (Kd.R_base ho0) hb)
          have n5_ := Aside0.mk (Kd.R_elder' (sR_ HO525.out) (Kd.R_base ho0) hb)
          have n6_ := Aside0.mk (Kd.R_lower (Kd.R_new' (Kd.R_new' (Kd.R_new' (Kd.R_new' (Kd.R_new' (Kd.R_new' ho0 (Kd.R_lt (sR_ HO_476002.out))) (Kd.R_lt (sR_ HO_482002.out))) (Kd.R_lt (sR_ HO_488002.out))) (Kd.R_lt (sR_ HO_495002.out))) (Kd.R_lt (sR_ HO520.out))) (Kd.R_lt (sR_ HO525.out))) (below_size (sW_ HB.out)))
          have n7_ := Aside0.mk (blk_below (sB_ BK455.out) hb)
          have n8_ := Aside0.mk (blk_below (sB_ BK456.out) hb)
          have n9_ := Aside0.mk (blk_below (sB_ BK475.out) hb)
          have n10_ := Aside0.mk (blk_below (sB_ BK481.out) hb)
          have n11_ := Aside0.mk (blk_below (sB_ BK487.out) hb)
          have n12_ := Aside0.mk (blk_below (sB_ BK494.out) hb)
          have n13_ := Aside0.mk (blk_below (sB_ BK532.out) hb)
          have n14_ := Aside0.mk (below_step (sW_ HB.out) hb)
          clear HO_476002 HO_482002 HO_488002 HO_495002 HO520 HO525 BK455 BK456 BK475 BK481 BK487 BK494 BK532 HB; have HO_476002 := n0_; have HO_482002 := n1_; have HO_488002 := n2_; have HO_495002 := n3_; have HO520 := n4_; have HO525 := n5_; have HO530 := n6_; have BK455 := n7_; have BK456 := n8_; have BK475 := n9_; have BK481 := n10_; have BK487 := n11_; have BK494 := n12_; have BK532 := n13_; have HB := n14_; clear n0_ n1_ n2_ n3_ n4_ n5_ n6_ n7_ n8_ n9_ n10_ n11_ n12_ n13_ n14_
          (try clear hb)
          (try clear hb2)
          (try clear hk)
          (try clear hi)
          (try clear ho0)
          refine hK.out _ _ ⟨(blk_cell BK455.out 0).trans rfl, (blk_cell BK455.out 1).trans rfl, (blk_cell BK455.out 2).trans rfl, (blk_cell BK456.out 0).trans rfl, (blk_cell BK456.out 1).trans rfl, (blk_cell BK456.out 2).trans rfl⟩ (fun hHeld => ?_)
          clear hK K
          refine norm_ (a' := ?_) ?_ ?_
          rotate_left
          ·show Act.put _ (some 99) _ = _
           simp only [Act.put, List.setIfInBounds_toArray, List.set_cons_zero, List.set_cons_succ, i64_w, i32_w]
           rfl
          refine pure_ (i := 5) (N := some 94) (v := ?_) (a' := ?_) #[true, true, true, true, true, true, false, false, true, false, false] rfl rfl (any_of HT_.out (by kernel_rfl)) (fun _ _ _ h => h) (Or.inl ⟨by rfl, ?_⟩) ?_ ?_
          rotate_left
          ·intro w'
           go_simp
           with_reducible rfl
          rotate_left
          ·simp only [Act.put, List.setIfInBounds_toArray, List.set_cons_zero, List.set_cons_succ, i64_w, i32_w]
           rfl
          refine pure_ (i := 6) (N := some 100) (v := ?_) (a' := ?_) #[true, true, true, true, true, true, true, false, true, false, false] rfl rfl (any_of HT_.out (by kernel_rfl)) (fun _ _ _ h => h) (Or.inl ⟨by rfl, ?_⟩) ?_ ?_
          rotate_left
          ·intro w'
           go_simp
           with_reducible rfl
          rotate_left
          ·simp only [Act.put, List.setIfInBounds_toArray, List.set_cons_zero, List.set_cons_succ, i64_w, i32_w]
           rfl
          refine pure_ (i := 7) (N := some 101) (v := ?_) (a' := ?_) #[true, true, true, true, true, true, true, true, true, false, false] rfl rfl (any_of HT_.out (by kernel_rfl)) (fun _ _ _ h => h) (Or.inl ⟨by rfl, ?_⟩) ?_ ?_
          rotate_left
          ·intro w'
           go_simp
           with_reducible rfl
          rotate_left
          ·simp only [Act.put, List.setIfInBounds_toArray, List.set_cons_zero, List.set_cons_succ, i64_w, i32_w]
           rfl
          exact norm_ sP_ (hCont (.slice Ao180 t518.length co180, .slice Ao181 t523.length co181, v529, gb532) _ ⟨hHeld, (by (with_reducible repeat (first | apply Kd.R_alloc | apply Kd.R_drewN | apply Kd.R_drew)); exact Kd.R_mono HO520.out (fun _ hk => ⟨hk.1.2, ⟨hk.2, ⟨hk.1.1.1.1.1.2, ⟨hk.1.1.1.1.2, ⟨hk.1.1.1.2, hk.1.1.2⟩⟩⟩⟩⟩)), (by (with_reducible repeat (first | apply Kd.R_alloc | apply Kd.R_drewN | apply Kd.R_drew)); exact Kd.R_mono HO525.out (fun _ hk => ⟨hk.1.2, ⟨hk.2, ⟨hk.1.1.1.1.1.2, ⟨hk.1.1.1.1.2, ⟨hk.1.1.1.2, hk.1.1.2⟩⟩⟩⟩⟩)), (by (with_reducible repeat (first | apply Kd.R_alloc | apply Kd.R_drewN | apply Kd.R_drew)); exact Kd.R_mono HO530.out (fun _ hk => ⟨hk.1.2, ⟨hk.2, ⟨hk.1.1.1.1.1.2, ⟨hk.1.1.1.1.2, ⟨hk.1.1.1.2, hk.1.1.2⟩⟩⟩⟩⟩)), (by (with_reducible repeat (first | apply Kd.R_alloc | apply Kd.R_drewN | apply Kd.R_drew)); exact Kd.R_mono HO_476002.out (fun _ hk => ⟨hk.1.1.2, ⟨hk.1.2, ⟨hk.2, ⟨hk.1.1.1.1, ⟨hk.1.1.1.2.1, hk.1.1.1.2.2⟩⟩⟩⟩⟩)), (by (with_reducible repeat (first | apply Kd.R_alloc | apply Kd.R_drewN | apply Kd.R_drew)); exact Kd.R_mono HO_482002.out (fun _ hk => ⟨hk.1.1.2, ⟨hk.1.2, ⟨hk.2, ⟨hk.1.1.1.1, ⟨hk.1.1.1.2.1, hk.1.1.1.2.2⟩⟩⟩⟩⟩)), (by (with_reducible repeat (first | apply Kd.R_alloc | apply Kd.R_drewN | apply Kd.R_drew)); exact Kd.R_mono HO_488002.out (fun _ hk => ⟨hk.1.1.2, ⟨hk.1.2, ⟨hk.2, ⟨hk.1.1.1.1, ⟨hk.1.1.1.2.1, hk.1.1.1.2.2⟩⟩⟩⟩⟩)), (by (with_reducible repeat (first | apply Kd.R_alloc | apply Kd.R_drewN | apply Kd.R_drew)); exact Kd.R_mono HO_495002.out (fun _ hk => ⟨hk.1.1.2, ⟨hk.1.2, ⟨hk.2, ⟨hk.1.1.1.1, ⟨hk.1.1.1.2.1, hk.1.1.1.2.2⟩⟩⟩⟩⟩)), (sB_ BK455.out), (sB_ BK456.out), (sB_ BK475.out), (sB_ BK481.out), (sB_ BK487.out), (sB_ BK494.out), (sB_ BK532.out), GW532.out, GE532.out, NB455_532.out, NB532_455.out, NB456_532.out, NB532_456.out, NB475_532.out, NB532_475.out, NB481_532.out, NB532_481.out, NB487_532.out, NB532_487.out, NB494_532.out, NB532_494.out, (sW_ HB.out)⟩)
         skip
         refine box_step ?hg (N := 15) ?hd (cs := #[.int .i64 0, .int .i64 0, .slice none 0 0]) (t := 27) ?hr ?_; (case hd => rfl); (case hg => rfl); (case hr => first | (go_simp; done) | (go_simp; rfl))
         intro gb532 hg w177 hbox hb
         have n0_ := Aside0.mk (Kd.R_below (sR_ HO_476002.out) hb)
         have n1_ := Aside0.mk (Kd.R_below (sR_ HO_482002.out) hb)
         have n2_ := Aside0.mk (Kd.R_below (sR_ HO_488002.out) hb)
         have n3_ := Aside0.mk (Kd.R_below (sR_ HO_495002.out) hb)
         have n4_ := Aside0.mk (blk_below (sB_ BK455.out) hb)
         have n5_ := Aside0.mk (blk_below (sB_ BK456.out) hb)
         have n6_ := Aside0.mk (blk_below (sB_ BK475.out) hb)
         have n7_ := Aside0.mk (blk_below (sB_ BK481.out) hb)
         have n8_ := Aside0.mk (blk_below (sB_ BK487.out) hb)
         have n9_ := Aside0.mk (blk_below (sB_ BK494.out) hb)
         have n10_ := Aside0.mk (below_step (sW_ HB.out) hb)
         have n11_ := Aside0.mk (hbox)
         have n12_ := Aside0.mk ((by rw [hg]; exact (below_size (sW_ HB.out)) : w.heap.size ≤ gb532))
         have n13_ := n12_
         have n14_ := Aside0.mk (sN_ hg (blk_lt (sB_ BK455.out)))
         have n15_ := Aside0.mk n14_.out.symm
         have n16_ := Aside0.mk (sN_ hg (blk_lt (sB_ BK456.out)))
         have n17_ := Aside0.mk n16_.out.symm
         have n18_ := Aside0.mk (sN_ hg (blk_lt (sB_ BK475.out)))
         have n19_ := Aside0.mk n18_.out.symm
         have n20_ := Aside0.mk (sN_ hg (blk_lt (sB_ BK481.out)))
         have n21_ := Aside0.mk n20_.out.symm
         have n22_ := Aside0.mk (sN_ hg (blk_lt (sB_ BK487.out)))
         have n23_ := Aside0.mk n22_.out.symm
         have n24_ := Aside0.mk (sN_ hg (blk_lt (sB_ BK494.out)))
         have n25_ := Aside0.mk n24_.out.symm
         clear HO_476002 HO_482002 HO_488002 HO_495002 BK455 BK456 BK475 BK481 BK487 BK494 HB; have HO_476002 := n0_; have HO_482002 := n1_; have HO_488002 := n2_; have HO_495002 := n3_; have BK455 := n4_; have BK456 := n5_; have BK475 := n6_; have BK481 := n7_; have BK487 := n8_; have BK494 := n9_; have HB := n10_; have BK532 := n11_; have GW532 := n12_; have GE532 := n13_; have NB455_532 := n14_; have NB532_455 := n15_; have NB456_532 := n16_; have NB532_456 := n17_; have NB475_532 := n18_; have NB532_475 := n19_; have NB481_532 := n20_; have NB532_481 := n21_; have NB487_532 := n22_; have NB532_487 := n23_; have NB494_532 := n24_; have NB532_494 := n25_; clear n0_ n1_ n2_ n3_ n4_ n5_ n6_ n7_ n8_ n9_ n10_ n11_ n12_ n13_ n14_ n15_ n16_ n17_ n18_ n19_ n20_ n21_ n22_ n23_ n24_ n25_ hb hbox hg
         refine hK.out _ _ ⟨(blk_cell BK455.out 0).trans rfl, (blk_cell BK455.out 1).trans rfl, (blk_cell BK455.out 2).trans rfl, (blk_cell BK456.out 0).trans rfl, (blk_cell BK456.out 1).trans rfl, (blk_cell BK456.out 2).trans rfl⟩ (fun hHeld => ?_)
         clear hK K
         refine norm_ (a' := ?_) ?_ ?_
         rotate_left
         ·show Act.put _ (some 15) _ = _
          simp only [Act.put, List.setIfInBounds_toArray, List.set_cons_zero, List.set_cons_succ, i64_w, i32_w]
          rfl
         refine one_ (i := 1) (N := some 96) #[true, true, true, false, false, false, false, false, true, false, false] rfl rfl (one_of HT_.out (by kernel_rfl)) (by decide) (fun K hK => ?_)
         refine goes_ Try.func20 (by kernel_rfl) rfl #[.agg #[.int .i64 a0_0, .int .i64 a0_1, .slice A0_2 l0_2.length c0_2]] (by rfl) rfl rfl sL_ ?_
         with_reducible refine (laws_toPicture.calls kj108 a0_0 a0_1 _ _ l0_2 t516 t517 t518 _ ?side1 ?side2 A163.out).mono ?_
         (case side1 => repeat (first | exact (Kd.C_below HR0_2.out HB.out) | (with_reducible refine Kd.C_alloc ?_ _) | (with_reducible refine Kd.C_drewN ?_ _) | (with_reducible refine Kd.C_drew ?_)))
         (case side2 => exact HC0_2.out)
         rintro e w178 ⟨v519, rfl, ho0, hb⟩
         refine ⟨_, rfl, ?_⟩
         have n0_ := Aside0.mk (Kd.R_elder' (sR_ HO_476002.out) (Kd.R_base ho0) hb)
         have n1_ := Aside0.mk (Kd.R_elder' (sR_ HO_482002.out) (Kd.R_base ho0) hb)
         have n2_ := Aside0.mk (Kd.R_elder' (sR_ HO_488002.out) (Kd.R_base ho0) hb)
         have n3_ := Aside0.mk (Kd.R_elder' (sR_ HO_495002.out) (Kd.R_base ho0) hb)
         have n4_ := Aside0.mk (Kd.R_lower (Kd.R_new' (Kd.R_new' (Kd.R_new' (Kd.R_new' ho0 (Kd.R_lt (sR_ HO_476002.out))) (Kd.R_lt (sR_ HO_482002.out))) (Kd.R_lt (sR_ HO_488002.out))) (Kd.R_lt (sR_ HO_495002.out))) (below_size (sW_ HB.out)))
         have n5_ := Aside0.mk (blk_below (sB_ BK455.out) hb)
         have n6_ := Aside0.mk (blk_below (sB_ BK456.out) hb)
         have n7_ := Aside0.mk (blk_below (sB_ BK475.out) hb)
         have n8_ := Aside0.mk (blk_below (sB_ BK481.out) hb)
         have n9_ := Aside0.mk (blk_below (sB_ BK487.out) hb)
         have n10_ := Aside0.mk (blk_below (sB_ BK494.out) hb)
         have n11_ := Aside0.mk (blk_below (sB_ BK532.out) hb)
         have n12_ := Aside0.mk (below_step (sW_ HB.out) hb)
         clear HO_476002 HO_482002 HO_488002 HO_495002 BK455 BK456 BK475 BK481 BK487 BK494 BK532 HB; have HO_476002 := n0_; have HO_482002 := n1_; have HO_488002 := n2_; have HO_495002 := n3_; have HO520 := n4_; have BK455 := n5_; have BK456 := n6_; have BK475 := n7_; have BK481 := n8_; have BK487 := n9_; have BK494 := n10_; have BK532 := n11_; have HB := n12_; clear n0_ n1_ n2_ n3_ n4_ n5_ n6_ n7_ n8_ n9_ n10_ n11_ n12_
         (try clear hb)
         (try clear hb2)
         (try clear hk)
         (try clear hi)
         (try clear ho0)
         refine hK.out _ _ ⟨(blk_cell BK455.out 0).trans rfl, (blk_cell BK455.out 1).trans rfl, (blk_cell BK455.out 2).trans rfl, (blk_cell BK456.out 0).trans rfl, (blk_cell BK456.out 1).trans rfl, (blk_cell BK456.out 2).trans rfl⟩ (fun hHeld => ?_)
         clear hK K
         refine norm_ (a' := ?_) ?_ ?_
         rotate_left
         ·show Act.put _ (some 96) _ = _
          simp only [Act.put, List.setIfInBounds_toArray, List.set_cons_zero, List.set_cons_succ, i64_w, i32_w]
          rfl
         refine one_ (i := 3) (N := some 98) #[true, true, true, true, false, false, false, false, true, false, false] rfl rfl (one_of HT_.out (by kernel_rfl)) (by decide) (fun K hK => ?_)
         refine goes_ Try.func20 (by kernel_rfl) rfl #[.agg #[.int .i64 a1_0, .int .i64 a1_1, .slice A1_2 l1_2.length c1_2]] (by rfl) rfl rfl sL_ ?_
         with_reducible refine (laws_toPicture.calls kj108 a1_0 a1_1 _ _ l1_2 t521 t522 t523 _ ?side1 ?side2 A164.out).mono ?_
         (case side1 => repeat (first | exact (Kd.C_below HR1_2.out HB.out) | (with_reducible refine Kd.C_alloc ?_ _) | (with_reducible refine Kd.C_drewN ?_ _) | (with_reducible refine Kd.C_drew ?_)))
         (case side2 => exact HC1_2.out)
         rintro e w179 ⟨v524, rfl, ho0, hb⟩
         refine ⟨_, rfl, ?_⟩
         have n0_ := Aside0.mk (Kd.R_elder' (sR_ HO_476002.out) (Kd.R_base ho0) hb)
         have n1_ := Aside0.mk (Kd.R_elder' (sR_ HO_482002.out) (Kd.R_base ho0) hb)
         have n2_ := Aside0.mk (Kd.R_elder' (sR_ HO_488002.out) (Kd.R_base ho0) hb)
         have n3_ := Aside0.mk (Kd.R_elder' (sR_ HO_495002.out) (Kd.R_base ho0) hb)
         have n4_ := Aside0.mk (Kd.R_elder' (sR_ HO520.out) (Kd.R_base ho0) hb)
         have n5_ := Aside0.mk (Kd.R_lower (Kd.R_new' (Kd.R_new' (Kd.R_new' (Kd.R_new' (Kd.R_new' ho0 (Kd.R_lt (sR_ HO_476002.out))) (Kd.R_lt (sR_ HO_482002.out))) (Kd.R_lt (sR_ HO_488002.out))) (Kd.R_lt (sR_ HO_495002.out))) (Kd.R_lt (sR_ HO520.out))) (below_size (sW_ HB.out)))
         have n6_ := Aside0.mk (blk_below (sB_ BK455.out) hb)
         have n7_ := Aside0.mk (blk_below (sB_ BK456.out) hb)
         have n8_ := Aside0.mk (blk_below (sB_ BK475.out) hb)
         have n9_ := Aside0.mk (blk_below (sB_ BK481.out) hb)
         have n10_ := Aside0.mk (blk_below (sB_ BK487.out) hb)
         have n11_ := Aside0.mk (blk_below (sB_ BK494.out) hb)
         have n12_ := Aside0.mk (blk_below (sB_ BK532.out) hb)
         have n13_ := Aside0.mk (below_step (sW_ HB.out) hb)
         clear HO_476002 HO_482002 HO_488002 HO_495002 HO520 BK455 BK456 BK475 BK481 BK487 BK494 BK532 HB; have HO_476002 := n0_; have HO_482002 := n1_; have HO_488002 := n2_; have HO_495002 := n3_; have HO520 := n4_; have HO525 := n5_; have BK455 := n6_; have BK456 := n7_; have BK475 := n8_; have BK481 := n9_; have BK487 := n10_; have BK494 := n11_; have BK532 := n12_; have HB := n13_; clear n0_ n1_ n2_ n3_ n4_ n5_ n6_ n7_ n8_ n9_ n10_ n11_ n12_ n13_
         (try clear hb)
         (try clear hb2)
         (try clear hk)
         (try clear hi)
         (try clear ho0)
         obtain ⟨Ao180, co180, eo180⟩ := Kd.R_slice HO520.out
         (first | subst eo180 | (injection eo180 with f1_ f2_ f3_; have f4_ := f1_.symm; have f5_ := f3_.symm; clear f1_ f2_ f3_; subst f4_; subst f5_))
         obtain ⟨Ao181, co181, eo181⟩ := Kd.R_slice HO525.out
         (first | subst eo181 | (injection eo181 with f1_ f2_ f3_; have f4_ := f1_.symm; have f5_ := f3_.symm; clear f1_ f2_ f3_; subst f4_; subst f5_))
         refine hK.out _ _ ⟨(blk_cell BK455.out 0).trans rfl, (blk_cell BK455.out 1).trans rfl, (blk_cell BK455.out 2).trans rfl, (blk_cell BK456.out 0).trans rfl, (blk_cell BK456.out 1).trans rfl, (blk_cell BK456.out 2).trans rfl⟩ (fun hHeld => ?_)
         clear hK K
         refine norm_ (a' := ?_) ?_ ?_
         rotate_left
         ·show Act.put _ (some 98) _ = _
          simp only [Act.put, List.setIfInBounds_toArray, List.set_cons_zero, List.set_cons_succ, i64_w, i32_w]
          rfl
         refine one_ (i := 4) (N := some 99) #[true, true, true, true, true, false, false, false, true, false, false] rfl rfl (one_of HT_.out (by kernel_rfl)) (by decide) (fun K hK => ?_)
         refine goes_ Try.func21 (by kernel_rfl) rfl #[.agg #[.int .i64 t516, .int .i64 t517, .slice Ao180 t518.length co180], .agg #[.int .i64 t521, .int .i64 t522, .slice Ao181 t523.length co181]] (by rfl) rfl rfl sL_ ?_
         with_reducible refine (impl_AddPictures.calls t516 t517 _ _ t518 t521 t522 _ _ t523 t526 t527 t528 t531 _ ?side1 ?side2 ?side3 ?side4 A165.out).mono ?_
         (case side1 => repeat (first | exact (Kd.R_reads' HO520.out).2.2 | (with_reducible refine Kd.C_alloc ?_ _) | (with_reducible refine Kd.C_drewN ?_ _) | (with_reducible refine Kd.C_drew ?_)))
         (case side2 => exact (Kd.R_reads' HO520.out).2.1)
         (case side3 => repeat (first | exact (Kd.R_reads' HO525.out).2.2 | (with_reducible refine Kd.C_alloc ?_ _) | (with_reducible refine Kd.C_drewN ?_ _) | (with_reducible refine Kd.C_drew ?_)))
         (case side4 => exact (Kd.R_reads' HO525.out).2.1)
         rintro e w182 ⟨v529, rfl, ho0, hb⟩
         refine ⟨_, rfl, ?_⟩
         have n0_ := Aside0.mk (Kd.R_elder' (sR_ HO_476002.out) (Kd.R_base ho0) hb)
         have n1_ := Aside0.mk (Kd.R_elder' (sR_ HO_482002.out) (Kd.R_base ho0) hb)
         have n2_ := Aside0.mk (Kd.R_elder' (sR_ HO_488002.out) (Kd.R_base ho0) hb)
         have n3_ := Aside0.mk (Kd.R_elder' (sR_ HO_495002.out) (Kd.R_base ho0) hb)
         have n4_ := Aside0.mk (Kd.R_elder' (sR_ HO520.out) (Kd.R_base ho0) hb)
         have n5_ := Aside0.mk (Kd.R_elder' (sR_ HO525.out) (Kd.R_base ho0) hb)
         have n6_ := Aside0.mk (Kd.R_lower (Kd.R_new' (Kd.R_new' (Kd.R_new' (Kd.R_new' (Kd.R_new' (Kd.R_new' ho0 (Kd.R_lt (sR_ HO_476002.out))) (Kd.R_lt (sR_ HO_482002.out))) (Kd.R_lt (sR_ HO_488002.out))) (Kd.R_lt (sR_ HO_495002.out))) (Kd.R_lt (sR_ HO520.out))) (Kd.R_lt (sR_ HO525.out))) (below_size (sW_ HB.out)))
         have n7_ := Aside0.mk (blk_below (sB_ BK455.out) hb)
         have n8_ := Aside0.mk (blk_below (sB_ BK456.out) hb)
         have n9_ := Aside0.mk (blk_below (sB_ BK475.out) hb)
         have n10_ := Aside0.mk (blk_below (sB_ BK481.out) hb)
         have n11_ := Aside0.mk (blk_below (sB_ BK487.out) hb)
         have n12_ := Aside0.mk (blk_below (sB_ BK494.out) hb)
         have n13_ := Aside0.mk (blk_below (sB_ BK532.out) hb)
         have n14_ := Aside0.mk (below_step (sW_ HB.out) hb)
         clear HO_476002 HO_482002 HO_488002 HO_495002 HO520 HO525 BK455 BK456 BK475 BK481 BK487 BK494 BK532 HB; have HO_476002 := n0_; have HO_482002 := n1_; have HO_488002 := n2_; have HO_495002 := n3_; have HO520 := n4_; have HO525 := n5_; have HO530 := n6_; have BK455 := n7_; have BK456 := n8_; have BK475 := n9_; have BK481 := n10_; have BK487 := n11_; have BK494 := n12_; have BK532 := n13_; have HB := n14_; clear n0_ n1_ n2_ n3_ n4_ n5_ n6_ n7_ n8_ n9_ n10_ n11_ n12_ n13_ n14_
         (try clear hb)
         (try clear hb2)
         (try clear hk)
         (try clear hi)
         (try clear ho0)
         refine hK.out _ _ ⟨(blk_cell BK455.out 0).trans rfl, (blk_cell BK455.out 1).trans rfl, (blk_cell BK455.out 2).trans rfl, (blk_cell BK456.out 0).trans rfl, (blk_cell BK456.out 1).trans rfl, (blk_cell BK456.out 2).trans rfl⟩ (fun hHeld => ?_)
         clear hK K
         refine norm_ (a' := ?_) ?_ ?_
         rotate_left
         ·show Act.put _ (some 99) _ = _
          simp only [Act.put, List.setIfInBounds_toArray, List.set_cons_zero, List.set_cons_succ, i64_w, i32_w]
          rfl
         refine pure_ (i := 5) (N := some 94) (v := ?_) (a' := ?_) #[true, true, true, true, true, true, false, false, true, false, false] rfl rfl (any_of HT_.out (by kernel_rfl)) (fun _ _ _ h => h) (Or.inl ⟨by rfl, ?_⟩) ?_ ?_
         rotate_left
         ·intro w'
          go_simp
          with_reducible rfl
         rotate_left
         ·simp only [Act.put, List.setIfInBounds_toArray, List.set_cons_zero, List.set_cons_succ, i64_w, i32_w]
          rfl
         refine pure_ (i := 6) (N := some 100) (v := ?_) (a' := ?_) #[true, true, true, true, true, true, true, false, true, false, false] rfl rfl (any_of HT_.out (by kernel_rfl)) (fun _ _ _ h => h) (Or.inl ⟨by rfl, ?_⟩) ?_ ?_
         rotate_left
         ·intro w'
          go_simp
          with_reducible rfl
         rotate_left
         ·simp only [Act.put, List.setIfInBounds_toArray, List.set_cons_zero, List.set_cons_succ, i64_w, i32_w]
          rfl
         refine pure_ (i := 7) (N := some 101) (v := ?_) (a' := ?_) #[true, true, true, true, true, true, true, true, true, false, false] rfl rfl (any_of HT_.out (by kernel_rfl)) (fun _ _ _ h => h) (Or.inl ⟨by rfl, ?_⟩) ?_ ?_
         rotate_left
         ·intro w'
          go_simp
          with_reducible rfl
         rotate_left
         ·simp only [Act.put, List.setIfInBounds_toArray, List.set_cons_zero, List.set_cons_succ, i64_w, i32_w]
          rfl
         exact norm_ sP_ (hCont (.slice Ao180 t518.length co180, .slice Ao181 t523.length co181, v529, gb532) _ ⟨hHeld, (by (with_reducible repeat (first | apply Kd.R_alloc | apply Kd.R_drewN | apply Kd.R_drew)); exact Kd.R_mono HO520.out (fun _ hk => ⟨hk.1.2, ⟨hk.2, ⟨hk.1.1.1.1.1.2, ⟨hk.1.1.1.1.2, ⟨hk.1.1.1.2, hk.1.1.2⟩⟩⟩⟩⟩)), (by (with_reducible repeat (first | apply Kd.R_alloc | apply Kd.R_drewN | apply Kd.R_drew)); exact Kd.R_mono HO525.out (fun _ hk => ⟨hk.1.2, ⟨hk.2, ⟨hk.1.1.1.1.1.2, ⟨hk.1.1.1.1.2, ⟨hk.1.1.1.2, hk.1.1.2⟩⟩⟩⟩⟩)), (by (with_reducible repeat (first | apply Kd.R_alloc | apply Kd.R_drewN | apply Kd.R_drew)); exact Kd.R_mono HO530.out (fun _ hk => ⟨hk.1.2, ⟨hk.2, ⟨hk.1.1.1.1.1.2, ⟨hk.1.1.1.1.2, ⟨hk.1.1.1.2, hk.1.1.2⟩⟩⟩⟩⟩)), (by (with_reducible repeat (first | apply Kd.R_alloc | apply Kd.R_drewN | apply Kd.R_drew)); exact Kd.R_mono HO_476002.out (fun _ hk => ⟨hk.1.1.2, ⟨hk.1.2, ⟨hk.2, ⟨hk.1.1.1.1, ⟨hk.1.1.1.2.1, hk.1.1.1.2.2⟩⟩⟩⟩⟩)), (by (with_reducible repeat (first | apply Kd.R_alloc | apply Kd.R_drewN | apply Kd.R_drew)); exact Kd.R_mono HO_482002.out (fun _ hk => ⟨hk.1.1.2, ⟨hk.1.2, ⟨hk.2, ⟨hk.1.1.1.1, ⟨hk.1.1.1.2.1, hk.1.1.1.2.2⟩⟩⟩⟩⟩)), (by (with_reducible repeat (first | apply Kd.R_alloc | apply Kd.R_drewN | apply Kd.R_drew)); exact Kd.R_mono HO_488002.out (fun _ hk => ⟨hk.1.1.2, ⟨hk.1.2, ⟨hk.2, ⟨hk.1.1.1.1, ⟨hk.1.1.1.2.1, hk.1.1.1.2.2⟩⟩⟩⟩⟩)), (by (with_reducible repeat (first | apply Kd.R_alloc | apply Kd.R_drewN | apply Kd.R_drew)); exact Kd.R_mono HO_495002.out (fun _ hk => ⟨hk.1.1.2, ⟨hk.1.2, ⟨hk.2, ⟨hk.1.1.1.1, ⟨hk.1.1.1.2.1, hk.1.1.1.2.2⟩⟩⟩⟩⟩)), (sB_ BK455.out), (sB_ BK456.out), (sB_ BK475.out), (sB_ BK481.out), (sB_ BK487.out), (sB_ BK494.out), (sB_ BK532.out), GW532.out, GE532.out, NB455_532.out, NB532_455.out, NB456_532.out, NB532_456.out, NB475_532.out, NB532_475.out, NB481_532.out, NB532_481.out, NB487_532.out, NB532_487.out, NB494_532.out, NB532_494.out, (sW_ HB.out)⟩)
        rintro ⟨v519, v524, v529, gb532⟩ w183 ⟨hS_, h0_, h1_, h2_, h3_, h4_, h5_, h6_, h7_, h8_, h9_, h10_, h11_, h12_, h13_, h14_, h15_, h16_, h17_, h18_, h19_, h20_, h21_, h22_, h23_, h24_, h25_, h26_, h27_, h28_⟩
        have n0_ : Aside0 (Kd.R (Kd.int .i64) 3 w183 w.heap.size (fun k_ => some k_ ≠ (v524 : Value).ownBlock ∧ some k_ ≠ (v529 : Value).ownBlock ∧ some k_ ≠ (.slice Ao43 t471.length co43 : Value).ownBlock ∧ some k_ ≠ (.slice Ao53 t509.length co53 : Value).ownBlock ∧ some k_ ≠ (.slice Ao63 t511.length co63 : Value).ownBlock ∧ some k_ ≠ (.slice Ao73 t490.length co73 : Value).ownBlock) v519 t518) := ⟨h0_⟩
        have n1_ : Aside0 (Kd.R (Kd.int .i64) 3 w183 w.heap.size (fun k_ => some k_ ≠ (v519 : Value).ownBlock ∧ some k_ ≠ (v529 : Value).ownBlock ∧ some k_ ≠ (.slice Ao43 t471.length co43 : Value).ownBlock ∧ some k_ ≠ (.slice Ao53 t509.length co53 : Value).ownBlock ∧ some k_ ≠ (.slice Ao63 t511.length co63 : Value).ownBlock ∧ some k_ ≠ (.slice Ao73 t490.length co73 : Value).ownBlock) v524 t523) := ⟨h1_⟩
        have n2_ : Aside0 (Kd.R (Kd.int .i64) 3 w183 w.heap.size (fun k_ => some k_ ≠ (v519 : Value).ownBlock ∧ some k_ ≠ (v524 : Value).ownBlock ∧ some k_ ≠ (.slice Ao43 t471.length co43 : Value).ownBlock ∧ some k_ ≠ (.slice Ao53 t509.length co53 : Value).ownBlock ∧ some k_ ≠ (.slice Ao63 t511.length co63 : Value).ownBlock ∧ some k_ ≠ (.slice Ao73 t490.length co73 : Value).ownBlock) v529 t528) := ⟨h2_⟩
        have n3_ : Aside0 (Kd.R (Kd.int .i64) 3 w183 w.heap.size (fun k_ => some k_ ≠ (v519 : Value).ownBlock ∧ some k_ ≠ (v524 : Value).ownBlock ∧ some k_ ≠ (v529 : Value).ownBlock ∧ some k_ ≠ (.slice Ao53 t509.length co53 : Value).ownBlock ∧ some k_ ≠ (.slice Ao63 t511.length co63 : Value).ownBlock ∧ some k_ ≠ (.slice Ao73 t490.length co73 : Value).ownBlock) (.slice Ao43 t471.length co43) t471) := ⟨h3_⟩
        have n4_ : Aside0 (Kd.R (Kd.int .i64) 3 w183 w.heap.size (fun k_ => some k_ ≠ (v519 : Value).ownBlock ∧ some k_ ≠ (v524 : Value).ownBlock ∧ some k_ ≠ (v529 : Value).ownBlock ∧ some k_ ≠ (.slice Ao43 t471.length co43 : Value).ownBlock ∧ some k_ ≠ (.slice Ao63 t511.length co63 : Value).ownBlock ∧ some k_ ≠ (.slice Ao73 t490.length co73 : Value).ownBlock) (.slice Ao53 t509.length co53) t509) := ⟨h4_⟩
        have n5_ : Aside0 (Kd.R (Kd.int .i64) 3 w183 w.heap.size (fun k_ => some k_ ≠ (v519 : Value).ownBlock ∧ some k_ ≠ (v524 : Value).ownBlock ∧ some k_ ≠ (v529 : Value).ownBlock ∧ some k_ ≠ (.slice Ao43 t471.length co43 : Value).ownBlock ∧ some k_ ≠ (.slice Ao53 t509.length co53 : Value).ownBlock ∧ some k_ ≠ (.slice Ao73 t490.length co73 : Value).ownBlock) (.slice Ao63 t511.length co63) t511) := ⟨h5_⟩
        have n6_ : Aside0 (Kd.R (Kd.int .i64) 3 w183 w.heap.size (fun k_ => some k_ ≠ (v519 : Value).ownBlock ∧ some k_ ≠ (v524 : Value).ownBlock ∧ some k_ ≠ (v529 : Value).ownBlock ∧ some k_ ≠ (.slice Ao43 t471.length co43 : Value).ownBlock ∧ some k_ ≠ (.slice Ao53 t509.length co53 : Value).ownBlock ∧ some k_ ≠ (.slice Ao63 t511.length co63 : Value).ownBlock) (.slice Ao73 t490.length co73) t514) := ⟨h6_⟩
        have n7_ : Aside0 (w183.heap[gb455]? = some (.cells #[.int .i64 a0_0, .int .i64 a0_1, .slice A0_2 l0_2.length c0_2] 39 (0, 0))) := ⟨h7_⟩
        have n8_ : Aside0 (w183.heap[gb456]? = some (.cells #[.int .i64 a1_0, .int .i64 a1_1, .slice A1_2 l1_2.length c1_2] 39 (0, 0))) := ⟨h8_⟩
        have n9_ : Aside0 (w183.heap[gb475]? = some (.cells #[.int .i64 t469, .int .i64 t470, .slice Ao43 t471.length co43] 27 (0, 0))) := ⟨h9_⟩
        have n10_ : Aside0 (w183.heap[gb481]? = some (.cells #[.int .i64 t476, .int .i64 t477, .slice Ao53 t509.length co53] 27 (0, 0))) := ⟨h10_⟩
        have n11_ : Aside0 (w183.heap[gb487]? = some (.cells #[.int .i64 t482, .int .i64 t483, .slice Ao63 t511.length co63] 27 (0, 0))) := ⟨h11_⟩
        have n12_ : Aside0 (w183.heap[gb494]? = some (.cells #[.int .i64 t488, .int .i64 t489, .slice Ao73 t490.length co73] 27 (0, 0))) := ⟨h12_⟩
        have n13_ : Aside0 (w183.heap[gb532]? = some (.cells #[.int .i64 0, .int .i64 0, .slice none 0 0] 27 (0, 0))) := ⟨h13_⟩
        have n14_ : Aside0 (w.heap.size ≤ gb532) := ⟨h14_⟩
        have n15_ : Aside0 (w.heap.size ≤ gb532) := ⟨h15_⟩
        have n16_ : Aside0 (gb455 ≠ gb532) := ⟨h16_⟩
        have n17_ : Aside0 (gb532 ≠ gb455) := ⟨h17_⟩
        have n18_ : Aside0 (gb456 ≠ gb532) := ⟨h18_⟩
        have n19_ : Aside0 (gb532 ≠ gb456) := ⟨h19_⟩
        have n20_ : Aside0 (gb475 ≠ gb532) := ⟨h20_⟩
        have n21_ : Aside0 (gb532 ≠ gb475) := ⟨h21_⟩
        have n22_ : Aside0 (gb481 ≠ gb532) := ⟨h22_⟩
        have n23_ : Aside0 (gb532 ≠ gb481) := ⟨h23_⟩
        have n24_ : Aside0 (gb487 ≠ gb532) := ⟨h24_⟩
        have n25_ : Aside0 (gb532 ≠ gb487) := ⟨h25_⟩
        have n26_ : Aside0 (gb494 ≠ gb532) := ⟨h26_⟩
        have n27_ : Aside0 (gb532 ≠ gb494) := ⟨h27_⟩
        have n28_ : Aside0 (Below w.heap.size w w183) := ⟨h28_⟩
        clear HO_476002 HO_482002 HO_488002 HO_495002 BK455 BK456 BK475 BK481 BK487 BK494 HB h0_ h1_ h2_ h3_ h4_ h5_ h6_ h7_ h8_ h9_ h10_ h11_ h12_ h13_ h14_ h15_ h16_ h17_ h18_ h19_ h20_ h21_ h22_ h23_ h24_ h25_ h26_ h27_ h28_; have HO520 := n0_; have HO525 := n1_; have HO530 := n2_; have HO_476002 := n3_; have HO_482002 := n4_; have HO_488002 := n5_; have HO_495002 := n6_; have BK455 := n7_; have BK456 := n8_; have BK475 := n9_; have BK481 := n10_; have BK487 := n11_; have BK494 := n12_; have BK532 := n13_; have GW532 := n14_; have GE532 := n15_; have NB455_532 := n16_; have NB532_455 := n17_; have NB456_532 := n18_; have NB532_456 := n19_; have NB475_532 := n20_; have NB532_475 := n21_; have NB481_532 := n22_; have NB532_481 := n23_; have NB487_532 := n24_; have NB532_487 := n25_; have NB494_532 := n26_; have NB532_494 := n27_; have HB := n28_; clear n0_ n1_ n2_ n3_ n4_ n5_ n6_ n7_ n8_ n9_ n10_ n11_ n12_ n13_ n14_ n15_ n16_ n17_ n18_ n19_ n20_ n21_ n22_ n23_ n24_ n25_ n26_ n27_ n28_
        have hHeld : w183.cell? ⟨gb455, 0, none⟩ = some (.int .i64 a0_0) ∧ w183.cell? ⟨gb455, 1, none⟩ = some (.int .i64 a0_1) ∧ w183.cell? ⟨gb455, 2, none⟩ = some (.slice A0_2 l0_2.length c0_2) ∧ w183.cell? ⟨gb456, 0, none⟩ = some (.int .i64 a1_0) ∧ w183.cell? ⟨gb456, 1, none⟩ = some (.int .i64 a1_1) ∧ w183.cell? ⟨gb456, 2, none⟩ = some (.slice A1_2 l1_2.length c1_2) := hS_
        obtain ⟨Ao186, co186, eo186⟩ := Kd.R_slice HO530.out
        (first | subst eo186 | (injection eo186 with f1_ f2_ f3_; have f4_ := f1_.symm; have f5_ := f3_.symm; clear f1_ f2_ f3_; subst f4_; subst f5_))
        refine norm_ (a' := ?_) ?_ ?_
        rotate_left
        ·simp only [putAll, Act.put, List.setIfInBounds_toArray, List.set_cons_zero, List.set_cons_succ]
         rfl
        refine one_ (i := 9) (N := none) #[true, true, true, true, true, true, true, true, true, true, false] rfl rfl (one_of HT_.out (by kernel_rfl)) (by decide) (fun K hK => ?_)
        have hs184 : w183.cell? ⟨gb532, 0, none⟩ = some (.int .i64 0) := (blk_cell BK532.out 0).trans rfl
        have hfs184 := blk_frozen BK532.out 0
        have hns184_0 := NB455_532.out; have hns184_1 := NB456_532.out; have hns184_2 := NB475_532.out; have hns184_3 := NB481_532.out; have hns184_4 := NB487_532.out; have hns184_5 := NB494_532.out; have hms184_0 := NB532_455.out; have hms184_1 := NB532_456.out; have hms184_2 := NB532_475.out; have hms184_3 := NB532_481.out; have hms184_4 := NB532_487.out; have hms184_5 := NB532_494.out
        have hs185 : w183.cell? ⟨gb532, 1, none⟩ = some (.int .i64 0) := (blk_cell BK532.out 1).trans rfl
        have hfs185 := blk_frozen BK532.out 1
        have hns185_0 := NB455_532.out; have hns185_1 := NB456_532.out; have hns185_2 := NB475_532.out; have hns185_3 := NB481_532.out; have hns185_4 := NB487_532.out; have hns185_5 := NB494_532.out; have hms185_0 := NB532_455.out; have hms185_1 := NB532_456.out; have hms185_2 := NB532_475.out; have hms185_3 := NB532_481.out; have hms185_4 := NB532_487.out; have hms185_5 := NB532_494.out
        have hs187 : w183.cell? ⟨gb532, 2, none⟩ = some (.slice none 0 0) := (blk_cell BK532.out 2).trans rfl
        have hfs187 := blk_frozen BK532.out 2
        have hns187_0 := NB455_532.out; have hns187_1 := NB456_532.out; have hns187_2 := NB475_532.out; have hns187_3 := NB481_532.out; have hns187_4 := NB487_532.out; have hns187_5 := NB494_532.out; have hms187_0 := NB532_455.out; have hms187_1 := NB532_456.out; have hms187_2 := NB532_475.out; have hms187_3 := NB532_481.out; have hms187_4 := NB532_487.out; have hms187_5 := NB532_494.out
        refine skip_ (w1 := ?_) (by rfl) rfl ?_ ?_
        rotate_left
        ·go_simp
         rfl
        refine hK.out _ _ ⟨((cell_far (p := ⟨gb532, _, none⟩) NB455_532.out _).trans (((cell_far (p := ⟨gb532, _, none⟩) NB455_532.out _).trans (((cell_far (p := ⟨gb532, _, none⟩) NB455_532.out _).trans (hHeld.1)))))), ((cell_far (p := ⟨gb532, _, none⟩) NB455_532.out _).trans (((cell_far (p := ⟨gb532, _, none⟩) NB455_532.out _).trans (((cell_far (p := ⟨gb532, _, none⟩) NB455_532.out _).trans (hHeld.2.1)))))), ((cell_far (p := ⟨gb532, _, none⟩) NB455_532.out _).trans (((cell_far (p := ⟨gb532, _, none⟩) NB455_532.out _).trans (((cell_far (p := ⟨gb532, _, none⟩) NB455_532.out _).trans (hHeld.2.2.1)))))), ((cell_far (p := ⟨gb532, _, none⟩) NB456_532.out _).trans (((cell_far (p := ⟨gb532, _, none⟩) NB456_532.out _).trans (((cell_far (p := ⟨gb532, _, none⟩) NB456_532.out _).trans (hHeld.2.2.2.1)))))), ((cell_far (p := ⟨gb532, _, none⟩) NB456_532.out _).trans (((cell_far (p := ⟨gb532, _, none⟩) NB456_532.out _).trans (((cell_far (p := ⟨gb532, _, none⟩) NB456_532.out _).trans (hHeld.2.2.2.2.1)))))), ((cell_far (p := ⟨gb532, _, none⟩) NB456_532.out _).trans (((cell_far (p := ⟨gb532, _, none⟩) NB456_532.out _).trans (((cell_far (p := ⟨gb532, _, none⟩) NB456_532.out _).trans (hHeld.2.2.2.2.2))))))⟩ (fun hHeld => ?_)
        clear hK K
        refine pure_ (i := 10) (N := some 16) (v := ?_) (a' := ?_) #[true, true, true, true, true, true, true, true, true, true, true] rfl rfl (any_of HT_.out (by kernel_rfl)) (fun _ _ _ h => h) (Or.inl ⟨by rfl, ?_⟩) ?_ ?_
        rotate_left
        ·intro w'
         go_simp
         with_reducible rfl
        rotate_left
        ·simp only [Act.put, List.setIfInBounds_toArray, List.set_cons_zero, List.set_cons_succ, i64_w, i32_w]
         rfl
        refine done_ (done_of HT_.out (by kernel_rfl)) ?_
        go_upto_region 32 with (fail)
        go_cut [110] (fun v110 wc => ∃ (kq : Nat) (x110_165 : Bool), v110 = .bool x110_165 ∧ Aside0 (laws_FnExactAddPictures.j2 kq t513 x110_165 t488 t489 t514 = some r) ∧ Aside0 (kq ≤ kj108) ∧ Aside0 (Kd.R (Kd.int .i64) 3 wc w.heap.size (fun k_ => some k_ ≠ ((.slice Ao53 t509.length co53) : Value).ownBlock ∧ some k_ ≠ ((.slice Ao63 t511.length co63) : Value).ownBlock ∧ some k_ ≠ ((.slice Ao73 t490.length co73) : Value).ownBlock ∧ some k_ ≠ ((.slice Ao186 t528.length co186) : Value).ownBlock) (.slice Ao43 t471.length co43) t471) ∧ Aside0 (Kd.R (Kd.int .i64) 3 wc w.heap.size (fun k_ => some k_ ≠ ((.slice Ao43 t471.length co43) : Value).ownBlock ∧ some k_ ≠ ((.slice Ao63 t511.length co63) : Value).ownBlock ∧ some k_ ≠ ((.slice Ao73 t490.length co73) : Value).ownBlock ∧ some k_ ≠ ((.slice Ao186 t528.length co186) : Value).ownBlock) (.slice Ao53 t509.length co53) t509) ∧ Aside0 (Kd.R (Kd.int .i64) 3 wc w.heap.size (fun k_ => some k_ ≠ ((.slice Ao43 t471.length co43) : Value).ownBlock ∧ some k_ ≠ ((.slice Ao53 t509.length co53) : Value).ownBlock ∧ some k_ ≠ ((.slice Ao73 t490.length co73) : Value).ownBlock ∧ some k_ ≠ ((.slice Ao186 t528.length co186) : Value).ownBlock) (.slice Ao63 t511.length co63) t511) ∧ Aside0 (Kd.R (Kd.int .i64) 3 wc w.heap.size (fun k_ => some k_ ≠ ((.slice Ao43 t471.length co43) : Value).ownBlock ∧ some k_ ≠ ((.slice Ao53 t509.length co53) : Value).ownBlock ∧ some k_ ≠ ((.slice Ao63 t511.length co63) : Value).ownBlock ∧ some k_ ≠ ((.slice Ao186 t528.length co186) : Value).ownBlock) (.slice Ao73 t490.length co73) t514) ∧ Aside0 (Kd.R (Kd.int .i64) 3 wc w.heap.size (fun k_ => some k_ ≠ ((.slice Ao43 t471.length co43) : Value).ownBlock ∧ some k_ ≠ ((.slice Ao53 t509.length co53) : Value).ownBlock ∧ some k_ ≠ ((.slice Ao63 t511.length co63) : Value).ownBlock ∧ some k_ ≠ ((.slice Ao73 t490.length co73) : Value).ownBlock) (.slice Ao186 t528.length co186) t528) ∧ Aside0 (wc.heap[gb455]? = some (.cells #[.int .i64 a0_0, .int .i64 a0_1, (.slice A0_2 l0_2.length c0_2)] 39 (0, 0))) ∧ Aside0 (wc.heap[gb456]? = some (.cells #[.int .i64 a1_0, .int .i64 a1_1, (.slice A1_2 l1_2.length c1_2)] 39 (0, 0))) ∧ Aside0 (wc.heap[gb475]? = some (.cells #[.int .i64 t469, .int .i64 t470, (.slice Ao43 t471.length co43)] 27 (0, 0))) ∧ Aside0 (wc.heap[gb481]? = some (.cells #[.int .i64 t476, .int .i64 t477, (.slice Ao53 t509.length co53)] 27 (0, 0))) ∧ Aside0 (wc.heap[gb487]? = some (.cells #[.int .i64 t482, .int .i64 t483, (.slice Ao63 t511.length co63)] 27 (0, 0))) ∧ Aside0 (wc.heap[gb494]? = some (.cells #[.int .i64 t488, .int .i64 t489, (.slice Ao73 t490.length co73)] 27 (0, 0))) ∧ Aside0 (wc.heap[gb532]? = some (.cells #[.int .i64 t526, .int .i64 t527, (.slice Ao186 t528.length co186)] 27 (0, 0))) ∧ Aside0 (Below w.heap.size w wc))
        case first =>
         have H := HC166.out; clear HC166
         replace H := Option.bind_eq_some_iff.mp H
         obtain ⟨t533, A1880, H⟩ := H
         replace H : (if t533 = true then (laws_FnExactAddPictures.j2 kj108 t513 (t531 != t474) t488 t489 t514) else (laws_FnExactAddPictures.j2 kj108 t513 true t488 t489 t514)) = some r := H
         have A188 := Aside0.mk A1880
         clear A1880
         by_cases c189 : t533 = true
         ·subst c189
          have H1 : (laws_FnExactAddPictures.j2 kj108 t513 (t531 != t474) t488 t489 t514) = some r := by rw [if_pos rfl] at H; exact H
          clear H; have H := H1; clear H1
          have H' := Aside0.mk H
          clear H; have hnb190 := NB532_455.out; have hnc190 := NB455_532.out; have hnb191 := NB532_456.out; have hnc191 := NB456_532.out; have hnb192 := NB532_475.out; have hnc192 := NB475_532.out; have hnb193 := NB532_481.out; have hnc193 := NB481_532.out; have hnb194 := NB532_487.out; have hnc194 := NB487_532.out; have hnb195 := NB532_494.out; have hnc195 := NB494_532.out
          obtain ⟨hcz196_0, hcz196_1, hcz196_2, hfz196_0, hfz196_1, hfz196_2⟩ := sZ_ BK532.out
          have hnb197 := NB475_455.out; have hnc197 := NB455_475.out; have hnb198 := NB475_456.out; have hnc198 := NB456_475.out; have hnb199 := NB475_481.out; have hnc199 := NB481_475.out; have hnb200 := NB475_487.out; have hnc200 := NB487_475.out; have hnb201 := NB475_494.out; have hnc201 := NB494_475.out
          obtain ⟨hcz202_0, hcz202_1, hcz202_2, hfz202_0, hfz202_1, hfz202_2⟩ := sZ_ BK475.out
          go_wp2_with (first | ((with_reducible refine gate_callee (f := 22) rfl ?_); refine goesL_ (some 104) rfl rfl Try.func22 (by kernel_rfl) rfl #[.agg #[.int .i64 t526, .int .i64 t527, .slice Ao186 t528.length co186], .agg #[.int .i64 t469, .int .i64 t470, .slice Ao43 t471.length co43]] rfl sL_ ?_; (with_reducible refine (laws_eqPicture.calls kj108 t526 t527 _ _ t528 t469 t470 _ _ t471 true _ ?side1 ?side2 ?side3 ?side4 A188.out).mono ?_); (case side1 => refine (Kd.R_reads' (e := 3) (base := w.heap.size) (ok := fun k_ => (some k_ ≠ (v519 : Value).ownBlock ∧ (some k_ ≠ (v524 : Value).ownBlock ∧ (some k_ ≠ (.slice Ao43 t471.length co43 : Value).ownBlock ∧ (some k_ ≠ (.slice Ao53 t509.length co53 : Value).ownBlock ∧ (some k_ ≠ (.slice Ao63 t511.length co63 : Value).ownBlock ∧ some k_ ≠ (.slice Ao73 t490.length co73 : Value).ownBlock)))))) (n := t528.length) (c := co186) ?_).2.2; exact (by (with_reducible repeat (first | apply Kd.R_alloc | apply Kd.R_drewN | apply Kd.R_drew)); exact (sF_ HO530.out BK532.out (by decide)))); (case side2 => exact (Kd.R_reads' HO530.out).2.1); (case side3 => refine (Kd.R_reads' (e := 3) (base := w.heap.size) (ok := fun k_ => (some k_ ≠ (v519 : Value).ownBlock ∧ (some k_ ≠ (v524 : Value).ownBlock ∧ (some k_ ≠ (.slice Ao186 t528.length co186 : Value).ownBlock ∧ (some k_ ≠ (.slice Ao53 t509.length co53 : Value).ownBlock ∧ (some k_ ≠ (.slice Ao63 t511.length co63 : Value).ownBlock ∧ some k_ ≠ (.slice Ao73 t490.length co73 : Value).ownBlock)))))) (n := t471.length) (c := co43) ?_).2.2; exact (by (with_reducible repeat (first | apply Kd.R_alloc | apply Kd.R_drewN | apply Kd.R_drew)); exact (sF_ HO_476002.out BK532.out (by decide)))); (case side4 => exact (Kd.R_reads' HO_476002.out).2.1); rintro e w203 ⟨rfl, hb⟩; refine ⟨_, rfl, ?_⟩; have n0_ := Aside0.mk (Kd.R_below (by (with_reducible repeat (first | apply Kd.R_alloc | apply Kd.R_drewN | apply Kd.R_drew)); exact (sF_ HO_476002.out BK532.out (by decide))) hb); have n1_ := Aside0.mk (Kd.R_below (by (with_reducible repeat (first | apply Kd.R_alloc | apply Kd.R_drewN | apply Kd.R_drew)); exact (sF_ HO_482002.out BK532.out (by decide))) hb); have n2_ := Aside0.mk (Kd.R_below (by (with_reducible repeat (first | apply Kd.R_alloc | apply Kd.R_drewN | apply Kd.R_drew)); exact (sF_ HO_488002.out BK532.out (by decide))) hb); have n3_ := Aside0.mk (Kd.R_below (by (with_reducible repeat (first | apply Kd.R_alloc | apply Kd.R_drewN | apply Kd.R_drew)); exact (sF_ HO_495002.out BK532.out (by decide))) hb); have n4_ := Aside0.mk (Kd.R_below (by (with_reducible repeat (first | apply Kd.R_alloc | apply Kd.R_drewN | apply Kd.R_drew)); exact (sF_ HO520.out BK532.out (by decide))) hb); have n5_ := Aside0.mk (Kd.R_below (by (with_reducible repeat (first | apply Kd.R_alloc | apply Kd.R_drewN | apply Kd.R_drew)); exact (sF_ HO525.out BK532.out (by decide))) hb); have n6_ := Aside0.mk (Kd.R_below (by (with_reducible repeat (first | apply Kd.R_alloc | apply Kd.R_drewN | apply Kd.R_drew)); exact (sF_ HO530.out BK532.out (by decide))) hb); have n7_ := Aside0.mk (blk_below (g := gb455) (o := .cells #[.int .i64 a0_0, .int .i64 a0_1, .slice A0_2 l0_2.length c0_2] 39 (0, 0)) (by refine sB_ ?_; refine blk_far ?_ NB455_532.out _; refine sB_ ?_; refine blk_far ?_ NB455_532.out _; refine sB_ ?_; refine blk_far ?_ NB455_532.out _; refine sB_ ?_; exact BK455.out) hb); have n8_ := Aside0.mk (blk_below (g := gb456) (o := .cells #[.int .i64 a1_0, .int .i64 a1_1, .slice A1_2 l1_2.length c1_2] 39 (0, 0)) (by refine sB_ ?_; refine blk_far ?_ NB456_532.out _; refine sB_ ?_; refine blk_far ?_ NB456_532.out _; refine sB_ ?_; refine blk_far ?_ NB456_532.out _; refine sB_ ?_; exact BK456.out) hb); have n9_ := Aside0.mk (blk_below (g := gb475) (o := .cells #[.int .i64 t469, .int .i64 t470, .slice Ao43 t471.length co43] 27 (0, 0)) (by refine sB_ ?_; refine blk_far ?_ NB475_532.out _; refine sB_ ?_; refine blk_far ?_ NB475_532.out _; refine sB_ ?_; refine blk_far ?_ NB475_532.out _; refine sB_ ?_; exact BK475.out) hb); have n10_ := Aside0.mk (blk_below (g := gb481) (o := .cells #[.int .i64 t476, .int .i64 t477, .slice Ao53 t509.length co53] 27 (0, 0)) (by refine sB_ ?_; refine blk_far ?_ NB481_532.out _; refine sB_ ?_; refine blk_far ?_ NB481_532.out _; refine sB_ ?_; refine blk_far ?_ NB481_532.out _; refine sB_ ?_; exact BK481.out) hb); have n11_ := Aside0.mk (blk_below (g := gb487) (o := .cells #[.int .i64 t482, .int .i64 t483, .slice Ao63 t511.length co63] 27 (0, 0)) (by refine sB_ ?_; refine blk_far ?_ NB487_532.out _; refine sB_ ?_; refine blk_far ?_ NB487_532.out _; refine sB_ ?_; refine blk_far ?_ NB487_532.out _; refine sB_ ?_; exact BK487.out) hb); have n12_ := Aside0.mk (blk_below (g := gb494) (o := .cells #[.int .i64 t488, .int .i64 t489, .slice Ao73 t490.length co73] 27 (0, 0)) (by refine sB_ ?_; refine blk_far ?_ NB494_532.out _; refine sB_ ?_; refine blk_far ?_ NB494_532.out _; refine sB_ ?_; refine blk_far ?_ NB494_532.out _; refine sB_ ?_; exact BK494.out) hb); have n13_ := Aside0.mk (blk_below (g := gb532) (o := .cells #[.int .i64 t526, .int .i64 t527, .slice Ao186 t528.length co186] 27 (0, 0)) (by refine sB_ ?_; refine blk_put (cs := #[.int .i64 t526, .int .i64 t527, .slice none 0 0]) ?_ 2 _ rfl; refine sB_ ?_; refine blk_put (cs := #[.int .i64 t526, .int .i64 0, .slice none 0 0]) ?_ 1 _ rfl; refine sB_ ?_; refine blk_put (cs := #[.int .i64 0, .int .i64 0, .slice none 0 0]) ?_ 0 _ rfl; refine sB_ ?_; exact BK532.out) hb); have n14_ := Aside0.mk (below_step (sW_ HB.out) hb); clear HO_476002 HO_482002 HO_488002 HO_495002 HO520 HO525 HO530 BK455 BK456 BK475 BK481 BK487 BK494 BK532 HB; have HO_476002 := n0_; have HO_482002 := n1_; have HO_488002 := n2_; have HO_495002 := n3_; have HO520 := n4_; have HO525 := n5_; have HO530 := n6_; have BK455 := n7_; have BK456 := n8_; have BK475 := n9_; have BK481 := n10_; have BK487 := n11_; have BK494 := n12_; have BK532 := n13_; have HB := n14_; clear n0_ n1_ n2_ n3_ n4_ n5_ n6_ n7_ n8_ n9_ n10_ n11_ n12_ n13_ n14_; (try clear hb); (try clear hb2); (try clear hk); (try clear hi)))
          go_meet
          case rel => exact ⟨_, ((t531 != t474)), (by first | rfl | (simp; done) | (simp [*]; done)), H', ⟨by have := HJ24.out; have := HJ108.out; first | omega | exact Nat.le_refl _⟩, ⟨by (try simp only [hl482002_108]); (try simp only [hl488002_108]); (with_reducible repeat (first | apply Kd.R_alloc | apply Kd.R_drewN | apply Kd.R_drew)); exact Kd.R_mono HO_476002.out (fun _ hk => ⟨hk.2.2.2.1, ⟨hk.2.2.2.2.1, ⟨hk.2.2.2.2.2, hk.2.2.1⟩⟩⟩)⟩, ⟨by (try simp only [hl482002_108]); (try simp only [hl488002_108]); (with_reducible repeat (first | apply Kd.R_alloc | apply Kd.R_drewN | apply Kd.R_drew)); exact Kd.R_mono HO_482002.out (fun _ hk => ⟨hk.2.2.2.1, ⟨hk.2.2.2.2.1, ⟨hk.2.2.2.2.2, hk.2.2.1⟩⟩⟩)⟩, ⟨by (try simp only [hl482002_108]); (try simp only [hl488002_108]); (with_reducible repeat (first | apply Kd.R_alloc | apply Kd.R_drewN | apply Kd.R_drew)); exact Kd.R_mono HO_488002.out (fun _ hk => ⟨hk.2.2.2.1, ⟨hk.2.2.2.2.1, ⟨hk.2.2.2.2.2, hk.2.2.1⟩⟩⟩)⟩, ⟨by (try simp only [hl482002_108]); (try simp only [hl488002_108]); (with_reducible repeat (first | apply Kd.R_alloc | apply Kd.R_drewN | apply Kd.R_drew)); exact Kd.R_mono HO_495002.out (fun _ hk => ⟨hk.2.2.2.1, ⟨hk.2.2.2.2.1, ⟨hk.2.2.2.2.2, hk.2.2.1⟩⟩⟩)⟩, ⟨by (try simp only [hl482002_108]); (try simp only [hl488002_108]); (with_reducible repeat (first | apply Kd.R_alloc | apply Kd.R_drewN | apply Kd.R_drew)); exact Kd.R_mono HO530.out (fun _ hk => ⟨hk.2.2.1, ⟨hk.2.2.2.1, ⟨hk.2.2.2.2.1, hk.2.2.2.2.2⟩⟩⟩)⟩, ⟨by (try simp only [hl482002_108]); (try simp only [hl488002_108]); refine sB_ ?_; exact BK455.out⟩, ⟨by (try simp only [hl482002_108]); (try simp only [hl488002_108]); refine sB_ ?_; exact BK456.out⟩, ⟨by (try simp only [hl482002_108]); (try simp only [hl488002_108]); refine sB_ ?_; exact BK475.out⟩, ⟨by (try simp only [hl482002_108]); (try simp only [hl488002_108]); refine sB_ ?_; exact BK481.out⟩, ⟨by (try simp only [hl482002_108]); (try simp only [hl488002_108]); refine sB_ ?_; exact BK487.out⟩, ⟨by (try simp only [hl482002_108]); (try simp only [hl488002_108]); refine sB_ ?_; exact BK494.out⟩, ⟨by (try simp only [hl482002_108]); (try simp only [hl488002_108]); refine sB_ ?_; exact BK532.out⟩, ⟨by repeat (first | (with_reducible first | exact HB.out | apply below_alloc | apply pw_below_drewN | apply below_drew1 | refine below_set ?_ GE455.out | refine below_set ?_ GE456.out | refine below_set ?_ GE475.out | refine below_set ?_ GE481.out | refine below_set ?_ GE487.out | refine below_set ?_ GE494.out | refine below_set ?_ GE532.out) | exact HB.out)⟩⟩
         replace c189 := Bool.eq_false_iff.mpr c189
         subst c189
         have H1 : (laws_FnExactAddPictures.j2 kj108 t513 true t488 t489 t514) = some r := by rw [if_neg (show ¬ (false = true) by decide)] at H; exact H
         clear H; have H := H1; clear H1
         have H' := Aside0.mk H
         clear H; have hnb204 := NB532_455.out; have hnc204 := NB455_532.out; have hnb205 := NB532_456.out; have hnc205 := NB456_532.out; have hnb206 := NB532_475.out; have hnc206 := NB475_532.out; have hnb207 := NB532_481.out; have hnc207 := NB481_532.out; have hnb208 := NB532_487.out; have hnc208 := NB487_532.out; have hnb209 := NB532_494.out; have hnc209 := NB494_532.out
         obtain ⟨hcz210_0, hcz210_1, hcz210_2, hfz210_0, hfz210_1, hfz210_2⟩ := sZ_ BK532.out
         have hnb211 := NB475_455.out; have hnc211 := NB455_475.out; have hnb212 := NB475_456.out; have hnc212 := NB456_475.out; have hnb213 := NB475_481.out; have hnc213 := NB481_475.out; have hnb214 := NB475_487.out; have hnc214 := NB487_475.out; have hnb215 := NB475_494.out; have hnc215 := NB494_475.out
         obtain ⟨hcz216_0, hcz216_1, hcz216_2, hfz216_0, hfz216_1, hfz216_2⟩ := sZ_ BK475.out
         go_wp2_with (first | ((with_reducible refine gate_callee (f := 22) rfl ?_); refine goesL_ (some 104) rfl rfl Try.func22 (by kernel_rfl) rfl #[.agg #[.int .i64 t526, .int .i64 t527, .slice Ao186 t528.length co186], .agg #[.int .i64 t469, .int .i64 t470, .slice Ao43 t471.length co43]] rfl sL_ ?_; (with_reducible refine (laws_eqPicture.calls kj108 t526 t527 _ _ t528 t469 t470 _ _ t471 false _ ?side1 ?side2 ?side3 ?side4 A188.out).mono ?_); (case side1 => refine (Kd.R_reads' (e := 3) (base := w.heap.size) (ok := fun k_ => (some k_ ≠ (v519 : Value).ownBlock ∧ (some k_ ≠ (v524 : Value).ownBlock ∧ (some k_ ≠ (.slice Ao43 t471.length co43 : Value).ownBlock ∧ (some k_ ≠ (.slice Ao53 t509.length co53 : Value).ownBlock ∧ (some k_ ≠ (.slice Ao63 t511.length co63 : Value).ownBlock ∧ some k_ ≠ (.slice Ao73 t490.length co73 : Value).ownBlock)))))) (n := t528.length) (c := co186) ?_).2.2; exact (by (with_reducible repeat (first | apply Kd.R_alloc | apply Kd.R_drewN | apply Kd.R_drew)); exact (sF_ HO530.out BK532.out (by decide)))); (case side2 => exact (Kd.R_reads' HO530.out).2.1); (case side3 => refine (Kd.R_reads' (e := 3) (base := w.heap.size) (ok := fun k_ => (some k_ ≠ (v519 : Value).ownBlock ∧ (some k_ ≠ (v524 : Value).ownBlock ∧ (some k_ ≠ (.slice Ao186 t528.length co186 : Value).ownBlock ∧ (some k_ ≠ (.slice Ao53 t509.length co53 : Value).ownBlock ∧ (some k_ ≠ (.slice Ao63 t511.length co63 : Value).ownBlock ∧ some k_ ≠ (.slice Ao73 t490.length co73 : Value).ownBlock)))))) (n := t471.length) (c := co43) ?_).2.2; exact (by (with_reducible repeat (first | apply Kd.R_alloc | apply Kd.R_drewN | apply Kd.R_drew)); exact (sF_ HO_476002.out BK532.out (by decide)))); (case side4 => exact (Kd.R_reads' HO_476002.out).2.1); rintro e w217 ⟨rfl, hb⟩; refine ⟨_, rfl, ?_⟩; have n0_ := Aside0.mk (Kd.R_below (by (with_reducible repeat (first | apply Kd.R_alloc | apply Kd.R_drewN | apply Kd.R_drew)); exact (sF_ HO_476002.out BK532.out (by decide))) hb); have n1_ := Aside0.mk (Kd.R_below (by (with_reducible repeat (first | apply Kd.R_alloc | apply Kd.R_drewN | apply Kd.R_drew)); exact (sF_ HO_482002.out BK532.out (by decide))) hb); have n2_ := Aside0.mk (Kd.R_below (by (with_reducible repeat (first | apply Kd.R_alloc | apply Kd.R_drewN | apply Kd.R_drew)); exact (sF_ HO_488002.out BK532.out (by decide))) hb); have n3_ := Aside0.mk (Kd.R_below (by (with_reducible repeat (first | apply Kd.R_alloc | apply Kd.R_drewN | apply Kd.R_drew)); exact (sF_ HO_495002.out BK532.out (by decide))) hb); have n4_ := Aside0.mk (Kd.R_below (by (with_reducible repeat (first | apply Kd.R_alloc | apply Kd.R_drewN | apply Kd.R_drew)); exact (sF_ HO520.out BK532.out (by decide))) hb); have n5_ := Aside0.mk (Kd.R_below (by (with_reducible repeat (first | apply Kd.R_alloc | apply Kd.R_drewN | apply Kd.R_drew)); exact (sF_ HO525.out BK532.out (by decide))) hb); have n6_ := Aside0.mk (Kd.R_below (by (with_reducible repeat (first | apply Kd.R_alloc | apply Kd.R_drewN | apply Kd.R_drew)); exact (sF_ HO530.out BK532.out (by decide))) hb); have n7_ := Aside0.mk (blk_below (g := gb455) (o := .cells #[.int .i64 a0_0, .int .i64 a0_1, .slice A0_2 l0_2.length c0_2] 39 (0, 0)) (by refine sB_ ?_; refine blk_far ?_ NB455_532.out _; refine sB_ ?_; refine blk_far ?_ NB455_532.out _; refine sB_ ?_; refine blk_far ?_ NB455_532.out _; refine sB_ ?_; exact BK455.out) hb); have n8_ := Aside0.mk (blk_below (g := gb456) (o := .cells #[.int .i64 a1_0, .int .i64 a1_1, .slice A1_2 l1_2.length c1_2] 39 (0, 0)) (by refine sB_ ?_; refine blk_far ?_ NB456_532.out _; refine sB_ ?_; refine blk_far ?_ NB456_532.out _; refine sB_ ?_; refine blk_far ?_ NB456_532.out _; refine sB_ ?_; exact BK456.out) hb); have n9_ := Aside0.mk (blk_below (g := gb475) (o := .cells #[.int .i64 t469, .int .i64 t470, .slice Ao43 t471.length co43] 27 (0, 0)) (by refine sB_ ?_; refine blk_far ?_ NB475_532.out _; refine sB_ ?_; refine blk_far ?_ NB475_532.out _; refine sB_ ?_; refine blk_far ?_ NB475_532.out _; refine sB_ ?_; exact BK475.out) hb); have n10_ := Aside0.mk (blk_below (g := gb481) (o := .cells #[.int .i64 t476, .int .i64 t477, .slice Ao53 t509.length co53] 27 (0, 0)) (by refine sB_ ?_; refine blk_far ?_ NB481_532.out _; refine sB_ ?_; refine blk_far ?_ NB481_532.out _; refine sB_ ?_; refine blk_far ?_ NB481_532.out _; refine sB_ ?_; exact BK481.out) hb); have n11_ := Aside0.mk (blk_below (g := gb487) (o := .cells #[.int .i64 t482, .int .i64 t483, .slice Ao63 t511.length co63] 27 (0, 0)) (by refine sB_ ?_; refine blk_far ?_ NB487_532.out _; refine sB_ ?_; refine blk_far ?_ NB487_532.out _; refine sB_ ?_; refine blk_far ?_ NB487_532.out _; refine sB_ ?_; exact BK487.out) hb); have n12_ := Aside0.mk (blk_below (g := gb494) (o := .cells #[.int .i64 t488, .int .i64 t489, .slice Ao73 t490.length co73] 27 (0, 0)) (by refine sB_ ?_; refine blk_far ?_ NB494_532.out _; refine sB_ ?_; refine blk_far ?_ NB494_532.out _; refine sB_ ?_; refine blk_far ?_ NB494_532.out _; refine sB_ ?_; exact BK494.out) hb); have n13_ := Aside0.mk (blk_below (g := gb532) (o := .cells #[.int .i64 t526, .int .i64 t527, .slice Ao186 t528.length co186] 27 (0, 0)) (by refine sB_ ?_; refine blk_put (cs := #[.int .i64 t526, .int .i64 t527, .slice none 0 0]) ?_ 2 _ rfl; refine sB_ ?_; refine blk_put (cs := #[.int .i64 t526, .int .i64 0, .slice none 0 0]) ?_ 1 _ rfl; refine sB_ ?_; refine blk_put (cs := #[.int .i64 0, .int .i64 0, .slice none 0 0]) ?_ 0 _ rfl; refine sB_ ?_; exact BK532.out) hb); have n14_ := Aside0.mk (below_step (sW_ HB.out) hb); clear HO_476002 HO_482002 HO_488002 HO_495002 HO520 HO525 HO530 BK455 BK456 BK475 BK481 BK487 BK494 BK532 HB; have HO_476002 := n0_; have HO_482002 := n1_; have HO_488002 := n2_; have HO_495002 := n3_; have HO520 := n4_; have HO525 := n5_; have HO530 := n6_; have BK455 := n7_; have BK456 := n8_; have BK475 := n9_; have BK481 := n10_; have BK487 := n11_; have BK494 := n12_; have BK532 := n13_; have HB := n14_; clear n0_ n1_ n2_ n3_ n4_ n5_ n6_ n7_ n8_ n9_ n10_ n11_ n12_ n13_ n14_; (try clear hb); (try clear hb2); (try clear hk); (try clear hi)))
         go_meet
         case rel => exact ⟨_, (true), (by first | rfl | (simp; done) | (simp [*]; done)), H', ⟨by have := HJ24.out; have := HJ108.out; first | omega | exact Nat.le_refl _⟩, ⟨by (try simp only [hl482002_108]); (try simp only [hl488002_108]); (with_reducible repeat (first | apply Kd.R_alloc | apply Kd.R_drewN | apply Kd.R_drew)); exact Kd.R_mono HO_476002.out (fun _ hk => ⟨hk.2.2.2.1, ⟨hk.2.2.2.2.1, ⟨hk.2.2.2.2.2, hk.2.2.1⟩⟩⟩)⟩, ⟨by (try simp only [hl482002_108]); (try simp only [hl488002_108]); (with_reducible repeat (first | apply Kd.R_alloc | apply Kd.R_drewN | apply Kd.R_drew)); exact Kd.R_mono HO_482002.out (fun _ hk => ⟨hk.2.2.2.1, ⟨hk.2.2.2.2.1, ⟨hk.2.2.2.2.2, hk.2.2.1⟩⟩⟩)⟩, ⟨by (try simp only [hl482002_108]); (try simp only [hl488002_108]); (with_reducible repeat (first | apply Kd.R_alloc | apply Kd.R_drewN | apply Kd.R_drew)); exact Kd.R_mono HO_488002.out (fun _ hk => ⟨hk.2.2.2.1, ⟨hk.2.2.2.2.1, ⟨hk.2.2.2.2.2, hk.2.2.1⟩⟩⟩)⟩, ⟨by (try simp only [hl482002_108]); (try simp only [hl488002_108]); (with_reducible repeat (first | apply Kd.R_alloc | apply Kd.R_drewN | apply Kd.R_drew)); exact Kd.R_mono HO_495002.out (fun _ hk => ⟨hk.2.2.2.1, ⟨hk.2.2.2.2.1, ⟨hk.2.2.2.2.2, hk.2.2.1⟩⟩⟩)⟩, ⟨by (try simp only [hl482002_108]); (try simp only [hl488002_108]); (with_reducible repeat (first | apply Kd.R_alloc | apply Kd.R_drewN | apply Kd.R_drew)); exact Kd.R_mono HO530.out (fun _ hk => ⟨hk.2.2.1, ⟨hk.2.2.2.1, ⟨hk.2.2.2.2.1, hk.2.2.2.2.2⟩⟩⟩)⟩, ⟨by (try simp only [hl482002_108]); (try simp only [hl488002_108]); refine sB_ ?_; exact BK455.out⟩, ⟨by (try simp only [hl482002_108]); (try simp only [hl488002_108]); refine sB_ ?_; exact BK456.out⟩, ⟨by (try simp only [hl482002_108]); (try simp only [hl488002_108]); refine sB_ ?_; exact BK475.out⟩, ⟨by (try simp only [hl482002_108]); (try simp only [hl488002_108]); refine sB_ ?_; exact BK481.out⟩, ⟨by (try simp only [hl482002_108]); (try simp only [hl488002_108]); refine sB_ ?_; exact BK487.out⟩, ⟨by (try simp only [hl482002_108]); (try simp only [hl488002_108]); refine sB_ ?_; exact BK494.out⟩, ⟨by (try simp only [hl482002_108]); (try simp only [hl488002_108]); refine sB_ ?_; exact BK532.out⟩, ⟨by repeat (first | (with_reducible first | exact HB.out | apply below_alloc | apply pw_below_drewN | apply below_drew1 | refine below_set ?_ GE455.out | refine below_set ?_ GE456.out | refine below_set ?_ GE475.out | refine below_set ?_ GE481.out | refine below_set ?_ GE487.out | refine below_set ?_ GE494.out | refine below_set ?_ GE532.out) | exact HB.out)⟩⟩
        case rest =>
         clear HC166
         try clear c1
         try clear c2
         try clear p2
         try clear c18
         try clear c19
         try clear c20
         try clear c21
         try clear c22
         try clear c189
         try clear c190
         try clear c191
         try clear c192
         try clear c193
         try clear c194
         try clear c195
         try clear c197
         try clear c198
         try clear c199
         try clear c200
         try clear c201
         try clear c204
         try clear c205
         try clear c206
         try clear c207
         try clear c208
         try clear c209
         try clear c211
         try clear c212
         try clear c213
         try clear c214
         try clear c215
         try clear hcz196_0
         try clear hcz196_1
         try clear hcz196_2
         try clear hcz202_0
         try clear hcz202_1
         try clear hcz202_2
         try clear hcz210_0
         try clear hcz210_1
         try clear hcz210_2
         try clear hcz216_0
         try clear hcz216_1
         try clear hcz216_2
         try clear hfz196_0
         try clear hfz196_1
         try clear hfz196_2
         try clear hfz202_0
         try clear hfz202_1
         try clear hfz202_2
         try clear hfz210_0
         try clear hfz210_1
         try clear hfz210_2
         try clear hfz216_0
         try clear hfz216_1
         try clear hfz216_2
         obtain ⟨kq, x110_165, rfl, HA, HJ165, HO_476002, HO_482002, HO_488002, HO_495002, HO_533002, BK455, BK456, BK475, BK481, BK487, BK494, BK532, HB⟩ := hcut
         have hl495002_165 := (Kd.R_reads' HO_495002.out).1
         rw [hl495002_165] at HO_495002
         (try simp only [hl495002_165])
         (try simp only [hl495002_165] at BK455)
         (try simp only [hl495002_165] at BK456)
         (try simp only [hl495002_165] at BK475)
         (try simp only [hl495002_165] at BK481)
         (try simp only [hl495002_165] at BK487)
         (try simp only [hl495002_165] at BK494)
         (try simp only [hl495002_165] at BK532)
         (try simp only [hl495002_165] at HO_476002)
         (try simp only [hl495002_165] at HO_482002)
         (try simp only [hl495002_165] at HO_488002)
         (try simp only [hl495002_165] at HO_533002)
         cases kq with
         | zero => exact absurd HA.out (by simp [laws_FnExactAddPictures.j2])
         | succ kj165 =>
          have H := HA.out; clear HA
          simp only [laws_FnExactAddPictures.j2] at H
          by_cases c218 : x110_165 = true
          ·subst c218
           have H1 : (some false) = some r := by rw [if_pos rfl] at H; exact H
           clear H; have H := H1; clear H1
           exact absurd ((Option.some.inj H).trans hT.out) (by decide)
          replace c218 := Bool.eq_false_iff.mpr c218
          subst c218
          have H1 : ((laws_heldPicture.f kj165 t488 t489 t514 1).bind fun t534 => (if t534 < 0 then (some false) else (if t534 = t513 then (some true) else (some false)))) = some r := by rw [if_neg (show ¬ (false = true) by decide)] at H; exact H
          clear H; have H := H1; clear H1
          replace H := Option.bind_eq_some_iff.mp H
          obtain ⟨t534, A2190, H⟩ := H
          replace H : (if t534 < 0 then (some false) else (if t534 = t513 then (some true) else (some false))) = some r := H
          have A219 := Aside0.mk A2190
          clear A2190
          by_cases c220 : t534 < 0
          ·rw [if_pos c220] at H
           have c220b0 : decide (t534 < 0) = true := decide_eq_true c220
           clear c220
           exact absurd ((Option.some.inj H).trans hT.out) (by decide)
          rw [if_neg c220] at H
          have c220b0 : decide (t534 < 0) = false := decide_eq_false c220
          clear c220
          by_cases c221 : t534 = t513
          ·rw [if_pos c221] at H
           have c221b0 : (t534 == t513) = true := beq_iff_eq.mpr c221
           have c221b1 : (t534 != t513) = false := bne_eq_false_iff_eq.mpr c221
           clear c221
           obtain rfl := Option.some.inj H
           have hnb222 := NB494_455.out; have hnc222 := NB455_494.out; have hnb223 := NB494_456.out; have hnc223 := NB456_494.out; have hnb224 := NB494_475.out; have hnc224 := NB475_494.out; have hnb225 := NB494_481.out; have hnc225 := NB481_494.out; have hnb226 := NB494_487.out; have hnc226 := NB487_494.out; have hnb227 := NB494_532.out; have hnc227 := NB532_494.out
           obtain ⟨hcz228_0, hcz228_1, hcz228_2, hfz228_0, hfz228_1, hfz228_2⟩ := sZ_ BK494.out
           go_wp2_with (first | ((with_reducible refine gate_callee (f := 24) rfl ?_); refine goesL_ (some 113) rfl rfl Try.func24 (by kernel_rfl) rfl #[.agg #[.int .i64 t488, .int .i64 t489, .slice Ao73 t514.length co73], .int .i64 1] rfl sL_ ?_; (with_reducible refine (laws_heldPicture.calls kj165 t488 t489 _ _ t514 1 t534 _ ?side1 ?side2 A219.out).mono ?_); (case side1 => repeat (first | exact (Kd.R_reads' HO_495002.out).2.2 | (with_reducible refine Kd.C_alloc ?_ _) | (with_reducible refine Kd.C_drewN ?_ _) | (with_reducible refine Kd.C_drew ?_))); (case side2 => exact (Kd.R_reads' HO_495002.out).2.1); rintro e w229 ⟨rfl, hb⟩; refine ⟨_, rfl, ?_⟩; have n0_ := Aside0.mk (Kd.R_below (sR_ HO_476002.out) hb); have n1_ := Aside0.mk (Kd.R_below (sR_ HO_482002.out) hb); have n2_ := Aside0.mk (Kd.R_below (sR_ HO_488002.out) hb); have n3_ := Aside0.mk (Kd.R_below (sR_ HO_495002.out) hb); have n4_ := Aside0.mk (Kd.R_below (sR_ HO_533002.out) hb); have n5_ := Aside0.mk (blk_below (sB_ BK455.out) hb); have n6_ := Aside0.mk (blk_below (sB_ BK456.out) hb); have n7_ := Aside0.mk (blk_below (sB_ BK475.out) hb); have n8_ := Aside0.mk (blk_below (sB_ BK481.out) hb); have n9_ := Aside0.mk (blk_below (sB_ BK487.out) hb); have n10_ := Aside0.mk (blk_below (sB_ BK494.out) hb); have n11_ := Aside0.mk (blk_below (sB_ BK532.out) hb); have n12_ := Aside0.mk (below_step (sW_ HB.out) hb); clear HO_476002 HO_482002 HO_488002 HO_495002 HO_533002 BK455 BK456 BK475 BK481 BK487 BK494 BK532 HB; have HO_476002 := n0_; have HO_482002 := n1_; have HO_488002 := n2_; have HO_495002 := n3_; have HO_533002 := n4_; have BK455 := n5_; have BK456 := n6_; have BK475 := n7_; have BK481 := n8_; have BK487 := n9_; have BK494 := n10_; have BK532 := n11_; have HB := n12_; clear n0_ n1_ n2_ n3_ n4_ n5_ n6_ n7_ n8_ n9_ n10_ n11_ n12_; (try clear hb); (try clear hb2); (try clear hk); (try clear hi)))
           go_ret
           exact ⟨by first | rfl | (simp [errW_none, errW_some] <;> rfl) | (simp [*, errW_none, errW_some] <;> rfl), by repeat (first | (with_reducible first | exact HB.out | apply below_alloc | apply pw_below_drewN | apply below_drew1 | refine below_set ?_ GE455.out | refine below_set ?_ GE456.out | refine below_set ?_ GE475.out | refine below_set ?_ GE481.out | refine below_set ?_ GE487.out | refine below_set ?_ GE494.out | refine below_set ?_ GE532.out) | exact HB.out)⟩
          rw [if_neg c221] at H
          have c221b0 : (t534 == t513) = false := beq_eq_false_iff_ne.mpr c221
          have c221b1 : (t534 != t513) = true := bne_iff_ne.mpr c221
          exact absurd ((Option.some.inj H).trans hT.out) (by decide)
       rw [if_neg c162] at H
       have c162b0 : (t515 == t513) = false := beq_eq_false_iff_ne.mpr c162
       have c162b1 : (t515 != t513) = true := bne_iff_ne.mpr c162
       exact absurd ((Option.some.inj H).trans hT.out) (by decide)
    replace c106 := Bool.eq_false_iff.mpr c106
    subst c106
    have H1 : (some false) = some r := by rw [if_neg (show ¬ (false = true) by decide)] at H; exact H
    clear H; have H := H1; clear H1
    exact absurd ((Option.some.inj H).trans hT.out) (by decide)
   replace c103 := Bool.eq_false_iff.mpr c103
   subst c103
   have H1 : (some false) = some r := by rw [if_neg (show ¬ (false = true) by decide)] at H; exact H
   clear H; have H := H1; clear H1
   exact absurd ((Option.some.inj H).trans hT.out) (by decide)

end Go.Proofs.Ytndnklicfibkeaa.P
