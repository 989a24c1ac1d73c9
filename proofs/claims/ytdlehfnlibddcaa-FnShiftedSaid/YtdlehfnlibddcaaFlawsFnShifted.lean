-- Written by tools/seatprint.py (over the kit's print, changed in memory). Not trusted: Lean checks it.
import Derived.Test.YtdlehfnlibddcaaP0
import Derived.Test.YtdlehfnlibddcaaFlawsat
import Derived.Test.YtdlehfnlibddcaaFimplIsMatrix
import Derived.Test.YtdlehfnlibddcaaFimplRankAt
import Derived.Test.YtdlehfnlibddcaaFlawsalike
import Derived.Test.YtdlehfnlibddcaaFspecMakeMatrix
import Derived.Test.YtdlehfnlibddcaaFimplShiftMatrix
namespace Go.Proofs.Ytdlehfnlibddcaa.P
open Go.RowKit Go.Proofs.YtdlehfnlibddcaaW.PrintWords Go.Proofs.YtdlehfnlibddcaaW.PrintLast Go.Proofs.YtdlehfnlibddcaaW.PrintMore
attribute [local go_sem] max2_int min2_int max_two min_two max_three min_three max_four min_four   -- for this text's walks alone
set_option linter.unusedVariables false
set_option linter.unusedSimpArgs false

/-! ### laws_FnShifted: function 15 -/
def laws_FnShifted.j0 : Nat → Int → Int → Int → Int → Bool → Int → Int → List Int → Int → Int → List Int → Option (Bool)
  | 0, _, _, _, _, _, _, _, _, _, _, _ => none
  | k + 1, x4, x5, x6, x7, x50, x875000, x875001, x875002, x885000, x885001, x885002 => if x50 = true then (some false) else ((impl_RankAt.f x885000 x885001 x885002 (wrap64 (x4 + x6)) (wrap64 (x5 + x7))).bind fun t897 => ((impl_RankAt.f x875000 x875001 x875002 x6 x7).bind fun t898 => (some (t897 == t898))))
def laws_FnShifted.f (k : Nat) (l0 : List Int) : Option (Bool) := if (l0.length : Int) > 1048576 then (some true) else ((spec_MakeMatrix.f k l0).bind fun bt869 => ((laws_at.f l0 1).bind fun t875 => ((laws_at.f l0 2).bind fun t876 => ((laws_at.f l0 3).bind fun t877 => ((laws_at.f l0 4).bind fun t878 => ((impl_ShiftMatrix.f bt869.1 bt869.2.1 bt869.2.2 (wrap64 (t875 - 128)) (wrap64 (t876 - 128))).bind fun bt879 => ((impl_IsMatrix.f bt879.1 bt879.2.1 bt879.2.2).bind fun t885 => (if t885 = true then ((impl_ShiftMatrix.f bt879.1 bt879.2.1 bt879.2.2 (wrap64 ((Int.tmod t877 40) - 20)) (wrap64 ((Int.tmod t878 40) - 20))).bind fun bt886 => ((impl_ShiftMatrix.f bt869.1 bt869.2.1 bt869.2.2 (wrap64 ((wrap64 (t875 - 128)) + (wrap64 ((Int.tmod t877 40) - 20)))) (wrap64 ((wrap64 (t876 - 128)) + (wrap64 ((Int.tmod t878 40) - 20))))).bind fun bt891 => ((laws_alike.f k bt886.1 bt886.2.1 bt886.2.2 bt891.1 bt891.2.1 bt891.2.2).bind fun t896 => (laws_FnShifted.j0 k (wrap64 (t875 - 128)) (wrap64 (t876 - 128)) (wrap64 ((Int.tmod t877 40) - 20)) (wrap64 ((Int.tmod t878 40) - 20)) (!t896) bt869.1 bt869.2.1 bt869.2.2 bt879.1 bt879.2.1 bt879.2.2)))) else (laws_FnShifted.j0 k (wrap64 (t875 - 128)) (wrap64 (t876 - 128)) (wrap64 ((Int.tmod t877 40) - 20)) (wrap64 ((Int.tmod t878 40) - 20)) true bt869.1 bt869.2.1 bt869.2.2 bt879.1 bt879.2.1 bt879.2.2)))))))))
theorem laws_FnShifted.mono_l : ∀ k, (∀ y0 y1 y2 y3 y4 y5 y6 y7 y8 y9 y10, LeO (laws_FnShifted.j0 k y0 y1 y2 y3 y4 y5 y6 y7 y8 y9 y10) (laws_FnShifted.j0 (k + 1) y0 y1 y2 y3 y4 y5 y6 y7 y8 y9 y10))
  | 0 => fun _ _ _ _ _ _ _ _ _ _ _ r h => by simp [laws_FnShifted.j0] at h
  | k + 1 => by
    have ih0 := laws_FnShifted.mono_l k
    · intro y0 y1 y2 y3 y4 y5 y6 y7 y8 y9 y10
      unfold laws_FnShifted.j0
      repeat' first
      | (with_reducible exact ih0 _ _ _ _ _ _ _ _ _ _ _)
      | (with_reducible exact laws_alike.mono _ _ _ _ _ _ _)
      | (with_reducible exact spec_MakeMatrix.mono _ _)
      | (with_reducible exact LeO.refl _)
      | (with_reducible exact LeO.none _)
      | (with_reducible refine LeO.ite ?_ ?_)
      | (with_reducible refine LeO.bind ?_ (fun _ => ?_))
      | exact ih0 _ _ _ _ _ _ _ _ _ _ _
      | exact laws_alike.mono _ _ _ _ _ _ _
      | exact spec_MakeMatrix.mono _ _
      | exact LeO.none _
      | refine LeO.ite ?_ ?_
      | refine LeO.bind ?_ (fun _ => ?_)
theorem laws_FnShifted.mono : ∀ a0 k, LeO (laws_FnShifted.f k a0) (laws_FnShifted.f (k + 1) a0) := by
  intro a0 k
  have ih0 := laws_FnShifted.mono_l k
  unfold laws_FnShifted.f
  repeat' first
      | (with_reducible exact ih0 _ _ _ _ _ _ _ _ _ _ _)
      | (with_reducible exact laws_alike.mono _ _ _ _ _ _ _)
      | (with_reducible exact spec_MakeMatrix.mono _ _)
      | (with_reducible exact LeO.refl _)
      | (with_reducible exact LeO.none _)
      | (with_reducible refine LeO.ite ?_ ?_)
      | (with_reducible refine LeO.bind ?_ (fun _ => ?_))
      | exact ih0 _ _ _ _ _ _ _ _ _ _ _
      | exact laws_alike.mono _ _ _ _ _ _ _
      | exact spec_MakeMatrix.mono _ _
      | exact LeO.none _
      | refine LeO.ite ?_ ?_
      | refine LeO.bind ?_ (fun _ => ?_)
def laws_FnShifted.T9 : Bool × List (List Nat × List Nat) := (true, [([], []), ([0], [0]), ([1], [1]), ([2, 1], [2]), ([3], [3]), ([3], [3]), ([3], [3]), ([4, 5, 6, 3, 3], [3, 4, 5, 6]), ([3], [3]), ([3], [3]), ([3], [3]), ([9, 10, 3], [3, 9, 10]), ([3], [3]), ([3], [3]), ([12, 13, 3], [3, 12, 13]), ([8, 11, 14, 7, 3], [3, 8, 11, 14]), ([7, 15, 15, 3], [3, 7, 15]), ([16, 3], [3, 16]), ([3, 17], [3, 17])])
def laws_FnShifted.B9 : List Nat := [0, 1, 3, 7, 15, 15, 15, 127, 15, 15, 15, 1551, 15, 15, 12303, 32767, 65535, 131071, 262143]
theorem laws_FnShifted.tab9 : rtab .any (opsOf Try.f15 9) = laws_FnShifted.T9 := by kernel_rfl
theorem laws_FnShifted.bits9 : waitsOk laws_FnShifted.T9.2 laws_FnShifted.B9 = true := by kernel_rfl
def laws_FnShifted.T11 : Bool × List (List Nat × List Nat) := (true, [([], []), ([], []), ([], []), ([1, 2], [1, 2]), ([], []), ([], []), ([4, 5], [4, 5]), ([0, 3, 6], [0, 3, 6]), ([], []), ([], []), ([], []), ([8, 9, 10, 7], [8, 9, 10]), ([7, 11], [7, 11]), ([12, 11, 0, 1, 2, 3, 4, 5, 6, 7, 8, 9, 10, 11, 12], [12])])
def laws_FnShifted.B11 : List Nat := [0, 0, 0, 6, 0, 0, 48, 127, 0, 0, 0, 2047, 4095, 8191]
theorem laws_FnShifted.tab11 : rtab .any (opsOf Try.f15 11) = laws_FnShifted.T11 := by kernel_rfl
theorem laws_FnShifted.bits11 : waitsOk laws_FnShifted.T11.2 laws_FnShifted.B11 = true := by kernel_rfl
set_option maxHeartbeats 8000000 in
set_option maxRecDepth 100000 in
theorem laws_FnShifted.calls (k : Nat) (A0 : Option Addr) (c0 : Nat) (l0 : List Int) (r : Bool) (w : World) (hr0 : Kd.C (Kd.int .u8) w A0 l0.length l0) (hc0 : l0.length ≤ c0) (hT : Aside0 (r = true)) (h : laws_FnShifted.f k l0 = some r) :
    Calls Try.prog 15 #[.slice A0 l0.length c0] w fun e w' => e = .returned (.bool r) ∧ Below w.heap.size w w' := by
  have hu26 := Try.underlying26
  have HR0 := Aside0.mk hr0
  have HC0 := Aside0.mk hc0
  clear hr0 hc0
  have HB := Aside0.mk (Below.refl w.heap.size w)
  have H : (if (l0.length : Int) > 1048576 then (some true) else ((spec_MakeMatrix.f k l0).bind fun bt869 => ((laws_at.f l0 1).bind fun t875 => ((laws_at.f l0 2).bind fun t876 => ((laws_at.f l0 3).bind fun t877 => ((laws_at.f l0 4).bind fun t878 => ((impl_ShiftMatrix.f bt869.1 bt869.2.1 bt869.2.2 (wrap64 (t875 - 128)) (wrap64 (t876 - 128))).bind fun bt879 => ((impl_IsMatrix.f bt879.1 bt879.2.1 bt879.2.2).bind fun t885 => (if t885 = true then ((impl_ShiftMatrix.f bt879.1 bt879.2.1 bt879.2.2 (wrap64 ((Int.tmod t877 40) - 20)) (wrap64 ((Int.tmod t878 40) - 20))).bind fun bt886 => ((impl_ShiftMatrix.f bt869.1 bt869.2.1 bt869.2.2 (wrap64 ((wrap64 (t875 - 128)) + (wrap64 ((Int.tmod t877 40) - 20)))) (wrap64 ((wrap64 (t876 - 128)) + (wrap64 ((Int.tmod t878 40) - 20))))).bind fun bt891 => ((laws_alike.f k bt886.1 bt886.2.1 bt886.2.2 bt891.1 bt891.2.1 bt891.2.2).bind fun t896 => (laws_FnShifted.j0 k (wrap64 (t875 - 128)) (wrap64 (t876 - 128)) (wrap64 ((Int.tmod t877 40) - 20)) (wrap64 ((Int.tmod t878 40) - 20)) (!t896) bt869.1 bt869.2.1 bt869.2.2 bt879.1 bt879.2.1 bt879.2.2)))) else (laws_FnShifted.j0 k (wrap64 (t875 - 128)) (wrap64 (t876 - 128)) (wrap64 ((Int.tmod t877 40) - 20)) (wrap64 ((Int.tmod t878 40) - 20)) true bt869.1 bt869.2.1 bt869.2.2 bt879.1 bt879.2.1 bt879.2.2)))))))))) = some r := h
  clear h
  by_cases c2 : (l0.length : Int) > 1048576
  · rw [if_pos c2] at H
    have c2b0 : decide (1048576 < (l0.length : Int)) = true := decide_eq_true c2
    have c2b1 : decide (1048576 < l0.length) = true := decide_eq_true (by omega)
    clear c2
    obtain rfl := Option.some.inj H
    go_enter Try.func15, Try.ntmps15
    go_wp2
    go_ret
    exact ⟨by first | rfl | (simp [errW_none, errW_some] <;> rfl) | (simp [*, errW_none, errW_some] <;> rfl), by repeat (first | (with_reducible first | exact HB.out | apply below_alloc | apply pw_below_drewN | apply below_drew1) | exact HB.out)⟩
  · rw [if_neg c2] at H
    have c2b0 : decide (1048576 < (l0.length : Int)) = false := decide_eq_false c2
    have c2b1 : decide (1048576 < l0.length) = false := decide_eq_false (by omega)
    clear c2
    replace H := Option.bind_eq_some_iff.mp H
    obtain ⟨⟨t869, t870, t871⟩, A30, H⟩ := H
    replace H : ((laws_at.f l0 1).bind fun t875 => ((laws_at.f l0 2).bind fun t876 => ((laws_at.f l0 3).bind fun t877 => ((laws_at.f l0 4).bind fun t878 => ((impl_ShiftMatrix.f t869 t870 t871 (wrap64 (t875 - 128)) (wrap64 (t876 - 128))).bind fun bt879 => ((impl_IsMatrix.f bt879.1 bt879.2.1 bt879.2.2).bind fun t885 => (if t885 = true then ((impl_ShiftMatrix.f bt879.1 bt879.2.1 bt879.2.2 (wrap64 ((Int.tmod t877 40) - 20)) (wrap64 ((Int.tmod t878 40) - 20))).bind fun bt886 => ((impl_ShiftMatrix.f t869 t870 t871 (wrap64 ((wrap64 (t875 - 128)) + (wrap64 ((Int.tmod t877 40) - 20)))) (wrap64 ((wrap64 (t876 - 128)) + (wrap64 ((Int.tmod t878 40) - 20))))).bind fun bt891 => ((laws_alike.f k bt886.1 bt886.2.1 bt886.2.2 bt891.1 bt891.2.1 bt891.2.2).bind fun t896 => (laws_FnShifted.j0 k (wrap64 (t875 - 128)) (wrap64 (t876 - 128)) (wrap64 ((Int.tmod t877 40) - 20)) (wrap64 ((Int.tmod t878 40) - 20)) (!t896) t869 t870 t871 bt879.1 bt879.2.1 bt879.2.2)))) else (laws_FnShifted.j0 k (wrap64 (t875 - 128)) (wrap64 (t876 - 128)) (wrap64 ((Int.tmod t877 40) - 20)) (wrap64 ((Int.tmod t878 40) - 20)) true t869 t870 t871 bt879.1 bt879.2.1 bt879.2.2)))))))) = some r := H
    have A3 := Aside0.mk A30
    clear A30
    replace H := Option.bind_eq_some_iff.mp H
    obtain ⟨t875, A40, H⟩ := H
    replace H : ((laws_at.f l0 2).bind fun t876 => ((laws_at.f l0 3).bind fun t877 => ((laws_at.f l0 4).bind fun t878 => ((impl_ShiftMatrix.f t869 t870 t871 (wrap64 (t875 - 128)) (wrap64 (t876 - 128))).bind fun bt879 => ((impl_IsMatrix.f bt879.1 bt879.2.1 bt879.2.2).bind fun t885 => (if t885 = true then ((impl_ShiftMatrix.f bt879.1 bt879.2.1 bt879.2.2 (wrap64 ((Int.tmod t877 40) - 20)) (wrap64 ((Int.tmod t878 40) - 20))).bind fun bt886 => ((impl_ShiftMatrix.f t869 t870 t871 (wrap64 ((wrap64 (t875 - 128)) + (wrap64 ((Int.tmod t877 40) - 20)))) (wrap64 ((wrap64 (t876 - 128)) + (wrap64 ((Int.tmod t878 40) - 20))))).bind fun bt891 => ((laws_alike.f k bt886.1 bt886.2.1 bt886.2.2 bt891.1 bt891.2.1 bt891.2.2).bind fun t896 => (laws_FnShifted.j0 k (wrap64 (t875 - 128)) (wrap64 (t876 - 128)) (wrap64 ((Int.tmod t877 40) - 20)) (wrap64 ((Int.tmod t878 40) - 20)) (!t896) t869 t870 t871 bt879.1 bt879.2.1 bt879.2.2)))) else (laws_FnShifted.j0 k (wrap64 (t875 - 128)) (wrap64 (t876 - 128)) (wrap64 ((Int.tmod t877 40) - 20)) (wrap64 ((Int.tmod t878 40) - 20)) true t869 t870 t871 bt879.1 bt879.2.1 bt879.2.2))))))) = some r := H
    have A4 := Aside0.mk A40
    clear A40
    replace H := Option.bind_eq_some_iff.mp H
    obtain ⟨t876, A50, H⟩ := H
    replace H : ((laws_at.f l0 3).bind fun t877 => ((laws_at.f l0 4).bind fun t878 => ((impl_ShiftMatrix.f t869 t870 t871 (wrap64 (t875 - 128)) (wrap64 (t876 - 128))).bind fun bt879 => ((impl_IsMatrix.f bt879.1 bt879.2.1 bt879.2.2).bind fun t885 => (if t885 = true then ((impl_ShiftMatrix.f bt879.1 bt879.2.1 bt879.2.2 (wrap64 ((Int.tmod t877 40) - 20)) (wrap64 ((Int.tmod t878 40) - 20))).bind fun bt886 => ((impl_ShiftMatrix.f t869 t870 t871 (wrap64 ((wrap64 (t875 - 128)) + (wrap64 ((Int.tmod t877 40) - 20)))) (wrap64 ((wrap64 (t876 - 128)) + (wrap64 ((Int.tmod t878 40) - 20))))).bind fun bt891 => ((laws_alike.f k bt886.1 bt886.2.1 bt886.2.2 bt891.1 bt891.2.1 bt891.2.2).bind fun t896 => (laws_FnShifted.j0 k (wrap64 (t875 - 128)) (wrap64 (t876 - 128)) (wrap64 ((Int.tmod t877 40) - 20)) (wrap64 ((Int.tmod t878 40) - 20)) (!t896) t869 t870 t871 bt879.1 bt879.2.1 bt879.2.2)))) else (laws_FnShifted.j0 k (wrap64 (t875 - 128)) (wrap64 (t876 - 128)) (wrap64 ((Int.tmod t877 40) - 20)) (wrap64 ((Int.tmod t878 40) - 20)) true t869 t870 t871 bt879.1 bt879.2.1 bt879.2.2)))))) = some r := H
    have A5 := Aside0.mk A50
    clear A50
    replace H := Option.bind_eq_some_iff.mp H
    obtain ⟨t877, A60, H⟩ := H
    replace H : ((laws_at.f l0 4).bind fun t878 => ((impl_ShiftMatrix.f t869 t870 t871 (wrap64 (t875 - 128)) (wrap64 (t876 - 128))).bind fun bt879 => ((impl_IsMatrix.f bt879.1 bt879.2.1 bt879.2.2).bind fun t885 => (if t885 = true then ((impl_ShiftMatrix.f bt879.1 bt879.2.1 bt879.2.2 (wrap64 ((Int.tmod t877 40) - 20)) (wrap64 ((Int.tmod t878 40) - 20))).bind fun bt886 => ((impl_ShiftMatrix.f t869 t870 t871 (wrap64 ((wrap64 (t875 - 128)) + (wrap64 ((Int.tmod t877 40) - 20)))) (wrap64 ((wrap64 (t876 - 128)) + (wrap64 ((Int.tmod t878 40) - 20))))).bind fun bt891 => ((laws_alike.f k bt886.1 bt886.2.1 bt886.2.2 bt891.1 bt891.2.1 bt891.2.2).bind fun t896 => (laws_FnShifted.j0 k (wrap64 (t875 - 128)) (wrap64 (t876 - 128)) (wrap64 ((Int.tmod t877 40) - 20)) (wrap64 ((Int.tmod t878 40) - 20)) (!t896) t869 t870 t871 bt879.1 bt879.2.1 bt879.2.2)))) else (laws_FnShifted.j0 k (wrap64 (t875 - 128)) (wrap64 (t876 - 128)) (wrap64 ((Int.tmod t877 40) - 20)) (wrap64 ((Int.tmod t878 40) - 20)) true t869 t870 t871 bt879.1 bt879.2.1 bt879.2.2))))) = some r := H
    have A6 := Aside0.mk A60
    clear A60
    replace H := Option.bind_eq_some_iff.mp H
    obtain ⟨t878, A70, H⟩ := H
    replace H : ((impl_ShiftMatrix.f t869 t870 t871 (wrap64 (t875 - 128)) (wrap64 (t876 - 128))).bind fun bt879 => ((impl_IsMatrix.f bt879.1 bt879.2.1 bt879.2.2).bind fun t885 => (if t885 = true then ((impl_ShiftMatrix.f bt879.1 bt879.2.1 bt879.2.2 (wrap64 ((Int.tmod t877 40) - 20)) (wrap64 ((Int.tmod t878 40) - 20))).bind fun bt886 => ((impl_ShiftMatrix.f t869 t870 t871 (wrap64 ((wrap64 (t875 - 128)) + (wrap64 ((Int.tmod t877 40) - 20)))) (wrap64 ((wrap64 (t876 - 128)) + (wrap64 ((Int.tmod t878 40) - 20))))).bind fun bt891 => ((laws_alike.f k bt886.1 bt886.2.1 bt886.2.2 bt891.1 bt891.2.1 bt891.2.2).bind fun t896 => (laws_FnShifted.j0 k (wrap64 (t875 - 128)) (wrap64 (t876 - 128)) (wrap64 ((Int.tmod t877 40) - 20)) (wrap64 ((Int.tmod t878 40) - 20)) (!t896) t869 t870 t871 bt879.1 bt879.2.1 bt879.2.2)))) else (laws_FnShifted.j0 k (wrap64 (t875 - 128)) (wrap64 (t876 - 128)) (wrap64 ((Int.tmod t877 40) - 20)) (wrap64 ((Int.tmod t878 40) - 20)) true t869 t870 t871 bt879.1 bt879.2.1 bt879.2.2)))) = some r := H
    have A7 := Aside0.mk A70
    clear A70
    replace H := Option.bind_eq_some_iff.mp H
    obtain ⟨⟨t879, t880, t881⟩, A80, H⟩ := H
    replace H : ((impl_IsMatrix.f t879 t880 t881).bind fun t885 => (if t885 = true then ((impl_ShiftMatrix.f t879 t880 t881 (wrap64 ((Int.tmod t877 40) - 20)) (wrap64 ((Int.tmod t878 40) - 20))).bind fun bt886 => ((impl_ShiftMatrix.f t869 t870 t871 (wrap64 ((wrap64 (t875 - 128)) + (wrap64 ((Int.tmod t877 40) - 20)))) (wrap64 ((wrap64 (t876 - 128)) + (wrap64 ((Int.tmod t878 40) - 20))))).bind fun bt891 => ((laws_alike.f k bt886.1 bt886.2.1 bt886.2.2 bt891.1 bt891.2.1 bt891.2.2).bind fun t896 => (laws_FnShifted.j0 k (wrap64 (t875 - 128)) (wrap64 (t876 - 128)) (wrap64 ((Int.tmod t877 40) - 20)) (wrap64 ((Int.tmod t878 40) - 20)) (!t896) t869 t870 t871 t879 t880 t881)))) else (laws_FnShifted.j0 k (wrap64 (t875 - 128)) (wrap64 (t876 - 128)) (wrap64 ((Int.tmod t877 40) - 20)) (wrap64 ((Int.tmod t878 40) - 20)) true t869 t870 t871 t879 t880 t881))) = some r := H
    have A8 := Aside0.mk A80
    clear A80
    have HC9 := Aside0.mk H
    clear H
    go_enter Try.func15, Try.ntmps15
    go_upto_region 9 with (first | ((with_reducible refine gate_callee (f := 37) rfl ?_); refine goesL_ (some 13) rfl rfl Try.func37 (by kernel_rfl) rfl #[.slice A0 l0.length c0] rfl (by (try simp only [List.map_toArray, List.map_cons, List.map_nil]); first | done | rfl | (simp only [List.length_drop, List.length_take]; rfl)) ?_; (with_reducible refine (spec_MakeMatrix.calls k _ _ l0 t869 t870 t871 _ ?side1 ?side2 A3.out).mono ?_); (case side1 => repeat (first | exact HR0.out | (with_reducible refine Kd.C_alloc ?_ _) | (with_reducible refine Kd.C_drewN ?_ _) | (with_reducible refine Kd.C_drew ?_))); (case side2 => exact HC0.out); rintro e w10 ⟨v872, rfl, ho0, hb⟩; refine ⟨_, rfl, ?_⟩; have n0_ := Aside0.mk (Kd.R_lower ho0 (below_size (by repeat (first | (with_reducible first | exact HB.out | apply below_alloc | apply pw_below_drewN | apply below_drew1) | exact HB.out)))); have n1_ := Aside0.mk (below_step (by repeat (first | (with_reducible first | exact HB.out | apply below_alloc | apply pw_below_drewN | apply below_drew1) | exact HB.out)) hb); clear HB; have HO873 := n0_; have HB := n1_; clear n0_ n1_; (try clear hb); (try clear hb2); (try clear hk); (try clear hi); (try clear ho0)) | ((with_reducible refine gate_dst (N := 3) rfl ?_); refine box_event ?hg (N := 3) ?hd (cs := #[.int .i64 0, .int .i64 0, .slice none 0 0]) (t := 26) ?hr ?_; (case hd => rfl); (case hg => rfl); (case hr => first | (go_simp; done) | (go_simp; rfl)); intro gb874 hg w11 hbox hb; have n0_ := Aside0.mk (Kd.R_below (by (with_reducible repeat (first | apply Kd.R_alloc | apply Kd.R_drewN | apply Kd.R_drew)); exact HO873.out) hb); have n1_ := Aside0.mk (below_step (by repeat (first | (with_reducible first | exact HB.out | apply below_alloc | apply pw_below_drewN | apply below_drew1) | exact HB.out)) hb); have n2_ := Aside0.mk (hbox); have n3_ := Aside0.mk ((by rw [hg]; exact (below_size (by repeat (first | (with_reducible first | exact HB.out | apply below_alloc | apply pw_below_drewN | apply below_drew1) | exact HB.out))) : w.heap.size ≤ gb874)); have n4_ := Aside0.mk ((by rw [hg]; exact (below_size (by repeat (first | (with_reducible first | exact HB.out | apply below_alloc | apply pw_below_drewN | apply below_drew1) | exact HB.out))) : w.heap.size ≤ gb874)); clear HO873; clear HB; have HO873 := n0_; have HB := n1_; have BK874 := n2_; have GW874 := n3_; have GE874 := n4_; clear n0_ n1_ n2_ n3_ n4_; clear hb hbox hg; have hcz12_0 : w11.cell? ⟨gb874, 0, none⟩ = some (.int .i64 0) := (blk_cell BK874.out 0).trans rfl; have hcz12_1 : w11.cell? ⟨gb874, 1, none⟩ = some (.int .i64 0) := (blk_cell BK874.out 1).trans rfl; have hcz12_2 : w11.cell? ⟨gb874, 2, none⟩ = some (.slice none 0 0) := (blk_cell BK874.out 2).trans rfl; have hfz12_0 := blk_frozen BK874.out 0; have hfz12_1 := blk_frozen BK874.out 1; have hfz12_2 := blk_frozen BK874.out 2; obtain ⟨Ao13, co13, eo13⟩ := Kd.R_slice HO873.out; subst eo13) | ((with_reducible refine gate_callee (f := 23) rfl ?_); refine goesL_ (some 15) rfl rfl Try.func23 (by kernel_rfl) rfl #[.slice A0 l0.length c0, .int .i64 1] rfl (by (try simp only [List.map_toArray, List.map_cons, List.map_nil]); first | done | rfl | (simp only [List.length_drop, List.length_take]; rfl)) ?_; (with_reducible refine (laws_at.calls _ _ l0 1 t875 _ ?side1 ?side2 A4.out).mono ?_); (case side1 => exact Kd.C_below HR0.out (by repeat (first | (with_reducible first | exact HB.out | apply below_alloc | apply pw_below_drewN | apply below_drew1 | refine below_set ?_ GE874.out) | exact HB.out))); (case side2 => exact HC0.out); rintro e w' ⟨rfl, ⟨nd, rfl⟩⟩; refine ⟨_, rfl, ?_⟩) | ((with_reducible refine gate_callee (f := 23) rfl ?_); refine goesL_ (some 18) rfl rfl Try.func23 (by kernel_rfl) rfl #[.slice A0 l0.length c0, .int .i64 2] rfl (by (try simp only [List.map_toArray, List.map_cons, List.map_nil]); first | done | rfl | (simp only [List.length_drop, List.length_take]; rfl)) ?_; (with_reducible refine (laws_at.calls _ _ l0 2 t876 _ ?side1 ?side2 A5.out).mono ?_); (case side1 => exact Kd.C_below HR0.out (by repeat (first | (with_reducible first | exact HB.out | apply below_alloc | apply pw_below_drewN | apply below_drew1 | refine below_set ?_ GE874.out) | exact HB.out))); (case side2 => exact HC0.out); rintro e w' ⟨rfl, ⟨nd, rfl⟩⟩; refine ⟨_, rfl, ?_⟩) | ((with_reducible refine gate_callee (f := 23) rfl ?_); refine goesL_ (some 21) rfl rfl Try.func23 (by kernel_rfl) rfl #[.slice A0 l0.length c0, .int .i64 3] rfl (by (try simp only [List.map_toArray, List.map_cons, List.map_nil]); first | done | rfl | (simp only [List.length_drop, List.length_take]; rfl)) ?_; (with_reducible refine (laws_at.calls _ _ l0 3 t877 _ ?side1 ?side2 A6.out).mono ?_); (case side1 => exact Kd.C_below HR0.out (by repeat (first | (with_reducible first | exact HB.out | apply below_alloc | apply pw_below_drewN | apply below_drew1 | refine below_set ?_ GE874.out) | exact HB.out))); (case side2 => exact HC0.out); rintro e w' ⟨rfl, ⟨nd, rfl⟩⟩; refine ⟨_, rfl, ?_⟩) | ((with_reducible refine gate_callee (f := 23) rfl ?_); refine goesL_ (some 25) rfl rfl Try.func23 (by kernel_rfl) rfl #[.slice A0 l0.length c0, .int .i64 4] rfl (by (try simp only [List.map_toArray, List.map_cons, List.map_nil]); first | done | rfl | (simp only [List.length_drop, List.length_take]; rfl)) ?_; (with_reducible refine (laws_at.calls _ _ l0 4 t878 _ ?side1 ?side2 A7.out).mono ?_); (case side1 => exact Kd.C_below HR0.out (by repeat (first | (with_reducible first | exact HB.out | apply below_alloc | apply pw_below_drewN | apply below_drew1 | refine below_set ?_ GE874.out) | exact HB.out))); (case side2 => exact HC0.out); rintro e w' ⟨rfl, ⟨nd, rfl⟩⟩; refine ⟨_, rfl, ?_⟩) | ((with_reducible refine gate_callee (f := 61) rfl ?_); refine goesL_ (some 31) rfl rfl Try.func61 (by kernel_rfl) rfl #[.agg #[.int .i64 t869, .int .i64 t870, .slice Ao13 t871.length co13], .int .i64 (wrap64 (t875 - 128)), .int .i64 (wrap64 (t876 - 128))] rfl (by (try simp only [List.map_toArray, List.map_cons, List.map_nil]); first | done | rfl | (simp only [List.length_drop, List.length_take]; rfl)) ?_; (with_reducible refine (impl_ShiftMatrix.calls t869 t870 _ _ t871 (wrap64 (t875 - 128)) (wrap64 (t876 - 128)) t879 t880 t881 _ ?side1 ?side2 A8.out).mono ?_); (case side1 => refine (Kd.R_reads' (e := 3) (base := w.heap.size) (ok := fun k_ => True) (n := t871.length) (c := co13) ?_).2.2; exact (by (with_reducible repeat (first | apply Kd.R_alloc | apply Kd.R_drewN | apply Kd.R_drew)); exact (Kd.R_mono (Kd.R_far (p := ⟨gb874, 2, none⟩) (Kd.R_far (p := ⟨gb874, 1, none⟩) (Kd.R_far (p := ⟨gb874, 0, none⟩) (Kd.R_types HO873.out BK874.out (by decide)) (fun _ hk => hk.2) (.int .i64 t869)) (fun _ hk => hk.2) (.int .i64 t870)) (fun _ hk => hk.2) (.slice Ao13 t871.length co13)) (fun _ h_ => h_.1)))); (case side2 => exact (Kd.R_reads' HO873.out).2.1); rintro e w14 ⟨v882, rfl, ho0, hb⟩; refine ⟨_, rfl, ?_⟩; have n0_ := Aside0.mk (Kd.R_elder' (by (with_reducible repeat (first | apply Kd.R_alloc | apply Kd.R_drewN | apply Kd.R_drew)); exact (Kd.R_mono (Kd.R_far (p := ⟨gb874, 2, none⟩) (Kd.R_far (p := ⟨gb874, 1, none⟩) (Kd.R_far (p := ⟨gb874, 0, none⟩) (Kd.R_types HO873.out BK874.out (by decide)) (fun _ hk => hk.2) (.int .i64 t869)) (fun _ hk => hk.2) (.int .i64 t870)) (fun _ hk => hk.2) (.slice Ao13 t871.length co13)) (fun _ h_ => h_.1))) (Kd.R_base ho0) hb); have n1_ := Aside0.mk (Kd.R_lower (Kd.R_new' ho0 (Kd.R_lt (by (with_reducible repeat (first | apply Kd.R_alloc | apply Kd.R_drewN | apply Kd.R_drew)); exact (Kd.R_mono (Kd.R_far (p := ⟨gb874, 2, none⟩) (Kd.R_far (p := ⟨gb874, 1, none⟩) (Kd.R_far (p := ⟨gb874, 0, none⟩) (Kd.R_types HO873.out BK874.out (by decide)) (fun _ hk => hk.2) (.int .i64 t869)) (fun _ hk => hk.2) (.int .i64 t870)) (fun _ hk => hk.2) (.slice Ao13 t871.length co13)) (fun _ h_ => h_.1))))) (below_size (by repeat (first | (with_reducible first | exact HB.out | apply below_alloc | apply pw_below_drewN | apply below_drew1 | refine below_set ?_ GE874.out) | exact HB.out)))); have n2_ := Aside0.mk (blk_below (g := gb874) (o := .cells #[.int .i64 t869, .int .i64 t870, .slice Ao13 t871.length co13] 26 (0, 0)) (by (with_reducible repeat (first | refine blk_drewN ?_ _ | refine blk_drew ?_ | refine blk_alloc ?_ _)); refine blk_put (cs := #[.int .i64 t869, .int .i64 t870, .slice none 0 0]) ?_ 2 _ rfl; (with_reducible repeat (first | refine blk_drewN ?_ _ | refine blk_drew ?_ | refine blk_alloc ?_ _)); refine blk_put (cs := #[.int .i64 t869, .int .i64 0, .slice none 0 0]) ?_ 1 _ rfl; (with_reducible repeat (first | refine blk_drewN ?_ _ | refine blk_drew ?_ | refine blk_alloc ?_ _)); refine blk_put (cs := #[.int .i64 0, .int .i64 0, .slice none 0 0]) ?_ 0 _ rfl; (with_reducible repeat (first | refine blk_drewN ?_ _ | refine blk_drew ?_ | refine blk_alloc ?_ _)); exact BK874.out) hb); have n3_ := Aside0.mk (below_step (by repeat (first | (with_reducible first | exact HB.out | apply below_alloc | apply pw_below_drewN | apply below_drew1 | refine below_set ?_ GE874.out) | exact HB.out)) hb); clear HO873; clear BK874; clear HB; have HO873 := n0_; have HO883 := n1_; have BK874 := n2_; have HB := n3_; clear n0_ n1_ n2_ n3_; (try clear hb); (try clear hb2); (try clear hk); (try clear hi); (try clear ho0)) | ((with_reducible refine gate_dst (N := 8) rfl ?_); refine box_event ?hg (N := 8) ?hd (cs := #[.int .i64 0, .int .i64 0, .slice none 0 0]) (t := 26) ?hr ?_; (case hd => rfl); (case hg => rfl); (case hr => first | (go_simp; done) | (go_simp; rfl)); intro gb884 hg w15 hbox hb; have n0_ := Aside0.mk (Kd.R_below (by (with_reducible repeat (first | apply Kd.R_alloc | apply Kd.R_drewN | apply Kd.R_drew)); exact HO873.out) hb); have n1_ := Aside0.mk (Kd.R_below (by (with_reducible repeat (first | apply Kd.R_alloc | apply Kd.R_drewN | apply Kd.R_drew)); exact HO883.out) hb); have n2_ := Aside0.mk (blk_below (g := gb874) (o := .cells #[.int .i64 t869, .int .i64 t870, .slice Ao13 t871.length co13] 26 (0, 0)) (by (with_reducible repeat (first | refine blk_drewN ?_ _ | refine blk_drew ?_ | refine blk_alloc ?_ _)); exact BK874.out) hb); have n3_ := Aside0.mk (below_step (by repeat (first | (with_reducible first | exact HB.out | apply below_alloc | apply pw_below_drewN | apply below_drew1 | refine below_set ?_ GE874.out) | exact HB.out)) hb); have n4_ := Aside0.mk (hbox); have n5_ := Aside0.mk ((by rw [hg]; exact (below_size (by repeat (first | (with_reducible first | exact HB.out | apply below_alloc | apply pw_below_drewN | apply below_drew1 | refine below_set ?_ GE874.out) | exact HB.out))) : w.heap.size ≤ gb884)); have n6_ := Aside0.mk ((by rw [hg]; exact (below_size (by repeat (first | (with_reducible first | exact HB.out | apply below_alloc | apply pw_below_drewN | apply below_drew1 | refine below_set ?_ GE874.out) | exact HB.out))) : w.heap.size ≤ gb884)); have n7_ := Aside0.mk ((by rw [hg]; exact Nat.ne_of_lt (blk_lt (g := gb874) (o := .cells #[.int .i64 t869, .int .i64 t870, .slice Ao13 t871.length co13] 26 (0, 0)) (by (with_reducible repeat (first | refine blk_drewN ?_ _ | refine blk_drew ?_ | refine blk_alloc ?_ _)); exact BK874.out)) : gb874 ≠ gb884)); have n8_ := Aside0.mk ((by rw [hg]; exact Nat.ne_of_gt (blk_lt (g := gb874) (o := .cells #[.int .i64 t869, .int .i64 t870, .slice Ao13 t871.length co13] 26 (0, 0)) (by (with_reducible repeat (first | refine blk_drewN ?_ _ | refine blk_drew ?_ | refine blk_alloc ?_ _)); exact BK874.out)) : gb884 ≠ gb874)); clear HO873; clear HO883; clear BK874; clear HB; have HO873 := n0_; have HO883 := n1_; have BK874 := n2_; have HB := n3_; have BK884 := n4_; have GW884 := n5_; have GE884 := n6_; have NB874_884 := n7_; have NB884_874 := n8_; clear n0_ n1_ n2_ n3_ n4_ n5_ n6_ n7_ n8_; clear hb hbox hg; have hnb16 := NB884_874.out; have hnc16 := NB874_884.out; have hcz17_0 : w15.cell? ⟨gb884, 0, none⟩ = some (.int .i64 0) := (blk_cell BK884.out 0).trans rfl; have hcz17_1 : w15.cell? ⟨gb884, 1, none⟩ = some (.int .i64 0) := (blk_cell BK884.out 1).trans rfl; have hcz17_2 : w15.cell? ⟨gb884, 2, none⟩ = some (.slice none 0 0) := (blk_cell BK884.out 2).trans rfl; have hfz17_0 := blk_frozen BK884.out 0; have hfz17_1 := blk_frozen BK884.out 1; have hfz17_2 := blk_frozen BK884.out 2; obtain ⟨Ao18, co18, eo18⟩ := Kd.R_slice HO883.out; subst eo18))
    (try simp only [Act.put, List.setIfInBounds_toArray, List.set_cons_zero, List.set_cons_succ])
    go_cut [50] (fun v50 wc => ∃ (kq : Nat) (x50_8 : Bool), v50 = .bool x50_8 ∧ Aside0 (laws_FnShifted.j0 kq (wrap64 (t875 - 128)) (wrap64 (t876 - 128)) (wrap64 ((Int.tmod t877 40) - 20)) (wrap64 ((Int.tmod t878 40) - 20)) x50_8 t869 t870 t871 t879 t880 t881 = some r) ∧ Aside0 (kq ≤ k) ∧ Aside0 (Kd.R (Kd.int .i64) 3 wc w.heap.size (fun k_ => some k_ ≠ ((.slice Ao18 t881.length co18) : Value).ownBlock) (.slice Ao13 t871.length co13) t871) ∧ Aside0 (Kd.R (Kd.int .i64) 3 wc w.heap.size (fun k_ => some k_ ≠ ((.slice Ao13 t871.length co13) : Value).ownBlock) (.slice Ao18 t881.length co18) t881) ∧ Aside0 (wc.heap[gb874]? = some (.cells #[.int .i64 t869, .int .i64 t870, (.slice Ao13 t871.length co13)] 26 (0, 0))) ∧ Aside0 (wc.heap[gb884]? = some (.cells #[.int .i64 t879, .int .i64 t880, (.slice Ao18 t881.length co18)] 26 (0, 0))) ∧ Aside0 (Below w.heap.size w wc))
    case first =>
      have H := HC9.out
      clear HC9
      replace H := Option.bind_eq_some_iff.mp H
      obtain ⟨t885, A190, H⟩ := H
      replace H : (if t885 = true then ((impl_ShiftMatrix.f t879 t880 t881 (wrap64 ((Int.tmod t877 40) - 20)) (wrap64 ((Int.tmod t878 40) - 20))).bind fun bt886 => ((impl_ShiftMatrix.f t869 t870 t871 (wrap64 ((wrap64 (t875 - 128)) + (wrap64 ((Int.tmod t877 40) - 20)))) (wrap64 ((wrap64 (t876 - 128)) + (wrap64 ((Int.tmod t878 40) - 20))))).bind fun bt891 => ((laws_alike.f k bt886.1 bt886.2.1 bt886.2.2 bt891.1 bt891.2.1 bt891.2.2).bind fun t896 => (laws_FnShifted.j0 k (wrap64 (t875 - 128)) (wrap64 (t876 - 128)) (wrap64 ((Int.tmod t877 40) - 20)) (wrap64 ((Int.tmod t878 40) - 20)) (!t896) t869 t870 t871 t879 t880 t881)))) else (laws_FnShifted.j0 k (wrap64 (t875 - 128)) (wrap64 (t876 - 128)) (wrap64 ((Int.tmod t877 40) - 20)) (wrap64 ((Int.tmod t878 40) - 20)) true t869 t870 t871 t879 t880 t881)) = some r := H
      have A19 := Aside0.mk A190
      clear A190
      by_cases c20 : t885 = true
      · subst c20
        have H1 : ((impl_ShiftMatrix.f t879 t880 t881 (wrap64 ((Int.tmod t877 40) - 20)) (wrap64 ((Int.tmod t878 40) - 20))).bind fun bt886 => ((impl_ShiftMatrix.f t869 t870 t871 (wrap64 ((wrap64 (t875 - 128)) + (wrap64 ((Int.tmod t877 40) - 20)))) (wrap64 ((wrap64 (t876 - 128)) + (wrap64 ((Int.tmod t878 40) - 20))))).bind fun bt891 => ((laws_alike.f k bt886.1 bt886.2.1 bt886.2.2 bt891.1 bt891.2.1 bt891.2.2).bind fun t896 => (laws_FnShifted.j0 k (wrap64 (t875 - 128)) (wrap64 (t876 - 128)) (wrap64 ((Int.tmod t877 40) - 20)) (wrap64 ((Int.tmod t878 40) - 20)) (!t896) t869 t870 t871 t879 t880 t881)))) = some r := by rw [if_pos rfl] at H; exact H
        clear H
        have H := H1
        clear H1
        replace H := Option.bind_eq_some_iff.mp H
        obtain ⟨⟨t886, t887, t888⟩, A210, H⟩ := H
        replace H : ((impl_ShiftMatrix.f t869 t870 t871 (wrap64 ((wrap64 (t875 - 128)) + (wrap64 ((Int.tmod t877 40) - 20)))) (wrap64 ((wrap64 (t876 - 128)) + (wrap64 ((Int.tmod t878 40) - 20))))).bind fun bt891 => ((laws_alike.f k t886 t887 t888 bt891.1 bt891.2.1 bt891.2.2).bind fun t896 => (laws_FnShifted.j0 k (wrap64 (t875 - 128)) (wrap64 (t876 - 128)) (wrap64 ((Int.tmod t877 40) - 20)) (wrap64 ((Int.tmod t878 40) - 20)) (!t896) t869 t870 t871 t879 t880 t881))) = some r := H
        have A21 := Aside0.mk A210
        clear A210
        replace H := Option.bind_eq_some_iff.mp H
        obtain ⟨⟨t891, t892, t893⟩, A220, H⟩ := H
        replace H : ((laws_alike.f k t886 t887 t888 t891 t892 t893).bind fun t896 => (laws_FnShifted.j0 k (wrap64 (t875 - 128)) (wrap64 (t876 - 128)) (wrap64 ((Int.tmod t877 40) - 20)) (wrap64 ((Int.tmod t878 40) - 20)) (!t896) t869 t870 t871 t879 t880 t881)) = some r := H
        have A22 := Aside0.mk A220
        clear A220
        replace H := Option.bind_eq_some_iff.mp H
        obtain ⟨t896, A230, H⟩ := H
        replace H : (laws_FnShifted.j0 k (wrap64 (t875 - 128)) (wrap64 (t876 - 128)) (wrap64 ((Int.tmod t877 40) - 20)) (wrap64 ((Int.tmod t878 40) - 20)) (!t896) t869 t870 t871 t879 t880 t881) = some r := H
        have A23 := Aside0.mk A230
        clear A230
        have H' := Aside0.mk H
        clear H
        try go_wp2
        have n0_ : Aside0 (Kd.R (Kd.int .i64) 3 (((w15.setCell ⟨gb884, 0, none⟩ (.int .i64 t879)).setCell ⟨gb884, 1, none⟩ (.int .i64 t880)).setCell ⟨gb884, 2, none⟩ (.slice Ao18 t881.length co18)) w.heap.size (fun k_ => some k_ ≠ (.slice Ao18 t881.length co18 : Value).ownBlock) (.slice Ao13 t871.length co13) t871) := ⟨by (with_reducible repeat (first | apply Kd.R_alloc | apply Kd.R_drewN | apply Kd.R_drew)); exact Kd.R_mono (Kd.R_far (p := ⟨gb884, 2, none⟩) (Kd.R_far (p := ⟨gb884, 1, none⟩) (Kd.R_far (p := ⟨gb884, 0, none⟩) (Kd.R_types HO873.out BK884.out (by decide)) (fun _ hk => hk.2) (.int .i64 t879)) (fun _ hk => hk.2) (.int .i64 t880)) (fun _ hk => hk.2) (.slice Ao18 t881.length co18)) (fun _ hk => hk.1.2)⟩
        have n1_ : Aside0 (Kd.R (Kd.int .i64) 3 (((w15.setCell ⟨gb884, 0, none⟩ (.int .i64 t879)).setCell ⟨gb884, 1, none⟩ (.int .i64 t880)).setCell ⟨gb884, 2, none⟩ (.slice Ao18 t881.length co18)) w.heap.size (fun k_ => some k_ ≠ (.slice Ao13 t871.length co13 : Value).ownBlock) (.slice Ao18 t881.length co18) t881) := ⟨by (with_reducible repeat (first | apply Kd.R_alloc | apply Kd.R_drewN | apply Kd.R_drew)); exact Kd.R_mono (Kd.R_far (p := ⟨gb884, 2, none⟩) (Kd.R_far (p := ⟨gb884, 1, none⟩) (Kd.R_far (p := ⟨gb884, 0, none⟩) (Kd.R_types HO883.out BK884.out (by decide)) (fun _ hk => hk.2) (.int .i64 t879)) (fun _ hk => hk.2) (.int .i64 t880)) (fun _ hk => hk.2) (.slice Ao18 t881.length co18)) (fun _ hk => hk.1.2)⟩
        have n2_ : Aside0 ((((w15.setCell ⟨gb884, 0, none⟩ (.int .i64 t879)).setCell ⟨gb884, 1, none⟩ (.int .i64 t880)).setCell ⟨gb884, 2, none⟩ (.slice Ao18 t881.length co18)).heap[gb874]? = some (.cells #[.int .i64 t869, .int .i64 t870, .slice Ao13 t871.length co13] 26 (0, 0))) := ⟨by (with_reducible repeat (first | refine blk_drewN ?_ _ | refine blk_drew ?_ | refine blk_alloc ?_ _)); refine blk_far ?_ NB874_884.out _; (with_reducible repeat (first | refine blk_drewN ?_ _ | refine blk_drew ?_ | refine blk_alloc ?_ _)); refine blk_far ?_ NB874_884.out _; (with_reducible repeat (first | refine blk_drewN ?_ _ | refine blk_drew ?_ | refine blk_alloc ?_ _)); refine blk_far ?_ NB874_884.out _; (with_reducible repeat (first | refine blk_drewN ?_ _ | refine blk_drew ?_ | refine blk_alloc ?_ _)); exact BK874.out⟩
        have n3_ : Aside0 ((((w15.setCell ⟨gb884, 0, none⟩ (.int .i64 t879)).setCell ⟨gb884, 1, none⟩ (.int .i64 t880)).setCell ⟨gb884, 2, none⟩ (.slice Ao18 t881.length co18)).heap[gb884]? = some (.cells #[.int .i64 t879, .int .i64 t880, .slice Ao18 t881.length co18] 26 (0, 0))) := ⟨by (with_reducible repeat (first | refine blk_drewN ?_ _ | refine blk_drew ?_ | refine blk_alloc ?_ _)); refine blk_put (cs := #[.int .i64 t879, .int .i64 t880, .slice none 0 0]) ?_ 2 _ rfl; (with_reducible repeat (first | refine blk_drewN ?_ _ | refine blk_drew ?_ | refine blk_alloc ?_ _)); refine blk_put (cs := #[.int .i64 t879, .int .i64 0, .slice none 0 0]) ?_ 1 _ rfl; (with_reducible repeat (first | refine blk_drewN ?_ _ | refine blk_drew ?_ | refine blk_alloc ?_ _)); refine blk_put (cs := #[.int .i64 0, .int .i64 0, .slice none 0 0]) ?_ 0 _ rfl; (with_reducible repeat (first | refine blk_drewN ?_ _ | refine blk_drew ?_ | refine blk_alloc ?_ _)); exact BK884.out⟩
        have n4_ : Aside0 (Below w.heap.size w (((w15.setCell ⟨gb884, 0, none⟩ (.int .i64 t879)).setCell ⟨gb884, 1, none⟩ (.int .i64 t880)).setCell ⟨gb884, 2, none⟩ (.slice Ao18 t881.length co18))) := ⟨by repeat (first | (with_reducible first | exact HB.out | apply below_alloc | apply pw_below_drewN | apply below_drew1 | refine below_set ?_ GE874.out | refine below_set ?_ GE884.out) | exact HB.out)⟩
        (try clear HO873)
        (try clear HO883)
        (try clear BK874)
        (try clear BK884)
        (try clear HB)
        generalize (((w15.setCell ⟨gb884, 0, none⟩ (.int .i64 t879)).setCell ⟨gb884, 1, none⟩ (.int .i64 t880)).setCell ⟨gb884, 2, none⟩ (.slice Ao18 t881.length co18)) = w24 at n0_ n1_ n2_ n3_ n4_ ⊢
        have HO873 := n0_
        have HO883 := n1_
        have BK874 := n2_
        have BK884 := n3_
        have HB := n4_
        clear n0_ n1_ n2_ n3_ n4_
        have n0_ := Aside0.mk (Kd.R_drew HO873.out)
        have n1_ := Aside0.mk (Kd.R_drew HO883.out)
        have n2_ := Aside0.mk (blk_drew BK874.out)
        have n3_ := Aside0.mk (blk_drew BK884.out)
        have n4_ := Aside0.mk (below_drew1 HB.out)
        clear HO873
        clear HO883
        clear BK874
        clear BK884
        clear HB
        have HO873 := n0_
        have HO883 := n1_
        have BK874 := n2_
        have BK884 := n3_
        have HB := n4_
        clear n0_ n1_ n2_ n3_ n4_
        refine start_ (n := 19) (S := fun w' => w'.cell? ⟨gb884, 0, none⟩ = some (.int .i64 t879) ∧ w'.cell? ⟨gb884, 1, none⟩ = some (.int .i64 t880) ∧ w'.cell? ⟨gb884, 2, none⟩ = some (.slice Ao18 t881.length co18) ∧ w'.cell? ⟨gb874, 0, none⟩ = some (.int .i64 t869) ∧ w'.cell? ⟨gb874, 1, none⟩ = some (.int .i64 t870) ∧ w'.cell? ⟨gb874, 2, none⟩ = some (.slice Ao13 t871.length co13)) (ds := []) #[false, false, false, false, false, false, false, false, false, false, false, false, false, false, false, false, false, false, false] (by kernel_rfl) rfl rfl ⟨(blk_cell BK884.out 0).trans rfl, (blk_cell BK884.out 1).trans rfl, (blk_cell BK884.out 2).trans rfl, (blk_cell BK874.out 0).trans rfl, (blk_cell BK874.out 1).trans rfl, (blk_cell BK874.out 2).trans rfl⟩ (fun hHeld => ?_); refine with_tabW laws_FnShifted.tab9 laws_FnShifted.bits9 (fun HT_ HW_ => ?_)
        generalize w24.drew = w25 at HO873 HO883 BK874 BK884 HB hHeld ⊢
        refine take_ (i := 0) (N := some 32) (v := ?_) (a' := ?_) #[true, false, false, false, false, false, false, false, false, false, false, false, false, false, false, false, false, false, false] rfl rfl (take_ofW HT_.out HW_.out (by kernel_rfl)) (fun _ _ _ h => h) (Or.inl ⟨by rfl, ?_⟩) hHeld ?_ ?_
        rotate_left
        · rintro w' ⟨s0, s1, s2, s3, s4, s5⟩
          go_simp
          with_reducible rfl
        rotate_left
        · simp only [Act.put, List.setIfInBounds_toArray, List.set_cons_zero, List.set_cons_succ, i64_w, i32_w]
          rfl
        refine one_ (i := 1) (N := some 33) #[true, true, false, false, false, false, false, false, false, false, false, false, false, false, false, false, false, false, false] rfl rfl (one_of HT_.out (by kernel_rfl)) (by decide) (fun K hK => ?_)
        refine goes_ Try.func28 (by kernel_rfl) rfl #[.agg #[.int .i64 t879, .int .i64 t880, .slice Ao18 t881.length co18]] (by rfl) rfl rfl (by (try simp only [List.map_toArray, List.map_cons, List.map_nil]); first | done | rfl | (simp only [List.length_drop, List.length_take]; rfl)) ?_
        with_reducible refine (impl_IsMatrix.calls t879 t880 _ _ t881 true _ ?side1 ?side2 A19.out).mono ?_
        (case side1 => repeat (first | exact (Kd.R_reads' HO883.out).2.2 | (with_reducible refine Kd.C_alloc ?_ _) | (with_reducible refine Kd.C_drewN ?_ _) | (with_reducible refine Kd.C_drew ?_)))
        (case side2 => exact (Kd.R_reads' HO883.out).2.1)
        rintro e w26 ⟨rfl, hb⟩
        refine ⟨_, rfl, ?_⟩
        have n0_ := Aside0.mk (Kd.R_below (by (with_reducible repeat (first | apply Kd.R_alloc | apply Kd.R_drewN | apply Kd.R_drew)); exact HO873.out) hb)
        have n1_ := Aside0.mk (Kd.R_below (by (with_reducible repeat (first | apply Kd.R_alloc | apply Kd.R_drewN | apply Kd.R_drew)); exact HO883.out) hb)
        have n2_ := Aside0.mk (blk_below (g := gb874) (o := .cells #[.int .i64 t869, .int .i64 t870, .slice Ao13 t871.length co13] 26 (0, 0)) (by (with_reducible repeat (first | refine blk_drewN ?_ _ | refine blk_drew ?_ | refine blk_alloc ?_ _)); exact BK874.out) hb)
        have n3_ := Aside0.mk (blk_below (g := gb884) (o := .cells #[.int .i64 t879, .int .i64 t880, .slice Ao18 t881.length co18] 26 (0, 0)) (by (with_reducible repeat (first | refine blk_drewN ?_ _ | refine blk_drew ?_ | refine blk_alloc ?_ _)); exact BK884.out) hb)
        have n4_ := Aside0.mk (below_step (by repeat (first | (with_reducible first | exact HB.out | apply below_alloc | apply pw_below_drewN | apply below_drew1 | refine below_set ?_ GE874.out | refine below_set ?_ GE884.out) | exact HB.out)) hb)
        clear HO873
        clear HO883
        clear BK874
        clear BK884
        clear HB
        have HO873 := n0_
        have HO883 := n1_
        have BK874 := n2_
        have BK884 := n3_
        have HB := n4_
        clear n0_ n1_ n2_ n3_ n4_
        (try clear hb)
        (try clear hb2)
        (try clear hk)
        (try clear hi)
        refine hK.out _ _ ⟨(blk_cell BK884.out 0).trans rfl, (blk_cell BK884.out 1).trans rfl, (blk_cell BK884.out 2).trans rfl, (blk_cell BK874.out 0).trans rfl, (blk_cell BK874.out 1).trans rfl, (blk_cell BK874.out 2).trans rfl⟩ (fun hHeld => ?_)
        clear hK K
        refine norm_ (a' := ?_) ?_ ?_
        rotate_left
        · show Act.put _ (some 33) _ = _
          simp only [Act.put, List.setIfInBounds_toArray, List.set_cons_zero, List.set_cons_succ, i64_w, i32_w]
          rfl
        refine pure_ (i := 2) (N := some 34) (v := ?_) (a' := ?_) #[true, true, true, false, false, false, false, false, false, false, false, false, false, false, false, false, false, false, false] rfl rfl (any_of HT_.out (by kernel_rfl)) (fun _ _ _ h => h) (Or.inl ⟨by rfl, ?_⟩) ?_ ?_
        rotate_left
        · intro w'
          go_simp
          with_reducible rfl
        rotate_left
        · simp only [Act.put, List.setIfInBounds_toArray, List.set_cons_zero, List.set_cons_succ, i64_w, i32_w]
          rfl
        refine pure_ (i := 3) (N := some 35) (v := ?_) (a' := ?_) #[true, true, true, true, false, false, false, false, false, false, false, false, false, false, false, false, false, false, false] rfl rfl (any_of HT_.out (by kernel_rfl)) (fun _ _ _ h => h) (Or.inl ⟨by rfl, ?_⟩) ?_ ?_
        rotate_left
        · intro w'
          go_simp
          with_reducible rfl
        rotate_left
        · simp only [Act.put, List.setIfInBounds_toArray, List.set_cons_zero, List.set_cons_succ, i64_w, i32_w]
          rfl
        refine pure_ (i := 5) (N := some 37) (v := ?_) (a' := ?_) #[true, true, true, true, false, true, false, false, false, false, false, false, false, false, false, false, false, false, false] rfl rfl (any_of HT_.out (by kernel_rfl)) (fun _ _ _ h => h) (Or.inl ⟨by rfl, ?_⟩) ?_ ?_
        rotate_left
        · intro w'
          go_simp
          with_reducible rfl
        rotate_left
        · simp only [Act.put, List.setIfInBounds_toArray, List.set_cons_zero, List.set_cons_succ, i64_w, i32_w]
          rfl
        refine pure_ (i := 6) (N := some 38) (v := ?_) (a' := ?_) #[true, true, true, true, false, true, true, false, false, false, false, false, false, false, false, false, false, false, false] rfl rfl (any_of HT_.out (by kernel_rfl)) (fun _ _ _ h => h) (Or.inl ⟨by rfl, ?_⟩) ?_ ?_
        rotate_left
        · intro w'
          go_simp
          with_reducible rfl
        rotate_left
        · simp only [Act.put, List.setIfInBounds_toArray, List.set_cons_zero, List.set_cons_succ, i64_w, i32_w]
          rfl
        refine pure_ (i := 9) (N := some 41) (v := ?_) (a' := ?_) #[true, true, true, true, false, true, true, false, false, true, false, false, false, false, false, false, false, false, false] rfl rfl (any_of HT_.out (by kernel_rfl)) (fun _ _ _ h => h) (Or.inl ⟨by rfl, ?_⟩) ?_ ?_
        rotate_left
        · intro w'
          go_simp
          with_reducible rfl
        rotate_left
        · simp only [Act.put, List.setIfInBounds_toArray, List.set_cons_zero, List.set_cons_succ, i64_w, i32_w]
          rfl
        refine pure_ (i := 10) (N := some 42) (v := ?_) (a' := ?_) #[true, true, true, true, false, true, true, false, false, true, true, false, false, false, false, false, false, false, false] rfl rfl (any_of HT_.out (by kernel_rfl)) (fun _ _ _ h => h) (Or.inl ⟨by rfl, ?_⟩) ?_ ?_
        rotate_left
        · intro w'
          go_simp
          with_reducible rfl
        rotate_left
        · simp only [Act.put, List.setIfInBounds_toArray, List.set_cons_zero, List.set_cons_succ, i64_w, i32_w]
          rfl
        refine pure_ (i := 11) (N := some 43) (v := ?_) (a' := ?_) #[true, true, true, true, false, true, true, false, false, true, true, true, false, false, false, false, false, false, false] rfl rfl (any_of HT_.out (by kernel_rfl)) (fun _ _ _ h => h) (Or.inl ⟨by rfl, ?_⟩) ?_ ?_
        rotate_left
        · intro w'
          go_simp
          with_reducible rfl
        rotate_left
        · simp only [Act.put, List.setIfInBounds_toArray, List.set_cons_zero, List.set_cons_succ, i64_w, i32_w]
          rfl
        refine pure_ (i := 12) (N := some 44) (v := ?_) (a' := ?_) #[true, true, true, true, false, true, true, false, false, true, true, true, true, false, false, false, false, false, false] rfl rfl (any_of HT_.out (by kernel_rfl)) (fun _ _ _ h => h) (Or.inl ⟨by rfl, ?_⟩) ?_ ?_
        rotate_left
        · intro w'
          go_simp
          with_reducible rfl
        rotate_left
        · simp only [Act.put, List.setIfInBounds_toArray, List.set_cons_zero, List.set_cons_succ, i64_w, i32_w]
          rfl
        refine pure_ (i := 13) (N := some 45) (v := ?_) (a' := ?_) #[true, true, true, true, false, true, true, false, false, true, true, true, true, true, false, false, false, false, false] rfl rfl (any_of HT_.out (by kernel_rfl)) (fun _ _ _ h => h) (Or.inl ⟨by rfl, ?_⟩) ?_ ?_
        rotate_left
        · intro w'
          go_simp
          with_reducible rfl
        rotate_left
        · simp only [Act.put, List.setIfInBounds_toArray, List.set_cons_zero, List.set_cons_succ, i64_w, i32_w]
          rfl
        refine pure_ (i := 14) (N := some 46) (v := ?_) (a' := ?_) #[true, true, true, true, false, true, true, false, false, true, true, true, true, true, true, false, false, false, false] rfl rfl (any_of HT_.out (by kernel_rfl)) (fun _ _ _ h => h) (Or.inl ⟨by rfl, ?_⟩) ?_ ?_
        rotate_left
        · intro w'
          go_simp
          with_reducible rfl
        rotate_left
        · simp only [Act.put, List.setIfInBounds_toArray, List.set_cons_zero, List.set_cons_succ, i64_w, i32_w]
          rfl
        refine take_ (i := 4) (N := some 36) (v := ?_) (a' := ?_) #[true, true, true, true, true, true, true, false, false, true, true, true, true, true, true, false, false, false, false] rfl rfl (take_ofW HT_.out HW_.out (by kernel_rfl)) (fun _ _ _ h => h) (Or.inl ⟨by rfl, ?_⟩) hHeld ?_ ?_
        rotate_left
        · rintro w' ⟨s0, s1, s2, s3, s4, s5⟩
          go_simp
          with_reducible rfl
        rotate_left
        · simp only [Act.put, List.setIfInBounds_toArray, List.set_cons_zero, List.set_cons_succ, i64_w, i32_w]
          rfl
        refine take_ (i := 8) (N := some 40) (v := ?_) (a' := ?_) #[true, true, true, true, true, true, true, false, true, true, true, true, true, true, true, false, false, false, false] rfl rfl (take_ofW HT_.out HW_.out (by kernel_rfl)) (fun _ _ _ h => h) (Or.inl ⟨by rfl, ?_⟩) hHeld ?_ ?_
        rotate_left
        · rintro w' ⟨s0, s1, s2, s3, s4, s5⟩
          go_simp
          with_reducible rfl
        rotate_left
        · simp only [Act.put, List.setIfInBounds_toArray, List.set_cons_zero, List.set_cons_succ, i64_w, i32_w]
          rfl
        refine one_ (i := 7) (N := some 39) #[true, true, true, true, true, true, true, true, true, true, true, true, true, true, true, false, false, false, false] rfl rfl (one_of HT_.out (by kernel_rfl)) (by decide) (fun K hK => ?_)
        refine goes_ Try.func61 (by kernel_rfl) rfl #[.agg #[.int .i64 t879, .int .i64 t880, .slice Ao18 t881.length co18], .int .i64 (wrap64 ((Int.tmod t877 40) - 20)), .int .i64 (wrap64 ((Int.tmod t878 40) - 20))] (by rfl) rfl rfl (by (try simp only [List.map_toArray, List.map_cons, List.map_nil]); first | done | rfl | (simp only [List.length_drop, List.length_take]; rfl)) ?_
        with_reducible refine (impl_ShiftMatrix.calls t879 t880 _ _ t881 (wrap64 ((Int.tmod t877 40) - 20)) (wrap64 ((Int.tmod t878 40) - 20)) t886 t887 t888 _ ?side1 ?side2 A21.out).mono ?_
        (case side1 => repeat (first | exact (Kd.R_reads' HO883.out).2.2 | (with_reducible refine Kd.C_alloc ?_ _) | (with_reducible refine Kd.C_drewN ?_ _) | (with_reducible refine Kd.C_drew ?_)))
        (case side2 => exact (Kd.R_reads' HO883.out).2.1)
        rintro e w27 ⟨v889, rfl, ho0, hb⟩
        refine ⟨_, rfl, ?_⟩
        have n0_ := Aside0.mk (Kd.R_elder' (by (with_reducible repeat (first | apply Kd.R_alloc | apply Kd.R_drewN | apply Kd.R_drew)); exact HO873.out) (Kd.R_base ho0) hb)
        have n1_ := Aside0.mk (Kd.R_elder' (by (with_reducible repeat (first | apply Kd.R_alloc | apply Kd.R_drewN | apply Kd.R_drew)); exact HO883.out) (Kd.R_base ho0) hb)
        have n2_ := Aside0.mk (Kd.R_lower (Kd.R_new' (Kd.R_new' ho0 (Kd.R_lt (by (with_reducible repeat (first | apply Kd.R_alloc | apply Kd.R_drewN | apply Kd.R_drew)); exact HO873.out))) (Kd.R_lt (by (with_reducible repeat (first | apply Kd.R_alloc | apply Kd.R_drewN | apply Kd.R_drew)); exact HO883.out))) (below_size (by repeat (first | (with_reducible first | exact HB.out | apply below_alloc | apply pw_below_drewN | apply below_drew1 | refine below_set ?_ GE874.out | refine below_set ?_ GE884.out) | exact HB.out))))
        have n3_ := Aside0.mk (blk_below (g := gb874) (o := .cells #[.int .i64 t869, .int .i64 t870, .slice Ao13 t871.length co13] 26 (0, 0)) (by (with_reducible repeat (first | refine blk_drewN ?_ _ | refine blk_drew ?_ | refine blk_alloc ?_ _)); exact BK874.out) hb)
        have n4_ := Aside0.mk (blk_below (g := gb884) (o := .cells #[.int .i64 t879, .int .i64 t880, .slice Ao18 t881.length co18] 26 (0, 0)) (by (with_reducible repeat (first | refine blk_drewN ?_ _ | refine blk_drew ?_ | refine blk_alloc ?_ _)); exact BK884.out) hb)
        have n5_ := Aside0.mk (below_step (by repeat (first | (with_reducible first | exact HB.out | apply below_alloc | apply pw_below_drewN | apply below_drew1 | refine below_set ?_ GE874.out | refine below_set ?_ GE884.out) | exact HB.out)) hb)
        clear HO873
        clear HO883
        clear BK874
        clear BK884
        clear HB
        have HO873 := n0_
        have HO883 := n1_
        have HO890 := n2_
        have BK874 := n3_
        have BK884 := n4_
        have HB := n5_
        clear n0_ n1_ n2_ n3_ n4_ n5_
        (try clear hb)
        (try clear hb2)
        (try clear hk)
        (try clear hi)
        (try clear ho0)
        refine hK.out _ _ ⟨(blk_cell BK884.out 0).trans rfl, (blk_cell BK884.out 1).trans rfl, (blk_cell BK884.out 2).trans rfl, (blk_cell BK874.out 0).trans rfl, (blk_cell BK874.out 1).trans rfl, (blk_cell BK874.out 2).trans rfl⟩ (fun hHeld => ?_)
        clear hK K
        refine norm_ (a' := ?_) ?_ ?_
        rotate_left
        · show Act.put _ (some 39) _ = _
          simp only [Act.put, List.setIfInBounds_toArray, List.set_cons_zero, List.set_cons_succ, i64_w, i32_w]
          rfl
        refine one_ (i := 15) (N := some 47) #[true, true, true, true, true, true, true, true, true, true, true, true, true, true, true, true, false, false, false] rfl rfl (one_of HT_.out (by kernel_rfl)) (by decide) (fun K hK => ?_)
        refine goes_ Try.func61 (by kernel_rfl) rfl #[.agg #[.int .i64 t869, .int .i64 t870, .slice Ao13 t871.length co13], .int .i64 (wrap64 ((wrap64 (t875 - 128)) + (wrap64 ((Int.tmod t877 40) - 20)))), .int .i64 (wrap64 ((wrap64 (t876 - 128)) + (wrap64 ((Int.tmod t878 40) - 20))))] (by rfl) rfl rfl (by (try simp only [List.map_toArray, List.map_cons, List.map_nil]); first | done | rfl | (simp only [List.length_drop, List.length_take]; rfl)) ?_
        with_reducible refine (impl_ShiftMatrix.calls t869 t870 _ _ t871 (wrap64 ((wrap64 (t875 - 128)) + (wrap64 ((Int.tmod t877 40) - 20)))) (wrap64 ((wrap64 (t876 - 128)) + (wrap64 ((Int.tmod t878 40) - 20)))) t891 t892 t893 _ ?side1 ?side2 A22.out).mono ?_
        (case side1 => repeat (first | exact (Kd.R_reads' HO873.out).2.2 | (with_reducible refine Kd.C_alloc ?_ _) | (with_reducible refine Kd.C_drewN ?_ _) | (with_reducible refine Kd.C_drew ?_)))
        (case side2 => exact (Kd.R_reads' HO873.out).2.1)
        rintro e w28 ⟨v894, rfl, ho0, hb⟩
        refine ⟨_, rfl, ?_⟩
        have n0_ := Aside0.mk (Kd.R_elder' (by (with_reducible repeat (first | apply Kd.R_alloc | apply Kd.R_drewN | apply Kd.R_drew)); exact HO873.out) (Kd.R_base ho0) hb)
        have n1_ := Aside0.mk (Kd.R_elder' (by (with_reducible repeat (first | apply Kd.R_alloc | apply Kd.R_drewN | apply Kd.R_drew)); exact HO883.out) (Kd.R_base ho0) hb)
        have n2_ := Aside0.mk (Kd.R_elder' (by (with_reducible repeat (first | apply Kd.R_alloc | apply Kd.R_drewN | apply Kd.R_drew)); exact HO890.out) (Kd.R_base ho0) hb)
        have n3_ := Aside0.mk (Kd.R_lower (Kd.R_new' (Kd.R_new' (Kd.R_new' ho0 (Kd.R_lt (by (with_reducible repeat (first | apply Kd.R_alloc | apply Kd.R_drewN | apply Kd.R_drew)); exact HO873.out))) (Kd.R_lt (by (with_reducible repeat (first | apply Kd.R_alloc | apply Kd.R_drewN | apply Kd.R_drew)); exact HO883.out))) (Kd.R_lt (by (with_reducible repeat (first | apply Kd.R_alloc | apply Kd.R_drewN | apply Kd.R_drew)); exact HO890.out))) (below_size (by repeat (first | (with_reducible first | exact HB.out | apply below_alloc | apply pw_below_drewN | apply below_drew1 | refine below_set ?_ GE874.out | refine below_set ?_ GE884.out) | exact HB.out))))
        have n4_ := Aside0.mk (blk_below (g := gb874) (o := .cells #[.int .i64 t869, .int .i64 t870, .slice Ao13 t871.length co13] 26 (0, 0)) (by (with_reducible repeat (first | refine blk_drewN ?_ _ | refine blk_drew ?_ | refine blk_alloc ?_ _)); exact BK874.out) hb)
        have n5_ := Aside0.mk (blk_below (g := gb884) (o := .cells #[.int .i64 t879, .int .i64 t880, .slice Ao18 t881.length co18] 26 (0, 0)) (by (with_reducible repeat (first | refine blk_drewN ?_ _ | refine blk_drew ?_ | refine blk_alloc ?_ _)); exact BK884.out) hb)
        have n6_ := Aside0.mk (below_step (by repeat (first | (with_reducible first | exact HB.out | apply below_alloc | apply pw_below_drewN | apply below_drew1 | refine below_set ?_ GE874.out | refine below_set ?_ GE884.out) | exact HB.out)) hb)
        clear HO873
        clear HO883
        clear HO890
        clear BK874
        clear BK884
        clear HB
        have HO873 := n0_
        have HO883 := n1_
        have HO890 := n2_
        have HO895 := n3_
        have BK874 := n4_
        have BK884 := n5_
        have HB := n6_
        clear n0_ n1_ n2_ n3_ n4_ n5_ n6_
        (try clear hb)
        (try clear hb2)
        (try clear hk)
        (try clear hi)
        (try clear ho0)
        obtain ⟨Ao29, co29, eo29⟩ := Kd.R_slice HO890.out
        (first | subst eo29 | (injection eo29 with f1_ f2_ f3_; have f4_ := f1_.symm; have f5_ := f3_.symm; clear f1_ f2_ f3_; subst f4_; subst f5_))
        obtain ⟨Ao30, co30, eo30⟩ := Kd.R_slice HO895.out
        (first | subst eo30 | (injection eo30 with f1_ f2_ f3_; have f4_ := f1_.symm; have f5_ := f3_.symm; clear f1_ f2_ f3_; subst f4_; subst f5_))
        refine hK.out _ _ ⟨(blk_cell BK884.out 0).trans rfl, (blk_cell BK884.out 1).trans rfl, (blk_cell BK884.out 2).trans rfl, (blk_cell BK874.out 0).trans rfl, (blk_cell BK874.out 1).trans rfl, (blk_cell BK874.out 2).trans rfl⟩ (fun hHeld => ?_)
        clear hK K
        refine norm_ (a' := ?_) ?_ ?_
        rotate_left
        · show Act.put _ (some 47) _ = _
          simp only [Act.put, List.setIfInBounds_toArray, List.set_cons_zero, List.set_cons_succ, i64_w, i32_w]
          rfl
        refine one_ (i := 16) (N := some 48) #[true, true, true, true, true, true, true, true, true, true, true, true, true, true, true, true, true, false, false] rfl rfl (one_of HT_.out (by kernel_rfl)) (by decide) (fun K hK => ?_)
        refine goes_ Try.func32 (by kernel_rfl) rfl #[.agg #[.int .i64 t886, .int .i64 t887, .slice Ao29 t888.length co29], .agg #[.int .i64 t891, .int .i64 t892, .slice Ao30 t893.length co30]] (by rfl) rfl rfl (by (try simp only [List.map_toArray, List.map_cons, List.map_nil]); first | done | rfl | (simp only [List.length_drop, List.length_take]; rfl)) ?_
        with_reducible refine (laws_alike.calls k t886 t887 _ _ t888 t891 t892 _ _ t893 t896 _ ?side1 ?side2 ?side3 ?side4 A23.out).mono ?_
        (case side1 => repeat (first | exact (Kd.R_reads' HO890.out).2.2 | (with_reducible refine Kd.C_alloc ?_ _) | (with_reducible refine Kd.C_drewN ?_ _) | (with_reducible refine Kd.C_drew ?_)))
        (case side2 => exact (Kd.R_reads' HO890.out).2.1)
        (case side3 => repeat (first | exact (Kd.R_reads' HO895.out).2.2 | (with_reducible refine Kd.C_alloc ?_ _) | (with_reducible refine Kd.C_drewN ?_ _) | (with_reducible refine Kd.C_drew ?_)))
        (case side4 => exact (Kd.R_reads' HO895.out).2.1)
        rintro e w31 ⟨rfl, hb⟩
        refine ⟨_, rfl, ?_⟩
        have n0_ := Aside0.mk (Kd.R_below (by (with_reducible repeat (first | apply Kd.R_alloc | apply Kd.R_drewN | apply Kd.R_drew)); exact HO873.out) hb)
        have n1_ := Aside0.mk (Kd.R_below (by (with_reducible repeat (first | apply Kd.R_alloc | apply Kd.R_drewN | apply Kd.R_drew)); exact HO883.out) hb)
        have n2_ := Aside0.mk (Kd.R_below (by (with_reducible repeat (first | apply Kd.R_alloc | apply Kd.R_drewN | apply Kd.R_drew)); exact HO890.out) hb)
        have n3_ := Aside0.mk (Kd.R_below (by (with_reducible repeat (first | apply Kd.R_alloc | apply Kd.R_drewN | apply Kd.R_drew)); exact HO895.out) hb)
        have n4_ := Aside0.mk (blk_below (g := gb874) (o := .cells #[.int .i64 t869, .int .i64 t870, .slice Ao13 t871.length co13] 26 (0, 0)) (by (with_reducible repeat (first | refine blk_drewN ?_ _ | refine blk_drew ?_ | refine blk_alloc ?_ _)); exact BK874.out) hb)
        have n5_ := Aside0.mk (blk_below (g := gb884) (o := .cells #[.int .i64 t879, .int .i64 t880, .slice Ao18 t881.length co18] 26 (0, 0)) (by (with_reducible repeat (first | refine blk_drewN ?_ _ | refine blk_drew ?_ | refine blk_alloc ?_ _)); exact BK884.out) hb)
        have n6_ := Aside0.mk (below_step (by repeat (first | (with_reducible first | exact HB.out | apply below_alloc | apply pw_below_drewN | apply below_drew1 | refine below_set ?_ GE874.out | refine below_set ?_ GE884.out) | exact HB.out)) hb)
        clear HO873
        clear HO883
        clear HO890
        clear HO895
        clear BK874
        clear BK884
        clear HB
        have HO873 := n0_
        have HO883 := n1_
        have HO890 := n2_
        have HO895 := n3_
        have BK874 := n4_
        have BK884 := n5_
        have HB := n6_
        clear n0_ n1_ n2_ n3_ n4_ n5_ n6_
        (try clear hb)
        (try clear hb2)
        (try clear hk)
        (try clear hi)
        refine hK.out _ _ ⟨(blk_cell BK884.out 0).trans rfl, (blk_cell BK884.out 1).trans rfl, (blk_cell BK884.out 2).trans rfl, (blk_cell BK874.out 0).trans rfl, (blk_cell BK874.out 1).trans rfl, (blk_cell BK874.out 2).trans rfl⟩ (fun hHeld => ?_)
        clear hK K
        refine norm_ (a' := ?_) ?_ ?_
        rotate_left
        · show Act.put _ (some 48) _ = _
          simp only [Act.put, List.setIfInBounds_toArray, List.set_cons_zero, List.set_cons_succ, i64_w, i32_w]
          rfl
        refine pure_ (i := 17) (N := some 49) (v := ?_) (a' := ?_) #[true, true, true, true, true, true, true, true, true, true, true, true, true, true, true, true, true, true, false] rfl rfl (any_of HT_.out (by kernel_rfl)) (fun _ _ _ h => h) (Or.inl ⟨by rfl, ?_⟩) ?_ ?_
        rotate_left
        · intro w'
          go_simp
          with_reducible rfl
        rotate_left
        · simp only [Act.put, List.setIfInBounds_toArray, List.set_cons_zero, List.set_cons_succ, i64_w, i32_w]
          rfl
        refine pure_ (i := 18) (N := some 50) (v := ?_) (a' := ?_) #[true, true, true, true, true, true, true, true, true, true, true, true, true, true, true, true, true, true, true] rfl rfl (any_of HT_.out (by kernel_rfl)) (fun _ _ _ h => h) (Or.inl ⟨by rfl, ?_⟩) ?_ ?_
        rotate_left
        · intro w'
          go_simp
          with_reducible rfl
        rotate_left
        · simp only [Act.put, List.setIfInBounds_toArray, List.set_cons_zero, List.set_cons_succ, i64_w, i32_w]
          rfl
        refine done_ (done_of HT_.out (by kernel_rfl)) ?_
        try go_wp2
        go_meet
        case rel => exact ⟨_, (!t896), (by first | rfl | (simp; done) | (simp [*]; done)), H', ⟨by first | omega | exact Nat.le_refl _⟩, ⟨by (with_reducible repeat (first | apply Kd.R_alloc | apply Kd.R_drewN | apply Kd.R_drew)); exact Kd.R_mono HO873.out (fun _ hk => hk.1.1)⟩, ⟨by (with_reducible repeat (first | apply Kd.R_alloc | apply Kd.R_drewN | apply Kd.R_drew)); exact Kd.R_mono HO883.out (fun _ hk => hk.1.1)⟩, ⟨by (with_reducible repeat (first | refine blk_drewN ?_ _ | refine blk_drew ?_ | refine blk_alloc ?_ _)); exact BK874.out⟩, ⟨by (with_reducible repeat (first | refine blk_drewN ?_ _ | refine blk_drew ?_ | refine blk_alloc ?_ _)); exact BK884.out⟩, ⟨by repeat (first | (with_reducible first | exact HB.out | apply below_alloc | apply pw_below_drewN | apply below_drew1 | refine below_set ?_ GE874.out | refine below_set ?_ GE884.out) | exact HB.out)⟩⟩
      · replace c20 := Bool.eq_false_iff.mpr c20
        subst c20
        have H1 : (laws_FnShifted.j0 k (wrap64 (t875 - 128)) (wrap64 (t876 - 128)) (wrap64 ((Int.tmod t877 40) - 20)) (wrap64 ((Int.tmod t878 40) - 20)) true t869 t870 t871 t879 t880 t881) = some r := by rw [if_neg (show ¬ (false = true) by decide)] at H; exact H
        clear H
        have H := H1
        clear H1
        have H' := Aside0.mk H
        clear H
        try go_wp2
        have n0_ : Aside0 (Kd.R (Kd.int .i64) 3 (((w15.setCell ⟨gb884, 0, none⟩ (.int .i64 t879)).setCell ⟨gb884, 1, none⟩ (.int .i64 t880)).setCell ⟨gb884, 2, none⟩ (.slice Ao18 t881.length co18)) w.heap.size (fun k_ => some k_ ≠ (.slice Ao18 t881.length co18 : Value).ownBlock) (.slice Ao13 t871.length co13) t871) := ⟨by (with_reducible repeat (first | apply Kd.R_alloc | apply Kd.R_drewN | apply Kd.R_drew)); exact Kd.R_mono (Kd.R_far (p := ⟨gb884, 2, none⟩) (Kd.R_far (p := ⟨gb884, 1, none⟩) (Kd.R_far (p := ⟨gb884, 0, none⟩) (Kd.R_types HO873.out BK884.out (by decide)) (fun _ hk => hk.2) (.int .i64 t879)) (fun _ hk => hk.2) (.int .i64 t880)) (fun _ hk => hk.2) (.slice Ao18 t881.length co18)) (fun _ hk => hk.1.2)⟩
        have n1_ : Aside0 (Kd.R (Kd.int .i64) 3 (((w15.setCell ⟨gb884, 0, none⟩ (.int .i64 t879)).setCell ⟨gb884, 1, none⟩ (.int .i64 t880)).setCell ⟨gb884, 2, none⟩ (.slice Ao18 t881.length co18)) w.heap.size (fun k_ => some k_ ≠ (.slice Ao13 t871.length co13 : Value).ownBlock) (.slice Ao18 t881.length co18) t881) := ⟨by (with_reducible repeat (first | apply Kd.R_alloc | apply Kd.R_drewN | apply Kd.R_drew)); exact Kd.R_mono (Kd.R_far (p := ⟨gb884, 2, none⟩) (Kd.R_far (p := ⟨gb884, 1, none⟩) (Kd.R_far (p := ⟨gb884, 0, none⟩) (Kd.R_types HO883.out BK884.out (by decide)) (fun _ hk => hk.2) (.int .i64 t879)) (fun _ hk => hk.2) (.int .i64 t880)) (fun _ hk => hk.2) (.slice Ao18 t881.length co18)) (fun _ hk => hk.1.2)⟩
        have n2_ : Aside0 ((((w15.setCell ⟨gb884, 0, none⟩ (.int .i64 t879)).setCell ⟨gb884, 1, none⟩ (.int .i64 t880)).setCell ⟨gb884, 2, none⟩ (.slice Ao18 t881.length co18)).heap[gb874]? = some (.cells #[.int .i64 t869, .int .i64 t870, .slice Ao13 t871.length co13] 26 (0, 0))) := ⟨by (with_reducible repeat (first | refine blk_drewN ?_ _ | refine blk_drew ?_ | refine blk_alloc ?_ _)); refine blk_far ?_ NB874_884.out _; (with_reducible repeat (first | refine blk_drewN ?_ _ | refine blk_drew ?_ | refine blk_alloc ?_ _)); refine blk_far ?_ NB874_884.out _; (with_reducible repeat (first | refine blk_drewN ?_ _ | refine blk_drew ?_ | refine blk_alloc ?_ _)); refine blk_far ?_ NB874_884.out _; (with_reducible repeat (first | refine blk_drewN ?_ _ | refine blk_drew ?_ | refine blk_alloc ?_ _)); exact BK874.out⟩
        have n3_ : Aside0 ((((w15.setCell ⟨gb884, 0, none⟩ (.int .i64 t879)).setCell ⟨gb884, 1, none⟩ (.int .i64 t880)).setCell ⟨gb884, 2, none⟩ (.slice Ao18 t881.length co18)).heap[gb884]? = some (.cells #[.int .i64 t879, .int .i64 t880, .slice Ao18 t881.length co18] 26 (0, 0))) := ⟨by (with_reducible repeat (first | refine blk_drewN ?_ _ | refine blk_drew ?_ | refine blk_alloc ?_ _)); refine blk_put (cs := #[.int .i64 t879, .int .i64 t880, .slice none 0 0]) ?_ 2 _ rfl; (with_reducible repeat (first | refine blk_drewN ?_ _ | refine blk_drew ?_ | refine blk_alloc ?_ _)); refine blk_put (cs := #[.int .i64 t879, .int .i64 0, .slice none 0 0]) ?_ 1 _ rfl; (with_reducible repeat (first | refine blk_drewN ?_ _ | refine blk_drew ?_ | refine blk_alloc ?_ _)); refine blk_put (cs := #[.int .i64 0, .int .i64 0, .slice none 0 0]) ?_ 0 _ rfl; (with_reducible repeat (first | refine blk_drewN ?_ _ | refine blk_drew ?_ | refine blk_alloc ?_ _)); exact BK884.out⟩
        have n4_ : Aside0 (Below w.heap.size w (((w15.setCell ⟨gb884, 0, none⟩ (.int .i64 t879)).setCell ⟨gb884, 1, none⟩ (.int .i64 t880)).setCell ⟨gb884, 2, none⟩ (.slice Ao18 t881.length co18))) := ⟨by repeat (first | (with_reducible first | exact HB.out | apply below_alloc | apply pw_below_drewN | apply below_drew1 | refine below_set ?_ GE874.out | refine below_set ?_ GE884.out) | exact HB.out)⟩
        (try clear HO873)
        (try clear HO883)
        (try clear BK874)
        (try clear BK884)
        (try clear HB)
        generalize (((w15.setCell ⟨gb884, 0, none⟩ (.int .i64 t879)).setCell ⟨gb884, 1, none⟩ (.int .i64 t880)).setCell ⟨gb884, 2, none⟩ (.slice Ao18 t881.length co18)) = w32 at n0_ n1_ n2_ n3_ n4_ ⊢
        have HO873 := n0_
        have HO883 := n1_
        have BK874 := n2_
        have BK884 := n3_
        have HB := n4_
        clear n0_ n1_ n2_ n3_ n4_
        have n0_ := Aside0.mk (Kd.R_drew HO873.out)
        have n1_ := Aside0.mk (Kd.R_drew HO883.out)
        have n2_ := Aside0.mk (blk_drew BK874.out)
        have n3_ := Aside0.mk (blk_drew BK884.out)
        have n4_ := Aside0.mk (below_drew1 HB.out)
        clear HO873
        clear HO883
        clear BK874
        clear BK884
        clear HB
        have HO873 := n0_
        have HO883 := n1_
        have BK874 := n2_
        have BK884 := n3_
        have HB := n4_
        clear n0_ n1_ n2_ n3_ n4_
        refine start_ (n := 19) (S := fun w' => w'.cell? ⟨gb884, 0, none⟩ = some (.int .i64 t879) ∧ w'.cell? ⟨gb884, 1, none⟩ = some (.int .i64 t880) ∧ w'.cell? ⟨gb884, 2, none⟩ = some (.slice Ao18 t881.length co18)) (ds := []) #[false, false, false, false, false, false, false, false, false, false, false, false, false, false, false, false, false, false, false] (by kernel_rfl) rfl rfl ⟨(blk_cell BK884.out 0).trans rfl, (blk_cell BK884.out 1).trans rfl, (blk_cell BK884.out 2).trans rfl⟩ (fun hHeld => ?_); refine with_tabW laws_FnShifted.tab9 laws_FnShifted.bits9 (fun HT_ HW_ => ?_)
        generalize w32.drew = w33 at HO873 HO883 BK874 BK884 HB hHeld ⊢
        refine take_ (i := 0) (N := some 32) (v := ?_) (a' := ?_) #[true, false, false, false, false, false, false, false, false, false, false, false, false, false, false, false, false, false, false] rfl rfl (take_ofW HT_.out HW_.out (by kernel_rfl)) (fun _ _ _ h => h) (Or.inl ⟨by rfl, ?_⟩) hHeld ?_ ?_
        rotate_left
        · rintro w' ⟨s0, s1, s2⟩
          go_simp
          with_reducible rfl
        rotate_left
        · simp only [Act.put, List.setIfInBounds_toArray, List.set_cons_zero, List.set_cons_succ, i64_w, i32_w]
          rfl
        refine one_ (i := 1) (N := some 33) #[true, true, false, false, false, false, false, false, false, false, false, false, false, false, false, false, false, false, false] rfl rfl (one_of HT_.out (by kernel_rfl)) (by decide) (fun K hK => ?_)
        refine goes_ Try.func28 (by kernel_rfl) rfl #[.agg #[.int .i64 t879, .int .i64 t880, .slice Ao18 t881.length co18]] (by rfl) rfl rfl (by (try simp only [List.map_toArray, List.map_cons, List.map_nil]); first | done | rfl | (simp only [List.length_drop, List.length_take]; rfl)) ?_
        with_reducible refine (impl_IsMatrix.calls t879 t880 _ _ t881 false _ ?side1 ?side2 A19.out).mono ?_
        (case side1 => repeat (first | exact (Kd.R_reads' HO883.out).2.2 | (with_reducible refine Kd.C_alloc ?_ _) | (with_reducible refine Kd.C_drewN ?_ _) | (with_reducible refine Kd.C_drew ?_)))
        (case side2 => exact (Kd.R_reads' HO883.out).2.1)
        rintro e w34 ⟨rfl, hb⟩
        refine ⟨_, rfl, ?_⟩
        have n0_ := Aside0.mk (Kd.R_below (by (with_reducible repeat (first | apply Kd.R_alloc | apply Kd.R_drewN | apply Kd.R_drew)); exact HO873.out) hb)
        have n1_ := Aside0.mk (Kd.R_below (by (with_reducible repeat (first | apply Kd.R_alloc | apply Kd.R_drewN | apply Kd.R_drew)); exact HO883.out) hb)
        have n2_ := Aside0.mk (blk_below (g := gb874) (o := .cells #[.int .i64 t869, .int .i64 t870, .slice Ao13 t871.length co13] 26 (0, 0)) (by (with_reducible repeat (first | refine blk_drewN ?_ _ | refine blk_drew ?_ | refine blk_alloc ?_ _)); exact BK874.out) hb)
        have n3_ := Aside0.mk (blk_below (g := gb884) (o := .cells #[.int .i64 t879, .int .i64 t880, .slice Ao18 t881.length co18] 26 (0, 0)) (by (with_reducible repeat (first | refine blk_drewN ?_ _ | refine blk_drew ?_ | refine blk_alloc ?_ _)); exact BK884.out) hb)
        have n4_ := Aside0.mk (below_step (by repeat (first | (with_reducible first | exact HB.out | apply below_alloc | apply pw_below_drewN | apply below_drew1 | refine below_set ?_ GE874.out | refine below_set ?_ GE884.out) | exact HB.out)) hb)
        clear HO873
        clear HO883
        clear BK874
        clear BK884
        clear HB
        have HO873 := n0_
        have HO883 := n1_
        have BK874 := n2_
        have BK884 := n3_
        have HB := n4_
        clear n0_ n1_ n2_ n3_ n4_
        (try clear hb)
        (try clear hb2)
        (try clear hk)
        (try clear hi)
        refine hK.out _ _ ⟨(blk_cell BK884.out 0).trans rfl, (blk_cell BK884.out 1).trans rfl, (blk_cell BK884.out 2).trans rfl⟩ (fun hHeld => ?_)
        clear hK K
        refine norm_ (a' := ?_) ?_ ?_
        rotate_left
        · show Act.put _ (some 33) _ = _
          simp only [Act.put, List.setIfInBounds_toArray, List.set_cons_zero, List.set_cons_succ, i64_w, i32_w]
          rfl
        refine pure_ (i := 2) (N := some 34) (v := ?_) (a' := ?_) #[true, true, true, false, false, false, false, false, false, false, false, false, false, false, false, false, false, false, false] rfl rfl (any_of HT_.out (by kernel_rfl)) (fun _ _ _ h => h) (Or.inl ⟨by rfl, ?_⟩) ?_ ?_
        rotate_left
        · intro w'
          go_simp
          with_reducible rfl
        rotate_left
        · simp only [Act.put, List.setIfInBounds_toArray, List.set_cons_zero, List.set_cons_succ, i64_w, i32_w]
          rfl
        refine pure_ (i := 3) (N := some 35) (v := ?_) (a' := ?_) #[true, true, true, true, false, false, false, false, false, false, false, false, false, false, false, false, false, false, false] rfl rfl (any_of HT_.out (by kernel_rfl)) (fun _ _ _ h => h) (Or.inl ⟨by rfl, ?_⟩) ?_ ?_
        rotate_left
        · intro w'
          go_simp
          with_reducible rfl
        rotate_left
        · simp only [Act.put, List.setIfInBounds_toArray, List.set_cons_zero, List.set_cons_succ, i64_w, i32_w]
          rfl
        refine pure_ (i := 4) (N := some 36) (v := undef) (a' := ?_) #[true, true, true, true, true, false, false, false, false, false, false, false, false, false, false, false, false, false, false] rfl rfl (any_of HT_.out (by kernel_rfl)) (fun _ _ _ h => h) (Or.inr ⟨by rfl, rfl⟩) ?_ ?_
        rotate_left
        · simp only [Act.put, List.setIfInBounds_toArray, List.set_cons_zero, List.set_cons_succ, i64_w, i32_w]
          rfl
        refine pure_ (i := 5) (N := some 37) (v := undef) (a' := ?_) #[true, true, true, true, true, true, false, false, false, false, false, false, false, false, false, false, false, false, false] rfl rfl (any_of HT_.out (by kernel_rfl)) (fun _ _ _ h => h) (Or.inr ⟨by rfl, rfl⟩) ?_ ?_
        rotate_left
        · simp only [Act.put, List.setIfInBounds_toArray, List.set_cons_zero, List.set_cons_succ, i64_w, i32_w]
          rfl
        refine pure_ (i := 6) (N := some 38) (v := undef) (a' := ?_) #[true, true, true, true, true, true, true, false, false, false, false, false, false, false, false, false, false, false, false] rfl rfl (any_of HT_.out (by kernel_rfl)) (fun _ _ _ h => h) (Or.inr ⟨by rfl, rfl⟩) ?_ ?_
        rotate_left
        · simp only [Act.put, List.setIfInBounds_toArray, List.set_cons_zero, List.set_cons_succ, i64_w, i32_w]
          rfl
        refine pure_ (i := 7) (N := some 39) (v := undef) (a' := ?_) #[true, true, true, true, true, true, true, true, false, false, false, false, false, false, false, false, false, false, false] rfl rfl (any_of HT_.out (by kernel_rfl)) (fun _ _ _ h => h) (Or.inr ⟨by rfl, rfl⟩) ?_ ?_
        rotate_left
        · simp only [Act.put, List.setIfInBounds_toArray, List.set_cons_zero, List.set_cons_succ, i64_w, i32_w]
          rfl
        refine pure_ (i := 8) (N := some 40) (v := undef) (a' := ?_) #[true, true, true, true, true, true, true, true, true, false, false, false, false, false, false, false, false, false, false] rfl rfl (any_of HT_.out (by kernel_rfl)) (fun _ _ _ h => h) (Or.inr ⟨by rfl, rfl⟩) ?_ ?_
        rotate_left
        · simp only [Act.put, List.setIfInBounds_toArray, List.set_cons_zero, List.set_cons_succ, i64_w, i32_w]
          rfl
        refine pure_ (i := 9) (N := some 41) (v := undef) (a' := ?_) #[true, true, true, true, true, true, true, true, true, true, false, false, false, false, false, false, false, false, false] rfl rfl (any_of HT_.out (by kernel_rfl)) (fun _ _ _ h => h) (Or.inr ⟨by rfl, rfl⟩) ?_ ?_
        rotate_left
        · simp only [Act.put, List.setIfInBounds_toArray, List.set_cons_zero, List.set_cons_succ, i64_w, i32_w]
          rfl
        refine pure_ (i := 10) (N := some 42) (v := undef) (a' := ?_) #[true, true, true, true, true, true, true, true, true, true, true, false, false, false, false, false, false, false, false] rfl rfl (any_of HT_.out (by kernel_rfl)) (fun _ _ _ h => h) (Or.inr ⟨by rfl, rfl⟩) ?_ ?_
        rotate_left
        · simp only [Act.put, List.setIfInBounds_toArray, List.set_cons_zero, List.set_cons_succ, i64_w, i32_w]
          rfl
        refine pure_ (i := 11) (N := some 43) (v := undef) (a' := ?_) #[true, true, true, true, true, true, true, true, true, true, true, true, false, false, false, false, false, false, false] rfl rfl (any_of HT_.out (by kernel_rfl)) (fun _ _ _ h => h) (Or.inr ⟨by rfl, rfl⟩) ?_ ?_
        rotate_left
        · simp only [Act.put, List.setIfInBounds_toArray, List.set_cons_zero, List.set_cons_succ, i64_w, i32_w]
          rfl
        refine pure_ (i := 12) (N := some 44) (v := undef) (a' := ?_) #[true, true, true, true, true, true, true, true, true, true, true, true, true, false, false, false, false, false, false] rfl rfl (any_of HT_.out (by kernel_rfl)) (fun _ _ _ h => h) (Or.inr ⟨by rfl, rfl⟩) ?_ ?_
        rotate_left
        · simp only [Act.put, List.setIfInBounds_toArray, List.set_cons_zero, List.set_cons_succ, i64_w, i32_w]
          rfl
        refine pure_ (i := 13) (N := some 45) (v := undef) (a' := ?_) #[true, true, true, true, true, true, true, true, true, true, true, true, true, true, false, false, false, false, false] rfl rfl (any_of HT_.out (by kernel_rfl)) (fun _ _ _ h => h) (Or.inr ⟨by rfl, rfl⟩) ?_ ?_
        rotate_left
        · simp only [Act.put, List.setIfInBounds_toArray, List.set_cons_zero, List.set_cons_succ, i64_w, i32_w]
          rfl
        refine pure_ (i := 14) (N := some 46) (v := undef) (a' := ?_) #[true, true, true, true, true, true, true, true, true, true, true, true, true, true, true, false, false, false, false] rfl rfl (any_of HT_.out (by kernel_rfl)) (fun _ _ _ h => h) (Or.inr ⟨by rfl, rfl⟩) ?_ ?_
        rotate_left
        · simp only [Act.put, List.setIfInBounds_toArray, List.set_cons_zero, List.set_cons_succ, i64_w, i32_w]
          rfl
        refine pure_ (i := 15) (N := some 47) (v := undef) (a' := ?_) #[true, true, true, true, true, true, true, true, true, true, true, true, true, true, true, true, false, false, false] rfl rfl (any_of HT_.out (by kernel_rfl)) (fun _ _ _ h => h) (Or.inr ⟨by rfl, rfl⟩) ?_ ?_
        rotate_left
        · simp only [Act.put, List.setIfInBounds_toArray, List.set_cons_zero, List.set_cons_succ, i64_w, i32_w]
          rfl
        refine pure_ (i := 16) (N := some 48) (v := undef) (a' := ?_) #[true, true, true, true, true, true, true, true, true, true, true, true, true, true, true, true, true, false, false] rfl rfl (any_of HT_.out (by kernel_rfl)) (fun _ _ _ h => h) (Or.inr ⟨by rfl, rfl⟩) ?_ ?_
        rotate_left
        · simp only [Act.put, List.setIfInBounds_toArray, List.set_cons_zero, List.set_cons_succ, i64_w, i32_w]
          rfl
        refine pure_ (i := 17) (N := some 49) (v := undef) (a' := ?_) #[true, true, true, true, true, true, true, true, true, true, true, true, true, true, true, true, true, true, false] rfl rfl (any_of HT_.out (by kernel_rfl)) (fun _ _ _ h => h) (Or.inr ⟨by rfl, rfl⟩) ?_ ?_
        rotate_left
        · simp only [Act.put, List.setIfInBounds_toArray, List.set_cons_zero, List.set_cons_succ, i64_w, i32_w]
          rfl
        refine pure_ (i := 18) (N := some 50) (v := ?_) (a' := ?_) #[true, true, true, true, true, true, true, true, true, true, true, true, true, true, true, true, true, true, true] rfl rfl (any_of HT_.out (by kernel_rfl)) (fun _ _ _ h => h) (Or.inl ⟨by rfl, ?_⟩) ?_ ?_
        rotate_left
        · intro w'
          go_simp
          with_reducible rfl
        rotate_left
        · simp only [Act.put, List.setIfInBounds_toArray, List.set_cons_zero, List.set_cons_succ, i64_w, i32_w]
          rfl
        refine done_ (done_of HT_.out (by kernel_rfl)) ?_
        try go_wp2
        go_meet
        case rel => exact ⟨_, (true), (by first | rfl | (simp; done) | (simp [*]; done)), H', ⟨by first | omega | exact Nat.le_refl _⟩, ⟨by (with_reducible repeat (first | apply Kd.R_alloc | apply Kd.R_drewN | apply Kd.R_drew)); exact HO873.out⟩, ⟨by (with_reducible repeat (first | apply Kd.R_alloc | apply Kd.R_drewN | apply Kd.R_drew)); exact HO883.out⟩, ⟨by (with_reducible repeat (first | refine blk_drewN ?_ _ | refine blk_drew ?_ | refine blk_alloc ?_ _)); exact BK874.out⟩, ⟨by (with_reducible repeat (first | refine blk_drewN ?_ _ | refine blk_drew ?_ | refine blk_alloc ?_ _)); exact BK884.out⟩, ⟨by repeat (first | (with_reducible first | exact HB.out | apply below_alloc | apply pw_below_drewN | apply below_drew1 | refine below_set ?_ GE874.out | refine below_set ?_ GE884.out) | exact HB.out)⟩⟩
    case rest =>
      clear HC9
      try clear c1
      try clear c2
      try clear c2b0
      try clear c2b1
      try clear p2
      try clear c3
      try clear c6
      try clear p6
      try clear c15
      try clear c16
      try clear c20
      try clear c23
      try clear c28
      try clear c32
      try clear hcz12_0
      try clear hcz12_1
      try clear hcz12_2
      try clear hcz17_0
      try clear hcz17_1
      try clear hcz17_2
      try clear hfz12_0
      try clear hfz12_1
      try clear hfz12_2
      try clear hfz17_0
      try clear hfz17_1
      try clear hfz17_2
      obtain ⟨kq, x50_8, rfl, HA, HJ8, HO_875002, HO_885002, BK874, BK884, HB⟩ := hcut
      cases kq with
      | zero => exact absurd HA.out (by simp [laws_FnShifted.j0])
      | succ kj8 =>
        have H := HA.out
        clear HA
        simp only [laws_FnShifted.j0] at H
        by_cases c35 : x50_8 = true
        · subst c35
          have H1 : (some false) = some r := by rw [if_pos rfl] at H; exact H
          clear H
          have H := H1
          clear H1
          exact absurd ((Option.some.inj H).trans hT.out) (by decide)
        · replace c35 := Bool.eq_false_iff.mpr c35
          subst c35
          have H1 : ((impl_RankAt.f t879 t880 t881 (wrap64 ((wrap64 (t875 - 128)) + (wrap64 ((Int.tmod t877 40) - 20)))) (wrap64 ((wrap64 (t876 - 128)) + (wrap64 ((Int.tmod t878 40) - 20))))).bind fun t897 => ((impl_RankAt.f t869 t870 t871 (wrap64 ((Int.tmod t877 40) - 20)) (wrap64 ((Int.tmod t878 40) - 20))).bind fun t898 => (some (t897 == t898)))) = some r := by rw [if_neg (show ¬ (false = true) by decide)] at H; exact H
          clear H
          have H := H1
          clear H1
          replace H := Option.bind_eq_some_iff.mp H
          obtain ⟨t897, A360, H⟩ := H
          replace H : ((impl_RankAt.f t869 t870 t871 (wrap64 ((Int.tmod t877 40) - 20)) (wrap64 ((Int.tmod t878 40) - 20))).bind fun t898 => (some (t897 == t898))) = some r := H
          have A36 := Aside0.mk A360
          clear A360
          replace H := Option.bind_eq_some_iff.mp H
          obtain ⟨t898, A370, H⟩ := H
          replace H : (some (t897 == t898)) = some r := H
          have A37 := Aside0.mk A370
          clear A370
          obtain rfl := Option.some.inj H
          try go_wp2
          have n0_ := Aside0.mk (Kd.R_drew HO_875002.out)
          have n1_ := Aside0.mk (Kd.R_drew HO_885002.out)
          have n2_ := Aside0.mk (blk_drew BK874.out)
          have n3_ := Aside0.mk (blk_drew BK884.out)
          have n4_ := Aside0.mk (below_drew1 HB.out)
          clear HO_875002
          clear HO_885002
          clear BK874
          clear BK884
          clear HB
          have HO_875002 := n0_
          have HO_885002 := n1_
          have BK874 := n2_
          have BK884 := n3_
          have HB := n4_
          clear n0_ n1_ n2_ n3_ n4_
          refine start_ (n := 14) (S := fun w' => w'.cell? ⟨gb884, 0, none⟩ = some (.int .i64 t879) ∧ w'.cell? ⟨gb884, 1, none⟩ = some (.int .i64 t880) ∧ w'.cell? ⟨gb884, 2, none⟩ = some (.slice Ao18 t881.length co18) ∧ w'.cell? ⟨gb874, 0, none⟩ = some (.int .i64 t869) ∧ w'.cell? ⟨gb874, 1, none⟩ = some (.int .i64 t870) ∧ w'.cell? ⟨gb874, 2, none⟩ = some (.slice Ao13 t871.length co13)) (ds := []) #[false, false, false, false, false, false, false, false, false, false, false, false, false, false] (by kernel_rfl) rfl rfl ⟨(blk_cell BK884.out 0).trans rfl, (blk_cell BK884.out 1).trans rfl, (blk_cell BK884.out 2).trans rfl, (blk_cell BK874.out 0).trans rfl, (blk_cell BK874.out 1).trans rfl, (blk_cell BK874.out 2).trans rfl⟩ (fun hHeld => ?_); refine with_tabW laws_FnShifted.tab11 laws_FnShifted.bits11 (fun HT_ HW_ => ?_)
          generalize wc.drew = w38 at HO_875002 HO_885002 BK874 BK884 HB hHeld ⊢
          refine pure_ (i := 1) (N := some 52) (v := ?_) (a' := ?_) #[false, true, false, false, false, false, false, false, false, false, false, false, false, false] rfl rfl (any_of HT_.out (by kernel_rfl)) (fun _ _ _ h => h) (Or.inl ⟨by rfl, ?_⟩) ?_ ?_
          rotate_left
          · intro w'
            go_simp
            with_reducible rfl
          rotate_left
          · simp only [Act.put, List.setIfInBounds_toArray, List.set_cons_zero, List.set_cons_succ, i64_w, i32_w]
            rfl
          refine pure_ (i := 2) (N := some 53) (v := ?_) (a' := ?_) #[false, true, true, false, false, false, false, false, false, false, false, false, false, false] rfl rfl (any_of HT_.out (by kernel_rfl)) (fun _ _ _ h => h) (Or.inl ⟨by rfl, ?_⟩) ?_ ?_
          rotate_left
          · intro w'
            go_simp
            with_reducible rfl
          rotate_left
          · simp only [Act.put, List.setIfInBounds_toArray, List.set_cons_zero, List.set_cons_succ, i64_w, i32_w]
            rfl
          refine pure_ (i := 3) (N := some 54) (v := ?_) (a' := ?_) #[false, true, true, true, false, false, false, false, false, false, false, false, false, false] rfl rfl (any_of HT_.out (by kernel_rfl)) (fun _ _ _ h => h) (Or.inl ⟨by rfl, ?_⟩) ?_ ?_
          rotate_left
          · intro w'
            go_simp
            with_reducible rfl
          rotate_left
          · simp only [Act.put, List.setIfInBounds_toArray, List.set_cons_zero, List.set_cons_succ, i64_w, i32_w]
            rfl
          refine pure_ (i := 4) (N := some 55) (v := ?_) (a' := ?_) #[false, true, true, true, true, false, false, false, false, false, false, false, false, false] rfl rfl (any_of HT_.out (by kernel_rfl)) (fun _ _ _ h => h) (Or.inl ⟨by rfl, ?_⟩) ?_ ?_
          rotate_left
          · intro w'
            go_simp
            with_reducible rfl
          rotate_left
          · simp only [Act.put, List.setIfInBounds_toArray, List.set_cons_zero, List.set_cons_succ, i64_w, i32_w]
            rfl
          refine pure_ (i := 5) (N := some 56) (v := ?_) (a' := ?_) #[false, true, true, true, true, true, false, false, false, false, false, false, false, false] rfl rfl (any_of HT_.out (by kernel_rfl)) (fun _ _ _ h => h) (Or.inl ⟨by rfl, ?_⟩) ?_ ?_
          rotate_left
          · intro w'
            go_simp
            with_reducible rfl
          rotate_left
          · simp only [Act.put, List.setIfInBounds_toArray, List.set_cons_zero, List.set_cons_succ, i64_w, i32_w]
            rfl
          refine pure_ (i := 6) (N := some 57) (v := ?_) (a' := ?_) #[false, true, true, true, true, true, true, false, false, false, false, false, false, false] rfl rfl (any_of HT_.out (by kernel_rfl)) (fun _ _ _ h => h) (Or.inl ⟨by rfl, ?_⟩) ?_ ?_
          rotate_left
          · intro w'
            go_simp
            with_reducible rfl
          rotate_left
          · simp only [Act.put, List.setIfInBounds_toArray, List.set_cons_zero, List.set_cons_succ, i64_w, i32_w]
            rfl
          refine pure_ (i := 9) (N := some 60) (v := ?_) (a' := ?_) #[false, true, true, true, true, true, true, false, false, true, false, false, false, false] rfl rfl (any_of HT_.out (by kernel_rfl)) (fun _ _ _ h => h) (Or.inl ⟨by rfl, ?_⟩) ?_ ?_
          rotate_left
          · intro w'
            go_simp
            with_reducible rfl
          rotate_left
          · simp only [Act.put, List.setIfInBounds_toArray, List.set_cons_zero, List.set_cons_succ, i64_w, i32_w]
            rfl
          refine pure_ (i := 10) (N := some 61) (v := ?_) (a' := ?_) #[false, true, true, true, true, true, true, false, false, true, true, false, false, false] rfl rfl (any_of HT_.out (by kernel_rfl)) (fun _ _ _ h => h) (Or.inl ⟨by rfl, ?_⟩) ?_ ?_
          rotate_left
          · intro w'
            go_simp
            with_reducible rfl
          rotate_left
          · simp only [Act.put, List.setIfInBounds_toArray, List.set_cons_zero, List.set_cons_succ, i64_w, i32_w]
            rfl
          refine take_ (i := 0) (N := some 51) (v := ?_) (a' := ?_) #[true, true, true, true, true, true, true, false, false, true, true, false, false, false] rfl rfl (take_ofW HT_.out HW_.out (by kernel_rfl)) (fun _ _ _ h => h) (Or.inl ⟨by rfl, ?_⟩) hHeld ?_ ?_
          rotate_left
          · rintro w' ⟨s0, s1, s2, s3, s4, s5⟩
            go_simp
            with_reducible rfl
          rotate_left
          · simp only [Act.put, List.setIfInBounds_toArray, List.set_cons_zero, List.set_cons_succ, i64_w, i32_w]
            rfl
          refine take_ (i := 8) (N := some 59) (v := ?_) (a' := ?_) #[true, true, true, true, true, true, true, false, true, true, true, false, false, false] rfl rfl (take_ofW HT_.out HW_.out (by kernel_rfl)) (fun _ _ _ h => h) (Or.inl ⟨by rfl, ?_⟩) hHeld ?_ ?_
          rotate_left
          · rintro w' ⟨s0, s1, s2, s3, s4, s5⟩
            go_simp
            with_reducible rfl
          rotate_left
          · simp only [Act.put, List.setIfInBounds_toArray, List.set_cons_zero, List.set_cons_succ, i64_w, i32_w]
            rfl
          refine one_ (i := 7) (N := some 58) #[true, true, true, true, true, true, true, true, true, true, true, false, false, false] rfl rfl (one_of HT_.out (by kernel_rfl)) (by decide) (fun K hK => ?_)
          refine goes_ Try.func29 (by kernel_rfl) rfl #[.agg #[.int .i64 t879, .int .i64 t880, .slice Ao18 t881.length co18], .int .i64 (wrap64 ((wrap64 (t875 - 128)) + (wrap64 ((Int.tmod t877 40) - 20)))), .int .i64 (wrap64 ((wrap64 (t876 - 128)) + (wrap64 ((Int.tmod t878 40) - 20))))] (by rfl) rfl rfl (by (try simp only [List.map_toArray, List.map_cons, List.map_nil]); first | done | rfl | (simp only [List.length_drop, List.length_take]; rfl)) ?_
          with_reducible refine (impl_RankAt.calls t879 t880 _ _ t881 (wrap64 ((wrap64 (t875 - 128)) + (wrap64 ((Int.tmod t877 40) - 20)))) (wrap64 ((wrap64 (t876 - 128)) + (wrap64 ((Int.tmod t878 40) - 20)))) t897 _ ?side1 ?side2 A36.out).mono ?_
          (case side1 => repeat (first | exact (Kd.R_reads' HO_885002.out).2.2 | (with_reducible refine Kd.C_alloc ?_ _) | (with_reducible refine Kd.C_drewN ?_ _) | (with_reducible refine Kd.C_drew ?_)))
          (case side2 => exact (Kd.R_reads' HO_885002.out).2.1)
          rintro e w39 ⟨rfl, hb⟩
          refine ⟨_, rfl, ?_⟩
          have n0_ := Aside0.mk (Kd.R_below (by (with_reducible repeat (first | apply Kd.R_alloc | apply Kd.R_drewN | apply Kd.R_drew)); exact HO_875002.out) hb)
          have n1_ := Aside0.mk (Kd.R_below (by (with_reducible repeat (first | apply Kd.R_alloc | apply Kd.R_drewN | apply Kd.R_drew)); exact HO_885002.out) hb)
          have n2_ := Aside0.mk (blk_below (g := gb874) (o := .cells #[.int .i64 t869, .int .i64 t870, .slice Ao13 t871.length co13] 26 (0, 0)) (by (with_reducible repeat (first | refine blk_drewN ?_ _ | refine blk_drew ?_ | refine blk_alloc ?_ _)); exact BK874.out) hb)
          have n3_ := Aside0.mk (blk_below (g := gb884) (o := .cells #[.int .i64 t879, .int .i64 t880, .slice Ao18 t881.length co18] 26 (0, 0)) (by (with_reducible repeat (first | refine blk_drewN ?_ _ | refine blk_drew ?_ | refine blk_alloc ?_ _)); exact BK884.out) hb)
          have n4_ := Aside0.mk (below_step (by repeat (first | (with_reducible first | exact HB.out | apply below_alloc | apply pw_below_drewN | apply below_drew1 | refine below_set ?_ GE874.out | refine below_set ?_ GE884.out) | exact HB.out)) hb)
          clear HO_875002
          clear HO_885002
          clear BK874
          clear BK884
          clear HB
          have HO_875002 := n0_
          have HO_885002 := n1_
          have BK874 := n2_
          have BK884 := n3_
          have HB := n4_
          clear n0_ n1_ n2_ n3_ n4_
          (try clear hb)
          (try clear hb2)
          (try clear hk)
          (try clear hi)
          refine hK.out _ _ ⟨(blk_cell BK884.out 0).trans rfl, (blk_cell BK884.out 1).trans rfl, (blk_cell BK884.out 2).trans rfl, (blk_cell BK874.out 0).trans rfl, (blk_cell BK874.out 1).trans rfl, (blk_cell BK874.out 2).trans rfl⟩ (fun hHeld => ?_)
          clear hK K
          refine norm_ (a' := ?_) ?_ ?_
          rotate_left
          · show Act.put _ (some 58) _ = _
            simp only [Act.put, List.setIfInBounds_toArray, List.set_cons_zero, List.set_cons_succ, i64_w, i32_w]
            rfl
          refine one_ (i := 11) (N := some 62) #[true, true, true, true, true, true, true, true, true, true, true, true, false, false] rfl rfl (one_of HT_.out (by kernel_rfl)) (by decide) (fun K hK => ?_)
          refine goes_ Try.func29 (by kernel_rfl) rfl #[.agg #[.int .i64 t869, .int .i64 t870, .slice Ao13 t871.length co13], .int .i64 (wrap64 ((Int.tmod t877 40) - 20)), .int .i64 (wrap64 ((Int.tmod t878 40) - 20))] (by rfl) rfl rfl (by (try simp only [List.map_toArray, List.map_cons, List.map_nil]); first | done | rfl | (simp only [List.length_drop, List.length_take]; rfl)) ?_
          with_reducible refine (impl_RankAt.calls t869 t870 _ _ t871 (wrap64 ((Int.tmod t877 40) - 20)) (wrap64 ((Int.tmod t878 40) - 20)) t898 _ ?side1 ?side2 A37.out).mono ?_
          (case side1 => repeat (first | exact (Kd.R_reads' HO_875002.out).2.2 | (with_reducible refine Kd.C_alloc ?_ _) | (with_reducible refine Kd.C_drewN ?_ _) | (with_reducible refine Kd.C_drew ?_)))
          (case side2 => exact (Kd.R_reads' HO_875002.out).2.1)
          rintro e w40 ⟨rfl, hb⟩
          refine ⟨_, rfl, ?_⟩
          have n0_ := Aside0.mk (Kd.R_below (by (with_reducible repeat (first | apply Kd.R_alloc | apply Kd.R_drewN | apply Kd.R_drew)); exact HO_875002.out) hb)
          have n1_ := Aside0.mk (Kd.R_below (by (with_reducible repeat (first | apply Kd.R_alloc | apply Kd.R_drewN | apply Kd.R_drew)); exact HO_885002.out) hb)
          have n2_ := Aside0.mk (blk_below (g := gb874) (o := .cells #[.int .i64 t869, .int .i64 t870, .slice Ao13 t871.length co13] 26 (0, 0)) (by (with_reducible repeat (first | refine blk_drewN ?_ _ | refine blk_drew ?_ | refine blk_alloc ?_ _)); exact BK874.out) hb)
          have n3_ := Aside0.mk (blk_below (g := gb884) (o := .cells #[.int .i64 t879, .int .i64 t880, .slice Ao18 t881.length co18] 26 (0, 0)) (by (with_reducible repeat (first | refine blk_drewN ?_ _ | refine blk_drew ?_ | refine blk_alloc ?_ _)); exact BK884.out) hb)
          have n4_ := Aside0.mk (below_step (by repeat (first | (with_reducible first | exact HB.out | apply below_alloc | apply pw_below_drewN | apply below_drew1 | refine below_set ?_ GE874.out | refine below_set ?_ GE884.out) | exact HB.out)) hb)
          clear HO_875002
          clear HO_885002
          clear BK874
          clear BK884
          clear HB
          have HO_875002 := n0_
          have HO_885002 := n1_
          have BK874 := n2_
          have BK884 := n3_
          have HB := n4_
          clear n0_ n1_ n2_ n3_ n4_
          (try clear hb)
          (try clear hb2)
          (try clear hk)
          (try clear hi)
          refine hK.out _ _ ⟨(blk_cell BK884.out 0).trans rfl, (blk_cell BK884.out 1).trans rfl, (blk_cell BK884.out 2).trans rfl, (blk_cell BK874.out 0).trans rfl, (blk_cell BK874.out 1).trans rfl, (blk_cell BK874.out 2).trans rfl⟩ (fun hHeld => ?_)
          clear hK K
          refine norm_ (a' := ?_) ?_ ?_
          rotate_left
          · show Act.put _ (some 62) _ = _
            simp only [Act.put, List.setIfInBounds_toArray, List.set_cons_zero, List.set_cons_succ, i64_w, i32_w]
            rfl
          refine pure_ (i := 12) (N := some 63) (v := ?_) (a' := ?_) #[true, true, true, true, true, true, true, true, true, true, true, true, true, false] rfl rfl (any_of HT_.out (by kernel_rfl)) (fun _ _ _ h => h) (Or.inl ⟨by rfl, ?_⟩) ?_ ?_
          rotate_left
          · intro w'
            go_simp
            with_reducible rfl
          rotate_left
          · simp only [Act.put, List.setIfInBounds_toArray, List.set_cons_zero, List.set_cons_succ, i64_w, i32_w]
            rfl
          refine pure_ (i := 13) (N := some 2) (v := ?_) (a' := ?_) #[true, true, true, true, true, true, true, true, true, true, true, true, true, true] rfl rfl (any_of HT_.out (by kernel_rfl)) (fun _ _ _ h => h) (Or.inl ⟨by rfl, ?_⟩) ?_ ?_
          rotate_left
          · intro w'
            go_simp
            with_reducible rfl
          rotate_left
          · simp only [Act.put, List.setIfInBounds_toArray, List.set_cons_zero, List.set_cons_succ, i64_w, i32_w]
            rfl
          refine done_ (done_of HT_.out (by kernel_rfl)) ?_
          try go_wp2
          go_ret
          exact ⟨by first | rfl | (simp [errW_none, errW_some] <;> rfl) | (simp [*, errW_none, errW_some] <;> rfl), by repeat (first | (with_reducible first | exact HB.out | apply below_alloc | apply pw_below_drewN | apply below_drew1 | refine below_set ?_ GE874.out | refine below_set ?_ GE884.out) | exact HB.out)⟩

end Go.Proofs.Ytdlehfnlibddcaa.P
