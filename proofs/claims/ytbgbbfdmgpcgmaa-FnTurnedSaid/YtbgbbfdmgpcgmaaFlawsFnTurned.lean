-- Written by tools/seatprint.py (over the kit's print, changed in memory). Not trusted: Lean checks it.
import Derived.Test.YtbgbbfdmgpcgmaaP0
import Derived.Test.YtbgbbfdmgpcgmaaFlawstotal
import Derived.Test.YtbgbbfdmgpcgmaaFspecMakePicture
import Derived.Test.YtbgbbfdmgpcgmaaFimplCountInk
import Derived.Test.YtbgbbfdmgpcgmaaFimplSumInk
import Derived.Test.YtbgbbfdmgpcgmaaFlawssame
import Derived.Test.YtbgbbfdmgpcgmaaFimplTurnPicture
import Derived.Test.YtbgbbfdmgpcgmaaFimplMirrorPicture
namespace Go.Proofs.Ytbgbbfdmgpcgmaa.P
open Go.RowKit Go.Proofs.YtbgbbfdmgpcgmaaW.PrintWords Go.Proofs.YtbgbbfdmgpcgmaaW.PrintLast Go.Proofs.YtbgbbfdmgpcgmaaW.PrintMore
attribute [local go_sem] max2_int min2_int max_two min_two max_three min_three max_four min_four   -- for this text's walks alone
set_option linter.unusedVariables false
set_option linter.unusedSimpArgs false

/-! ### laws_FnTurned: function 23 -/
mutual
def laws_FnTurned.j0 : Nat → Bool → Int → Int → List Int → Int → Int → List Int → Int → Int → List Int → Option (Bool)
  | 0, _, _, _, _, _, _, _, _, _, _ => none
  | k + 1, x36, x981000, x981001, x981002, x987000, x987001, x987002, x993000, x993001, x993002 => if x36 = true then (some false) else ((impl_MirrorPicture.f x981000 x981001 x981002).bind fun bt1004 => ((impl_MirrorPicture.f bt1004.1 bt1004.2.1 bt1004.2.2).bind fun bt1009 => ((laws_same.f k bt1009.1 bt1009.2.1 bt1009.2.2 x981000 x981001 x981002).bind fun t1014 => (if t1014 = true then ((impl_MirrorPicture.f x987000 x987001 x987002).bind fun bt1015 => ((impl_TurnPicture.f bt1015.1 bt1015.2.1 bt1015.2.2).bind fun bt1020 => ((impl_MirrorPicture.f x981000 x981001 x981002).bind fun bt1025 => ((laws_same.f k bt1020.1 bt1020.2.1 bt1020.2.2 bt1025.1 bt1025.2.1 bt1025.2.2).bind fun t1030 => (laws_FnTurned.j1 k (!t1030) x981000 x981001 x981002 x987000 x987001 x987002 x993000 x993001 x993002))))) else (laws_FnTurned.j1 k true x981000 x981001 x981002 x987000 x987001 x987002 x993000 x993001 x993002)))))
def laws_FnTurned.j1 : Nat → Bool → Int → Int → List Int → Int → Int → List Int → Int → Int → List Int → Option (Bool)
  | 0, _, _, _, _, _, _, _, _, _, _ => none
  | k + 1, x51, x981000, x981001, x981002, x987000, x987001, x987002, x993000, x993001, x993002 => if x51 = true then (some false) else ((impl_SumInk.f k x987000 x987001 x987002).bind fun t1031 => ((laws_total.f k x981002).bind fun t1032 => (if t1031 = t1032 then ((impl_SumInk.f k x993000 x993001 x993002).bind fun t1033 => ((laws_total.f k x981002).bind fun t1034 => (if t1033 = t1034 then ((impl_CountInk.f k x987000 x987001 x987002 0).bind fun t1035 => ((impl_CountInk.f k x981000 x981001 x981002 0).bind fun t1036 => (some (t1035 == t1036)))) else (some false)))) else (some false))))
end
def laws_FnTurned.f (k : Nat) (l0 : List Int) : Option (Bool) := if (l0.length : Int) > 1048576 then (some true) else ((spec_MakePicture.f k l0 9).bind fun bt975 => ((impl_TurnPicture.f bt975.1 bt975.2.1 bt975.2.2).bind fun bt981 => ((impl_TurnPicture.f bt981.1 bt981.2.1 bt981.2.2).bind fun bt987 => (if (bt981.2.2.length : Int) = (bt975.2.2.length : Int) then (if bt981.1 = bt975.2.1 then ((impl_TurnPicture.f bt987.1 bt987.2.1 bt987.2.2).bind fun bt993 => ((impl_TurnPicture.f bt993.1 bt993.2.1 bt993.2.2).bind fun bt998 => ((laws_same.f k bt998.1 bt998.2.1 bt998.2.2 bt975.1 bt975.2.1 bt975.2.2).bind fun t1003 => (laws_FnTurned.j0 k (!t1003) bt975.1 bt975.2.1 bt975.2.2 bt981.1 bt981.2.1 bt981.2.2 bt987.1 bt987.2.1 bt987.2.2)))) else (laws_FnTurned.j0 k true bt975.1 bt975.2.1 bt975.2.2 bt981.1 bt981.2.1 bt981.2.2 bt987.1 bt987.2.1 bt987.2.2)) else (laws_FnTurned.j0 k true bt975.1 bt975.2.1 bt975.2.2 bt981.1 bt981.2.1 bt981.2.2 bt987.1 bt987.2.1 bt987.2.2)))))
theorem laws_FnTurned.mono_l : ∀ k, (∀ y0 y1 y2 y3 y4 y5 y6 y7 y8 y9, LeO (laws_FnTurned.j0 k y0 y1 y2 y3 y4 y5 y6 y7 y8 y9) (laws_FnTurned.j0 (k + 1) y0 y1 y2 y3 y4 y5 y6 y7 y8 y9)) ∧ (∀ y0 y1 y2 y3 y4 y5 y6 y7 y8 y9, LeO (laws_FnTurned.j1 k y0 y1 y2 y3 y4 y5 y6 y7 y8 y9) (laws_FnTurned.j1 (k + 1) y0 y1 y2 y3 y4 y5 y6 y7 y8 y9))
  | 0 => ⟨fun _ _ _ _ _ _ _ _ _ _ r h => by simp [laws_FnTurned.j0] at h, fun _ _ _ _ _ _ _ _ _ _ r h => by simp [laws_FnTurned.j1] at h⟩
  | k + 1 => by
    obtain ⟨ih0, ih1⟩ := laws_FnTurned.mono_l k
    refine ⟨?_, ?_⟩
    · intro y0 y1 y2 y3 y4 y5 y6 y7 y8 y9
      unfold laws_FnTurned.j0
      repeat' first
      | (with_reducible exact ih0 _ _ _ _ _ _ _ _ _ _)
      | (with_reducible exact ih1 _ _ _ _ _ _ _ _ _ _)
      | (with_reducible exact impl_CountInk.mono _ _ _ _ _)
      | (with_reducible exact impl_SumInk.mono _ _ _ _)
      | (with_reducible exact laws_same.mono _ _ _ _ _ _ _)
      | (with_reducible exact laws_total.mono _ _)
      | (with_reducible exact spec_MakePicture.mono _ _ _)
      | (with_reducible exact LeO.refl _)
      | (with_reducible exact LeO.none _)
      | (with_reducible refine LeO.ite ?_ ?_)
      | (with_reducible refine LeO.bind ?_ (fun _ => ?_))
      | exact ih0 _ _ _ _ _ _ _ _ _ _
      | exact ih1 _ _ _ _ _ _ _ _ _ _
      | exact impl_CountInk.mono _ _ _ _ _
      | exact impl_SumInk.mono _ _ _ _
      | exact laws_same.mono _ _ _ _ _ _ _
      | exact laws_total.mono _ _
      | exact spec_MakePicture.mono _ _ _
      | exact LeO.none _
      | refine LeO.ite ?_ ?_
      | refine LeO.bind ?_ (fun _ => ?_)
    · intro y0 y1 y2 y3 y4 y5 y6 y7 y8 y9
      unfold laws_FnTurned.j1
      repeat' first
      | (with_reducible exact ih0 _ _ _ _ _ _ _ _ _ _)
      | (with_reducible exact ih1 _ _ _ _ _ _ _ _ _ _)
      | (with_reducible exact impl_CountInk.mono _ _ _ _ _)
      | (with_reducible exact impl_SumInk.mono _ _ _ _)
      | (with_reducible exact laws_same.mono _ _ _ _ _ _ _)
      | (with_reducible exact laws_total.mono _ _)
      | (with_reducible exact spec_MakePicture.mono _ _ _)
      | (with_reducible exact LeO.refl _)
      | (with_reducible exact LeO.none _)
      | (with_reducible refine LeO.ite ?_ ?_)
      | (with_reducible refine LeO.bind ?_ (fun _ => ?_))
      | exact ih0 _ _ _ _ _ _ _ _ _ _
      | exact ih1 _ _ _ _ _ _ _ _ _ _
      | exact impl_CountInk.mono _ _ _ _ _
      | exact impl_SumInk.mono _ _ _ _
      | exact laws_same.mono _ _ _ _ _ _ _
      | exact laws_total.mono _ _
      | exact spec_MakePicture.mono _ _ _
      | exact LeO.none _
      | refine LeO.ite ?_ ?_
      | refine LeO.bind ?_ (fun _ => ?_)
theorem laws_FnTurned.mono : ∀ a0 k, LeO (laws_FnTurned.f k a0) (laws_FnTurned.f (k + 1) a0) := by
  intro a0 k
  obtain ⟨ih0, ih1⟩ := laws_FnTurned.mono_l k
  unfold laws_FnTurned.f
  repeat' first
      | (with_reducible exact ih0 _ _ _ _ _ _ _ _ _ _)
      | (with_reducible exact ih1 _ _ _ _ _ _ _ _ _ _)
      | (with_reducible exact impl_CountInk.mono _ _ _ _ _)
      | (with_reducible exact impl_SumInk.mono _ _ _ _)
      | (with_reducible exact laws_same.mono _ _ _ _ _ _ _)
      | (with_reducible exact laws_total.mono _ _)
      | (with_reducible exact spec_MakePicture.mono _ _ _)
      | (with_reducible exact LeO.refl _)
      | (with_reducible exact LeO.none _)
      | (with_reducible refine LeO.ite ?_ ?_)
      | (with_reducible refine LeO.bind ?_ (fun _ => ?_))
      | exact ih0 _ _ _ _ _ _ _ _ _ _
      | exact ih1 _ _ _ _ _ _ _ _ _ _
      | exact impl_CountInk.mono _ _ _ _ _
      | exact impl_SumInk.mono _ _ _ _
      | exact laws_same.mono _ _ _ _ _ _ _
      | exact laws_total.mono _ _
      | exact spec_MakePicture.mono _ _ _
      | exact LeO.none _
      | refine LeO.ite ?_ ?_
      | refine LeO.bind ?_ (fun _ => ?_)
def laws_FnTurned.T6 : Bool × List (List Nat × List Nat) := (true, [([], []), ([0], [0]), ([1], [1]), ([], []), ([3], [3]), ([4], [4]), ([2, 5], [2, 5]), ([6], [6]), ([7], [7]), ([8, 7], [7, 8]), ([7], [7]), ([10, 7], [7, 10]), ([9, 11, 7], [7, 9, 11]), ([7, 12], [7, 12]), ([13, 7], [13]), ([14], [14]), ([15, 14, 14], [14, 15]), ([16, 16, 14], [14, 16]), ([14], [14]), ([17, 18, 17, 14], [14, 17, 18]), ([19, 14], [14, 19]), ([14, 20], [14, 20])])
def laws_FnTurned.B6 : List Nat := [0, 1, 3, 0, 8, 24, 63, 127, 255, 511, 255, 1279, 4095, 8191, 16383, 32767, 65535, 131071, 32767, 524287, 1048575, 2097151]
theorem laws_FnTurned.tab6 : rtab .any (opsOf Try.f23 6) = laws_FnTurned.T6 := by kernel_rfl
theorem laws_FnTurned.bits6 : waitsOk laws_FnTurned.T6.2 laws_FnTurned.B6 = true := by kernel_rfl
def laws_FnTurned.T8 : Bool × List (List Nat × List Nat) := (true, [([], []), ([0], [0]), ([1, 1], [1]), ([], []), ([2, 3, 2], [2, 3]), ([4], [4]), ([5, 4], [5]), ([6], [6]), ([7, 6, 6], [6, 7]), ([8, 8, 6], [6, 8]), ([6], [6]), ([10, 9, 6], [6, 10]), ([9, 11, 11, 6], [6, 9, 11]), ([12, 6], [6, 12]), ([6, 13], [6, 13])])
def laws_FnTurned.B8 : List Nat := [0, 1, 3, 0, 15, 31, 63, 127, 255, 511, 127, 2047, 4095, 8191, 16383]
theorem laws_FnTurned.tab8 : rtab .any (opsOf Try.f23 8) = laws_FnTurned.T8 := by kernel_rfl
theorem laws_FnTurned.bits8 : waitsOk laws_FnTurned.T8.2 laws_FnTurned.B8 = true := by kernel_rfl
def laws_FnTurned.T10 : Bool × List (List Nat × List Nat) := (true, [([], []), ([0], [0]), ([], []), ([2], [2]), ([3, 1], [3]), ([1, 4], [1, 4]), ([5, 4], [5]), ([6], [6]), ([7, 6, 6], [6, 7]), ([6], [6]), ([9, 6], [6, 9]), ([10, 8, 6], [6, 10]), ([8, 11, 6], [6, 8, 11]), ([6, 12], [6, 12]), ([13, 11], [13]), ([14], [14]), ([15, 14, 14], [14, 15]), ([14], [14]), ([17, 16, 14], [14, 17]), ([16, 18, 14], [14, 16, 18]), ([14, 19], [14, 19]), ([20, 18, 0, 1, 2, 3, 4, 5, 6, 7, 8, 9, 10, 11, 12, 13, 14, 15, 16, 17, 18, 19, 20], [20])])
def laws_FnTurned.B10 : List Nat := [0, 1, 0, 4, 15, 31, 63, 127, 255, 127, 639, 2047, 4095, 8191, 16383, 32767, 65535, 32767, 262143, 524287, 1048575, 2097151]
theorem laws_FnTurned.tab10 : rtab .any (opsOf Try.f23 10) = laws_FnTurned.T10 := by kernel_rfl
theorem laws_FnTurned.bits10 : waitsOk laws_FnTurned.T10.2 laws_FnTurned.B10 = true := by kernel_rfl
set_option maxHeartbeats 8000000 in
set_option maxRecDepth 100000 in
theorem laws_FnTurned.calls (k : Nat) (A0 : Option Addr) (c0 : Nat) (l0 : List Int) (r : Bool) (w : World) (hr0 : Kd.C (Kd.int .u8) w A0 l0.length l0) (hc0 : l0.length ≤ c0) (hT : Aside0 (r = true)) (h : laws_FnTurned.f k l0 = some r) :
    Calls Try.prog 23 #[.slice A0 l0.length c0] w fun e w' => e = .returned (.bool r) ∧ Below w.heap.size w w' := by
  have hu37 := Try.underlying37
  have HR0 := Aside0.mk hr0
  have HC0 := Aside0.mk hc0
  clear hr0 hc0
  have HB := Aside0.mk (Below.refl w.heap.size w)
  have H : (if (l0.length : Int) > 1048576 then (some true) else ((spec_MakePicture.f k l0 9).bind fun bt975 => ((impl_TurnPicture.f bt975.1 bt975.2.1 bt975.2.2).bind fun bt981 => ((impl_TurnPicture.f bt981.1 bt981.2.1 bt981.2.2).bind fun bt987 => (if (bt981.2.2.length : Int) = (bt975.2.2.length : Int) then (if bt981.1 = bt975.2.1 then ((impl_TurnPicture.f bt987.1 bt987.2.1 bt987.2.2).bind fun bt993 => ((impl_TurnPicture.f bt993.1 bt993.2.1 bt993.2.2).bind fun bt998 => ((laws_same.f k bt998.1 bt998.2.1 bt998.2.2 bt975.1 bt975.2.1 bt975.2.2).bind fun t1003 => (laws_FnTurned.j0 k (!t1003) bt975.1 bt975.2.1 bt975.2.2 bt981.1 bt981.2.1 bt981.2.2 bt987.1 bt987.2.1 bt987.2.2)))) else (laws_FnTurned.j0 k true bt975.1 bt975.2.1 bt975.2.2 bt981.1 bt981.2.1 bt981.2.2 bt987.1 bt987.2.1 bt987.2.2)) else (laws_FnTurned.j0 k true bt975.1 bt975.2.1 bt975.2.2 bt981.1 bt981.2.1 bt981.2.2 bt987.1 bt987.2.1 bt987.2.2)))))) = some r := h
  clear h
  by_cases c2 : (l0.length : Int) > 1048576
  · rw [if_pos c2] at H
    have c2b0 : decide (1048576 < (l0.length : Int)) = true := decide_eq_true c2
    have c2b1 : decide (1048576 < l0.length) = true := decide_eq_true (by omega)
    clear c2
    obtain rfl := Option.some.inj H
    go_enter Try.func23, Try.ntmps23
    go_wp2
    go_ret
    exact ⟨by first | rfl | (simp [errW_none, errW_some] <;> rfl) | (simp [*, errW_none, errW_some] <;> rfl), by repeat (first | (with_reducible first | exact HB.out | apply below_alloc | apply pw_below_drewN | apply below_drew1) | exact HB.out)⟩
  · rw [if_neg c2] at H
    have c2b0 : decide (1048576 < (l0.length : Int)) = false := decide_eq_false c2
    have c2b1 : decide (1048576 < l0.length) = false := decide_eq_false (by omega)
    clear c2
    replace H := Option.bind_eq_some_iff.mp H
    obtain ⟨⟨t975, t976, t977⟩, A30, H⟩ := H
    replace H : ((impl_TurnPicture.f t975 t976 t977).bind fun bt981 => ((impl_TurnPicture.f bt981.1 bt981.2.1 bt981.2.2).bind fun bt987 => (if (bt981.2.2.length : Int) = (t977.length : Int) then (if bt981.1 = t976 then ((impl_TurnPicture.f bt987.1 bt987.2.1 bt987.2.2).bind fun bt993 => ((impl_TurnPicture.f bt993.1 bt993.2.1 bt993.2.2).bind fun bt998 => ((laws_same.f k bt998.1 bt998.2.1 bt998.2.2 t975 t976 t977).bind fun t1003 => (laws_FnTurned.j0 k (!t1003) t975 t976 t977 bt981.1 bt981.2.1 bt981.2.2 bt987.1 bt987.2.1 bt987.2.2)))) else (laws_FnTurned.j0 k true t975 t976 t977 bt981.1 bt981.2.1 bt981.2.2 bt987.1 bt987.2.1 bt987.2.2)) else (laws_FnTurned.j0 k true t975 t976 t977 bt981.1 bt981.2.1 bt981.2.2 bt987.1 bt987.2.1 bt987.2.2)))) = some r := H
    have A3 := Aside0.mk A30
    clear A30
    replace H := Option.bind_eq_some_iff.mp H
    obtain ⟨⟨t981, t982, t983⟩, A40, H⟩ := H
    replace H : ((impl_TurnPicture.f t981 t982 t983).bind fun bt987 => (if (t983.length : Int) = (t977.length : Int) then (if t981 = t976 then ((impl_TurnPicture.f bt987.1 bt987.2.1 bt987.2.2).bind fun bt993 => ((impl_TurnPicture.f bt993.1 bt993.2.1 bt993.2.2).bind fun bt998 => ((laws_same.f k bt998.1 bt998.2.1 bt998.2.2 t975 t976 t977).bind fun t1003 => (laws_FnTurned.j0 k (!t1003) t975 t976 t977 t981 t982 t983 bt987.1 bt987.2.1 bt987.2.2)))) else (laws_FnTurned.j0 k true t975 t976 t977 t981 t982 t983 bt987.1 bt987.2.1 bt987.2.2)) else (laws_FnTurned.j0 k true t975 t976 t977 t981 t982 t983 bt987.1 bt987.2.1 bt987.2.2))) = some r := H
    have A4 := Aside0.mk A40
    clear A40
    replace H := Option.bind_eq_some_iff.mp H
    obtain ⟨⟨t987, t988, t989⟩, A50, H⟩ := H
    replace H : (if (t983.length : Int) = (t977.length : Int) then (if t981 = t976 then ((impl_TurnPicture.f t987 t988 t989).bind fun bt993 => ((impl_TurnPicture.f bt993.1 bt993.2.1 bt993.2.2).bind fun bt998 => ((laws_same.f k bt998.1 bt998.2.1 bt998.2.2 t975 t976 t977).bind fun t1003 => (laws_FnTurned.j0 k (!t1003) t975 t976 t977 t981 t982 t983 t987 t988 t989)))) else (laws_FnTurned.j0 k true t975 t976 t977 t981 t982 t983 t987 t988 t989)) else (laws_FnTurned.j0 k true t975 t976 t977 t981 t982 t983 t987 t988 t989)) = some r := H
    have A5 := Aside0.mk A50
    clear A50
    have HC6 := Aside0.mk H
    clear H
    go_enter Try.func23, Try.ntmps23
    go_upto_region 6 with (first | ((with_reducible refine gate_callee (f := 67) rfl ?_); refine goesL_ (some 10) rfl rfl Try.func67 (by kernel_rfl) rfl #[.slice A0 l0.length c0, .int .i64 9] rfl (by (try simp only [List.map_toArray, List.map_cons, List.map_nil]); first | done | rfl | (simp only [List.length_drop, List.length_take]; rfl)) ?_; (with_reducible refine (spec_MakePicture.calls k _ _ l0 9 t975 t976 t977 _ ?side1 ?side2 A3.out).mono ?_); (case side1 => repeat (first | exact HR0.out | (with_reducible refine Kd.C_alloc ?_ _) | (with_reducible refine Kd.C_drewN ?_ _) | (with_reducible refine Kd.C_drew ?_))); (case side2 => exact HC0.out); rintro e w7 ⟨v978, rfl, ho0, hb⟩; refine ⟨_, rfl, ?_⟩; have n0_ := Aside0.mk (Kd.R_lower ho0 (below_size (by repeat (first | (with_reducible first | exact HB.out | apply below_alloc | apply pw_below_drewN | apply below_drew1) | exact HB.out)))); have n1_ := Aside0.mk (below_step (by repeat (first | (with_reducible first | exact HB.out | apply below_alloc | apply pw_below_drewN | apply below_drew1) | exact HB.out)) hb); clear HB; have HO979 := n0_; have HB := n1_; clear n0_ n1_; (try clear hb); (try clear hb2); (try clear hk); (try clear hi); (try clear ho0)) | ((with_reducible refine gate_dst (N := 3) rfl ?_); refine box_event ?hg (N := 3) ?hd (cs := #[.int .i64 0, .int .i64 0, .slice none 0 0]) (t := 37) ?hr ?_; (case hd => rfl); (case hg => rfl); (case hr => first | (go_simp; done) | (go_simp; rfl)); intro gb980 hg w8 hbox hb; have n0_ := Aside0.mk (Kd.R_below (by (with_reducible repeat (first | apply Kd.R_alloc | apply Kd.R_drewN | apply Kd.R_drew)); exact HO979.out) hb); have n1_ := Aside0.mk (below_step (by repeat (first | (with_reducible first | exact HB.out | apply below_alloc | apply pw_below_drewN | apply below_drew1) | exact HB.out)) hb); have n2_ := Aside0.mk (hbox); have n3_ := Aside0.mk ((by rw [hg]; exact (below_size (by repeat (first | (with_reducible first | exact HB.out | apply below_alloc | apply pw_below_drewN | apply below_drew1) | exact HB.out))) : w.heap.size ≤ gb980)); have n4_ := Aside0.mk ((by rw [hg]; exact (below_size (by repeat (first | (with_reducible first | exact HB.out | apply below_alloc | apply pw_below_drewN | apply below_drew1) | exact HB.out))) : w.heap.size ≤ gb980)); clear HO979; clear HB; have HO979 := n0_; have HB := n1_; have BK980 := n2_; have GW980 := n3_; have GE980 := n4_; clear n0_ n1_ n2_ n3_ n4_; clear hb hbox hg; have hcz9_0 : w8.cell? ⟨gb980, 0, none⟩ = some (.int .i64 0) := (blk_cell BK980.out 0).trans rfl; have hcz9_1 : w8.cell? ⟨gb980, 1, none⟩ = some (.int .i64 0) := (blk_cell BK980.out 1).trans rfl; have hcz9_2 : w8.cell? ⟨gb980, 2, none⟩ = some (.slice none 0 0) := (blk_cell BK980.out 2).trans rfl; have hfz9_0 := blk_frozen BK980.out 0; have hfz9_1 := blk_frozen BK980.out 1; have hfz9_2 := blk_frozen BK980.out 2; obtain ⟨Ao10, co10, eo10⟩ := Kd.R_slice HO979.out; subst eo10) | ((with_reducible refine gate_callee (f := 87) rfl ?_); refine goesL_ (some 12) rfl rfl Try.func87 (by kernel_rfl) rfl #[.agg #[.int .i64 t975, .int .i64 t976, .slice Ao10 t977.length co10]] rfl (by (try simp only [List.map_toArray, List.map_cons, List.map_nil]); first | done | rfl | (simp only [List.length_drop, List.length_take]; rfl)) ?_; (with_reducible refine (impl_TurnPicture.calls t975 t976 _ _ t977 t981 t982 t983 _ ?side1 ?side2 A4.out).mono ?_); (case side1 => refine (Kd.R_reads' (e := 3) (base := w.heap.size) (ok := fun k_ => True) (n := t977.length) (c := co10) ?_).2.2; exact (by (with_reducible repeat (first | apply Kd.R_alloc | apply Kd.R_drewN | apply Kd.R_drew)); exact (Kd.R_mono (Kd.R_far (p := ⟨gb980, 2, none⟩) (Kd.R_far (p := ⟨gb980, 1, none⟩) (Kd.R_far (p := ⟨gb980, 0, none⟩) (Kd.R_types HO979.out BK980.out (by decide)) (fun _ hk => hk.2) (.int .i64 t975)) (fun _ hk => hk.2) (.int .i64 t976)) (fun _ hk => hk.2) (.slice Ao10 t977.length co10)) (fun _ h_ => h_.1)))); (case side2 => exact (Kd.R_reads' HO979.out).2.1); rintro e w11 ⟨v984, rfl, ho0, hb⟩; refine ⟨_, rfl, ?_⟩; have n0_ := Aside0.mk (Kd.R_elder' (by (with_reducible repeat (first | apply Kd.R_alloc | apply Kd.R_drewN | apply Kd.R_drew)); exact (Kd.R_mono (Kd.R_far (p := ⟨gb980, 2, none⟩) (Kd.R_far (p := ⟨gb980, 1, none⟩) (Kd.R_far (p := ⟨gb980, 0, none⟩) (Kd.R_types HO979.out BK980.out (by decide)) (fun _ hk => hk.2) (.int .i64 t975)) (fun _ hk => hk.2) (.int .i64 t976)) (fun _ hk => hk.2) (.slice Ao10 t977.length co10)) (fun _ h_ => h_.1))) (Kd.R_base ho0) hb); have n1_ := Aside0.mk (Kd.R_lower (Kd.R_new' ho0 (Kd.R_lt (by (with_reducible repeat (first | apply Kd.R_alloc | apply Kd.R_drewN | apply Kd.R_drew)); exact (Kd.R_mono (Kd.R_far (p := ⟨gb980, 2, none⟩) (Kd.R_far (p := ⟨gb980, 1, none⟩) (Kd.R_far (p := ⟨gb980, 0, none⟩) (Kd.R_types HO979.out BK980.out (by decide)) (fun _ hk => hk.2) (.int .i64 t975)) (fun _ hk => hk.2) (.int .i64 t976)) (fun _ hk => hk.2) (.slice Ao10 t977.length co10)) (fun _ h_ => h_.1))))) (below_size (by repeat (first | (with_reducible first | exact HB.out | apply below_alloc | apply pw_below_drewN | apply below_drew1 | refine below_set ?_ GE980.out) | exact HB.out)))); have n2_ := Aside0.mk (blk_below (g := gb980) (o := .cells #[.int .i64 t975, .int .i64 t976, .slice Ao10 t977.length co10] 37 (0, 0)) (by (with_reducible repeat (first | refine blk_drewN ?_ _ | refine blk_drew ?_ | refine blk_alloc ?_ _)); refine blk_put (cs := #[.int .i64 t975, .int .i64 t976, .slice none 0 0]) ?_ 2 _ rfl; (with_reducible repeat (first | refine blk_drewN ?_ _ | refine blk_drew ?_ | refine blk_alloc ?_ _)); refine blk_put (cs := #[.int .i64 t975, .int .i64 0, .slice none 0 0]) ?_ 1 _ rfl; (with_reducible repeat (first | refine blk_drewN ?_ _ | refine blk_drew ?_ | refine blk_alloc ?_ _)); refine blk_put (cs := #[.int .i64 0, .int .i64 0, .slice none 0 0]) ?_ 0 _ rfl; (with_reducible repeat (first | refine blk_drewN ?_ _ | refine blk_drew ?_ | refine blk_alloc ?_ _)); exact BK980.out) hb); have n3_ := Aside0.mk (below_step (by repeat (first | (with_reducible first | exact HB.out | apply below_alloc | apply pw_below_drewN | apply below_drew1 | refine below_set ?_ GE980.out) | exact HB.out)) hb); clear HO979; clear BK980; clear HB; have HO979 := n0_; have HO985 := n1_; have BK980 := n2_; have HB := n3_; clear n0_ n1_ n2_ n3_; (try clear hb); (try clear hb2); (try clear hk); (try clear hi); (try clear ho0)) | ((with_reducible refine gate_dst (N := 4) rfl ?_); refine box_event ?hg (N := 4) ?hd (cs := #[.int .i64 0, .int .i64 0, .slice none 0 0]) (t := 37) ?hr ?_; (case hd => rfl); (case hg => rfl); (case hr => first | (go_simp; done) | (go_simp; rfl)); intro gb986 hg w12 hbox hb; have n0_ := Aside0.mk (Kd.R_below (by (with_reducible repeat (first | apply Kd.R_alloc | apply Kd.R_drewN | apply Kd.R_drew)); exact HO979.out) hb); have n1_ := Aside0.mk (Kd.R_below (by (with_reducible repeat (first | apply Kd.R_alloc | apply Kd.R_drewN | apply Kd.R_drew)); exact HO985.out) hb); have n2_ := Aside0.mk (blk_below (g := gb980) (o := .cells #[.int .i64 t975, .int .i64 t976, .slice Ao10 t977.length co10] 37 (0, 0)) (by (with_reducible repeat (first | refine blk_drewN ?_ _ | refine blk_drew ?_ | refine blk_alloc ?_ _)); exact BK980.out) hb); have n3_ := Aside0.mk (below_step (by repeat (first | (with_reducible first | exact HB.out | apply below_alloc | apply pw_below_drewN | apply below_drew1 | refine below_set ?_ GE980.out) | exact HB.out)) hb); have n4_ := Aside0.mk (hbox); have n5_ := Aside0.mk ((by rw [hg]; exact (below_size (by repeat (first | (with_reducible first | exact HB.out | apply below_alloc | apply pw_below_drewN | apply below_drew1 | refine below_set ?_ GE980.out) | exact HB.out))) : w.heap.size ≤ gb986)); have n6_ := Aside0.mk ((by rw [hg]; exact (below_size (by repeat (first | (with_reducible first | exact HB.out | apply below_alloc | apply pw_below_drewN | apply below_drew1 | refine below_set ?_ GE980.out) | exact HB.out))) : w.heap.size ≤ gb986)); have n7_ := Aside0.mk ((by rw [hg]; exact Nat.ne_of_lt (blk_lt (g := gb980) (o := .cells #[.int .i64 t975, .int .i64 t976, .slice Ao10 t977.length co10] 37 (0, 0)) (by (with_reducible repeat (first | refine blk_drewN ?_ _ | refine blk_drew ?_ | refine blk_alloc ?_ _)); exact BK980.out)) : gb980 ≠ gb986)); have n8_ := Aside0.mk ((by rw [hg]; exact Nat.ne_of_gt (blk_lt (g := gb980) (o := .cells #[.int .i64 t975, .int .i64 t976, .slice Ao10 t977.length co10] 37 (0, 0)) (by (with_reducible repeat (first | refine blk_drewN ?_ _ | refine blk_drew ?_ | refine blk_alloc ?_ _)); exact BK980.out)) : gb986 ≠ gb980)); clear HO979; clear HO985; clear BK980; clear HB; have HO979 := n0_; have HO985 := n1_; have BK980 := n2_; have HB := n3_; have BK986 := n4_; have GW986 := n5_; have GE986 := n6_; have NB980_986 := n7_; have NB986_980 := n8_; clear n0_ n1_ n2_ n3_ n4_ n5_ n6_ n7_ n8_; clear hb hbox hg; have hnb13 := NB986_980.out; have hnc13 := NB980_986.out; have hcz14_0 : w12.cell? ⟨gb986, 0, none⟩ = some (.int .i64 0) := (blk_cell BK986.out 0).trans rfl; have hcz14_1 : w12.cell? ⟨gb986, 1, none⟩ = some (.int .i64 0) := (blk_cell BK986.out 1).trans rfl; have hcz14_2 : w12.cell? ⟨gb986, 2, none⟩ = some (.slice none 0 0) := (blk_cell BK986.out 2).trans rfl; have hfz14_0 := blk_frozen BK986.out 0; have hfz14_1 := blk_frozen BK986.out 1; have hfz14_2 := blk_frozen BK986.out 2; obtain ⟨Ao15, co15, eo15⟩ := Kd.R_slice HO985.out; subst eo15) | ((with_reducible refine gate_callee (f := 87) rfl ?_); refine goesL_ (some 14) rfl rfl Try.func87 (by kernel_rfl) rfl #[.agg #[.int .i64 t981, .int .i64 t982, .slice Ao15 t983.length co15]] rfl (by (try simp only [List.map_toArray, List.map_cons, List.map_nil]); first | done | rfl | (simp only [List.length_drop, List.length_take]; rfl)) ?_; (with_reducible refine (impl_TurnPicture.calls t981 t982 _ _ t983 t987 t988 t989 _ ?side1 ?side2 A5.out).mono ?_); (case side1 => refine (Kd.R_reads' (e := 3) (base := w.heap.size) (ok := fun k_ => (True ∧ some k_ ≠ (.slice Ao10 t977.length co10 : Value).ownBlock)) (n := t983.length) (c := co15) ?_).2.2; exact (by (with_reducible repeat (first | apply Kd.R_alloc | apply Kd.R_drewN | apply Kd.R_drew)); exact (Kd.R_mono (Kd.R_far (p := ⟨gb986, 2, none⟩) (Kd.R_far (p := ⟨gb986, 1, none⟩) (Kd.R_far (p := ⟨gb986, 0, none⟩) (Kd.R_types HO985.out BK986.out (by decide)) (fun _ hk => hk.2) (.int .i64 t981)) (fun _ hk => hk.2) (.int .i64 t982)) (fun _ hk => hk.2) (.slice Ao15 t983.length co15)) (fun _ h_ => h_.1)))); (case side2 => exact (Kd.R_reads' HO985.out).2.1); rintro e w16 ⟨v990, rfl, ho0, hb⟩; refine ⟨_, rfl, ?_⟩; have n0_ := Aside0.mk (Kd.R_elder' (by (with_reducible repeat (first | apply Kd.R_alloc | apply Kd.R_drewN | apply Kd.R_drew)); exact (Kd.R_mono (Kd.R_far (p := ⟨gb986, 2, none⟩) (Kd.R_far (p := ⟨gb986, 1, none⟩) (Kd.R_far (p := ⟨gb986, 0, none⟩) (Kd.R_types HO979.out BK986.out (by decide)) (fun _ hk => hk.2) (.int .i64 t981)) (fun _ hk => hk.2) (.int .i64 t982)) (fun _ hk => hk.2) (.slice Ao15 t983.length co15)) (fun _ h_ => h_.1))) (Kd.R_base ho0) hb); have n1_ := Aside0.mk (Kd.R_elder' (by (with_reducible repeat (first | apply Kd.R_alloc | apply Kd.R_drewN | apply Kd.R_drew)); exact (Kd.R_mono (Kd.R_far (p := ⟨gb986, 2, none⟩) (Kd.R_far (p := ⟨gb986, 1, none⟩) (Kd.R_far (p := ⟨gb986, 0, none⟩) (Kd.R_types HO985.out BK986.out (by decide)) (fun _ hk => hk.2) (.int .i64 t981)) (fun _ hk => hk.2) (.int .i64 t982)) (fun _ hk => hk.2) (.slice Ao15 t983.length co15)) (fun _ h_ => h_.1))) (Kd.R_base ho0) hb); have n2_ := Aside0.mk (Kd.R_lower (Kd.R_new' (Kd.R_new' ho0 (Kd.R_lt (by (with_reducible repeat (first | apply Kd.R_alloc | apply Kd.R_drewN | apply Kd.R_drew)); exact (Kd.R_mono (Kd.R_far (p := ⟨gb986, 2, none⟩) (Kd.R_far (p := ⟨gb986, 1, none⟩) (Kd.R_far (p := ⟨gb986, 0, none⟩) (Kd.R_types HO979.out BK986.out (by decide)) (fun _ hk => hk.2) (.int .i64 t981)) (fun _ hk => hk.2) (.int .i64 t982)) (fun _ hk => hk.2) (.slice Ao15 t983.length co15)) (fun _ h_ => h_.1))))) (Kd.R_lt (by (with_reducible repeat (first | apply Kd.R_alloc | apply Kd.R_drewN | apply Kd.R_drew)); exact (Kd.R_mono (Kd.R_far (p := ⟨gb986, 2, none⟩) (Kd.R_far (p := ⟨gb986, 1, none⟩) (Kd.R_far (p := ⟨gb986, 0, none⟩) (Kd.R_types HO985.out BK986.out (by decide)) (fun _ hk => hk.2) (.int .i64 t981)) (fun _ hk => hk.2) (.int .i64 t982)) (fun _ hk => hk.2) (.slice Ao15 t983.length co15)) (fun _ h_ => h_.1))))) (below_size (by repeat (first | (with_reducible first | exact HB.out | apply below_alloc | apply pw_below_drewN | apply below_drew1 | refine below_set ?_ GE980.out | refine below_set ?_ GE986.out) | exact HB.out)))); have n3_ := Aside0.mk (blk_below (g := gb980) (o := .cells #[.int .i64 t975, .int .i64 t976, .slice Ao10 t977.length co10] 37 (0, 0)) (by (with_reducible repeat (first | refine blk_drewN ?_ _ | refine blk_drew ?_ | refine blk_alloc ?_ _)); refine blk_far ?_ NB980_986.out _; (with_reducible repeat (first | refine blk_drewN ?_ _ | refine blk_drew ?_ | refine blk_alloc ?_ _)); refine blk_far ?_ NB980_986.out _; (with_reducible repeat (first | refine blk_drewN ?_ _ | refine blk_drew ?_ | refine blk_alloc ?_ _)); refine blk_far ?_ NB980_986.out _; (with_reducible repeat (first | refine blk_drewN ?_ _ | refine blk_drew ?_ | refine blk_alloc ?_ _)); exact BK980.out) hb); have n4_ := Aside0.mk (blk_below (g := gb986) (o := .cells #[.int .i64 t981, .int .i64 t982, .slice Ao15 t983.length co15] 37 (0, 0)) (by (with_reducible repeat (first | refine blk_drewN ?_ _ | refine blk_drew ?_ | refine blk_alloc ?_ _)); refine blk_put (cs := #[.int .i64 t981, .int .i64 t982, .slice none 0 0]) ?_ 2 _ rfl; (with_reducible repeat (first | refine blk_drewN ?_ _ | refine blk_drew ?_ | refine blk_alloc ?_ _)); refine blk_put (cs := #[.int .i64 t981, .int .i64 0, .slice none 0 0]) ?_ 1 _ rfl; (with_reducible repeat (first | refine blk_drewN ?_ _ | refine blk_drew ?_ | refine blk_alloc ?_ _)); refine blk_put (cs := #[.int .i64 0, .int .i64 0, .slice none 0 0]) ?_ 0 _ rfl; (with_reducible repeat (first | refine blk_drewN ?_ _ | refine blk_drew ?_ | refine blk_alloc ?_ _)); exact BK986.out) hb); have n5_ := Aside0.mk (below_step (by repeat (first | (with_reducible first | exact HB.out | apply below_alloc | apply pw_below_drewN | apply below_drew1 | refine below_set ?_ GE980.out | refine below_set ?_ GE986.out) | exact HB.out)) hb); clear HO979; clear HO985; clear BK980; clear BK986; clear HB; have HO979 := n0_; have HO985 := n1_; have HO991 := n2_; have BK980 := n3_; have BK986 := n4_; have HB := n5_; clear n0_ n1_ n2_ n3_ n4_ n5_; (try clear hb); (try clear hb2); (try clear hk); (try clear hi); (try clear ho0)) | ((with_reducible refine gate_dst (N := 5) rfl ?_); refine box_event ?hg (N := 5) ?hd (cs := #[.int .i64 0, .int .i64 0, .slice none 0 0]) (t := 37) ?hr ?_; (case hd => rfl); (case hg => rfl); (case hr => first | (go_simp; done) | (go_simp; rfl)); intro gb992 hg w17 hbox hb; have n0_ := Aside0.mk (Kd.R_below (by (with_reducible repeat (first | apply Kd.R_alloc | apply Kd.R_drewN | apply Kd.R_drew)); exact HO979.out) hb); have n1_ := Aside0.mk (Kd.R_below (by (with_reducible repeat (first | apply Kd.R_alloc | apply Kd.R_drewN | apply Kd.R_drew)); exact HO985.out) hb); have n2_ := Aside0.mk (Kd.R_below (by (with_reducible repeat (first | apply Kd.R_alloc | apply Kd.R_drewN | apply Kd.R_drew)); exact HO991.out) hb); have n3_ := Aside0.mk (blk_below (g := gb980) (o := .cells #[.int .i64 t975, .int .i64 t976, .slice Ao10 t977.length co10] 37 (0, 0)) (by (with_reducible repeat (first | refine blk_drewN ?_ _ | refine blk_drew ?_ | refine blk_alloc ?_ _)); exact BK980.out) hb); have n4_ := Aside0.mk (blk_below (g := gb986) (o := .cells #[.int .i64 t981, .int .i64 t982, .slice Ao15 t983.length co15] 37 (0, 0)) (by (with_reducible repeat (first | refine blk_drewN ?_ _ | refine blk_drew ?_ | refine blk_alloc ?_ _)); exact BK986.out) hb); have n5_ := Aside0.mk (below_step (by repeat (first | (with_reducible first | exact HB.out | apply below_alloc | apply pw_below_drewN | apply below_drew1 | refine below_set ?_ GE980.out | refine below_set ?_ GE986.out) | exact HB.out)) hb); have n6_ := Aside0.mk (hbox); have n7_ := Aside0.mk ((by rw [hg]; exact (below_size (by repeat (first | (with_reducible first | exact HB.out | apply below_alloc | apply pw_below_drewN | apply below_drew1 | refine below_set ?_ GE980.out | refine below_set ?_ GE986.out) | exact HB.out))) : w.heap.size ≤ gb992)); have n8_ := Aside0.mk ((by rw [hg]; exact (below_size (by repeat (first | (with_reducible first | exact HB.out | apply below_alloc | apply pw_below_drewN | apply below_drew1 | refine below_set ?_ GE980.out | refine below_set ?_ GE986.out) | exact HB.out))) : w.heap.size ≤ gb992)); have n9_ := Aside0.mk ((by rw [hg]; exact Nat.ne_of_lt (blk_lt (g := gb980) (o := .cells #[.int .i64 t975, .int .i64 t976, .slice Ao10 t977.length co10] 37 (0, 0)) (by (with_reducible repeat (first | refine blk_drewN ?_ _ | refine blk_drew ?_ | refine blk_alloc ?_ _)); exact BK980.out)) : gb980 ≠ gb992)); have n10_ := Aside0.mk ((by rw [hg]; exact Nat.ne_of_gt (blk_lt (g := gb980) (o := .cells #[.int .i64 t975, .int .i64 t976, .slice Ao10 t977.length co10] 37 (0, 0)) (by (with_reducible repeat (first | refine blk_drewN ?_ _ | refine blk_drew ?_ | refine blk_alloc ?_ _)); exact BK980.out)) : gb992 ≠ gb980)); have n11_ := Aside0.mk ((by rw [hg]; exact Nat.ne_of_lt (blk_lt (g := gb986) (o := .cells #[.int .i64 t981, .int .i64 t982, .slice Ao15 t983.length co15] 37 (0, 0)) (by (with_reducible repeat (first | refine blk_drewN ?_ _ | refine blk_drew ?_ | refine blk_alloc ?_ _)); exact BK986.out)) : gb986 ≠ gb992)); have n12_ := Aside0.mk ((by rw [hg]; exact Nat.ne_of_gt (blk_lt (g := gb986) (o := .cells #[.int .i64 t981, .int .i64 t982, .slice Ao15 t983.length co15] 37 (0, 0)) (by (with_reducible repeat (first | refine blk_drewN ?_ _ | refine blk_drew ?_ | refine blk_alloc ?_ _)); exact BK986.out)) : gb992 ≠ gb986)); clear HO979; clear HO985; clear HO991; clear BK980; clear BK986; clear HB; have HO979 := n0_; have HO985 := n1_; have HO991 := n2_; have BK980 := n3_; have BK986 := n4_; have HB := n5_; have BK992 := n6_; have GW992 := n7_; have GE992 := n8_; have NB980_992 := n9_; have NB992_980 := n10_; have NB986_992 := n11_; have NB992_986 := n12_; clear n0_ n1_ n2_ n3_ n4_ n5_ n6_ n7_ n8_ n9_ n10_ n11_ n12_; clear hb hbox hg; have hnb18 := NB992_980.out; have hnc18 := NB980_992.out; have hnb19 := NB992_986.out; have hnc19 := NB986_992.out; have hcz20_0 : w17.cell? ⟨gb992, 0, none⟩ = some (.int .i64 0) := (blk_cell BK992.out 0).trans rfl; have hcz20_1 : w17.cell? ⟨gb992, 1, none⟩ = some (.int .i64 0) := (blk_cell BK992.out 1).trans rfl; have hcz20_2 : w17.cell? ⟨gb992, 2, none⟩ = some (.slice none 0 0) := (blk_cell BK992.out 2).trans rfl; have hfz20_0 := blk_frozen BK992.out 0; have hfz20_1 := blk_frozen BK992.out 1; have hfz20_2 := blk_frozen BK992.out 2; obtain ⟨Ao21, co21, eo21⟩ := Kd.R_slice HO991.out; subst eo21))
    (try simp only [Act.put, List.setIfInBounds_toArray, List.set_cons_zero, List.set_cons_succ])
    go_cut [36] (fun v36 wc => ∃ (kq : Nat) (x36_5 : Bool), v36 = .bool x36_5 ∧ Aside0 (laws_FnTurned.j0 kq x36_5 t975 t976 t977 t981 t982 t983 t987 t988 t989 = some r) ∧ Aside0 (kq ≤ k) ∧ Aside0 (Kd.R (Kd.int .i64) 3 wc w.heap.size (fun k_ => some k_ ≠ ((.slice Ao15 t983.length co15) : Value).ownBlock ∧ some k_ ≠ ((.slice Ao21 t989.length co21) : Value).ownBlock) (.slice Ao10 t977.length co10) t977) ∧ Aside0 (Kd.R (Kd.int .i64) 3 wc w.heap.size (fun k_ => some k_ ≠ ((.slice Ao10 t977.length co10) : Value).ownBlock ∧ some k_ ≠ ((.slice Ao21 t989.length co21) : Value).ownBlock) (.slice Ao15 t983.length co15) t983) ∧ Aside0 (Kd.R (Kd.int .i64) 3 wc w.heap.size (fun k_ => some k_ ≠ ((.slice Ao10 t977.length co10) : Value).ownBlock ∧ some k_ ≠ ((.slice Ao15 t983.length co15) : Value).ownBlock) (.slice Ao21 t989.length co21) t989) ∧ Aside0 (wc.heap[gb980]? = some (.cells #[.int .i64 t975, .int .i64 t976, (.slice Ao10 t977.length co10)] 37 (0, 0))) ∧ Aside0 (wc.heap[gb986]? = some (.cells #[.int .i64 t981, .int .i64 t982, (.slice Ao15 t983.length co15)] 37 (0, 0))) ∧ Aside0 (wc.heap[gb992]? = some (.cells #[.int .i64 t987, .int .i64 t988, (.slice Ao21 t989.length co21)] 37 (0, 0))) ∧ Aside0 (Below w.heap.size w wc))
    case first =>
      have H := HC6.out
      clear HC6
      by_cases c22 : (t983.length : Int) = (t977.length : Int)
      · rw [if_pos c22] at H
        have c22b0 : ((t983.length : Int) == (t977.length : Int)) = true := beq_iff_eq.mpr c22
        have c22b1 : ((t983.length : Int) != (t977.length : Int)) = false := bne_eq_false_iff_eq.mpr c22
        have c22b2 : (t983.length == t977.length) = true := by first | simpa using c22 | (simp at c22 ⊢; omega)
        clear c22
        (first | rw [c22b0] | (simp only [i64_w, i32_w]; rw [c22b0]) | skip)
        by_cases c23 : t981 = t976
        · rw [if_pos c23] at H
          have c23b0 : (t981 == t976) = true := beq_iff_eq.mpr c23
          have c23b1 : (t981 != t976) = false := bne_eq_false_iff_eq.mpr c23
          clear c23
          replace H := Option.bind_eq_some_iff.mp H
          obtain ⟨⟨t993, t994, t995⟩, A240, H⟩ := H
          replace H : ((impl_TurnPicture.f t993 t994 t995).bind fun bt998 => ((laws_same.f k bt998.1 bt998.2.1 bt998.2.2 t975 t976 t977).bind fun t1003 => (laws_FnTurned.j0 k (!t1003) t975 t976 t977 t981 t982 t983 t987 t988 t989))) = some r := H
          have A24 := Aside0.mk A240
          clear A240
          replace H := Option.bind_eq_some_iff.mp H
          obtain ⟨⟨t998, t999, t1000⟩, A250, H⟩ := H
          replace H : ((laws_same.f k t998 t999 t1000 t975 t976 t977).bind fun t1003 => (laws_FnTurned.j0 k (!t1003) t975 t976 t977 t981 t982 t983 t987 t988 t989)) = some r := H
          have A25 := Aside0.mk A250
          clear A250
          replace H := Option.bind_eq_some_iff.mp H
          obtain ⟨t1003, A260, H⟩ := H
          replace H : (laws_FnTurned.j0 k (!t1003) t975 t976 t977 t981 t982 t983 t987 t988 t989) = some r := H
          have A26 := Aside0.mk A260
          clear A260
          have H' := Aside0.mk H
          clear H
          try go_wp2
          have n0_ : Aside0 (Kd.R (Kd.int .i64) 3 (((w17.setCell ⟨gb992, 0, none⟩ (.int .i64 t987)).setCell ⟨gb992, 1, none⟩ (.int .i64 t988)).setCell ⟨gb992, 2, none⟩ (.slice Ao21 t989.length co21)) w.heap.size (fun k_ => some k_ ≠ (.slice Ao15 t983.length co15 : Value).ownBlock ∧ some k_ ≠ (.slice Ao21 t989.length co21 : Value).ownBlock) (.slice Ao10 t977.length co10) t977) := ⟨by (with_reducible repeat (first | apply Kd.R_alloc | apply Kd.R_drewN | apply Kd.R_drew)); exact Kd.R_mono (Kd.R_far (p := ⟨gb992, 2, none⟩) (Kd.R_far (p := ⟨gb992, 1, none⟩) (Kd.R_far (p := ⟨gb992, 0, none⟩) (Kd.R_types HO979.out BK992.out (by decide)) (fun _ hk => hk.2) (.int .i64 t987)) (fun _ hk => hk.2) (.int .i64 t988)) (fun _ hk => hk.2) (.slice Ao21 t989.length co21)) (fun _ hk => ⟨hk.1.1.2, hk.1.2⟩)⟩
          have n1_ : Aside0 (Kd.R (Kd.int .i64) 3 (((w17.setCell ⟨gb992, 0, none⟩ (.int .i64 t987)).setCell ⟨gb992, 1, none⟩ (.int .i64 t988)).setCell ⟨gb992, 2, none⟩ (.slice Ao21 t989.length co21)) w.heap.size (fun k_ => some k_ ≠ (.slice Ao10 t977.length co10 : Value).ownBlock ∧ some k_ ≠ (.slice Ao21 t989.length co21 : Value).ownBlock) (.slice Ao15 t983.length co15) t983) := ⟨by (with_reducible repeat (first | apply Kd.R_alloc | apply Kd.R_drewN | apply Kd.R_drew)); exact Kd.R_mono (Kd.R_far (p := ⟨gb992, 2, none⟩) (Kd.R_far (p := ⟨gb992, 1, none⟩) (Kd.R_far (p := ⟨gb992, 0, none⟩) (Kd.R_types HO985.out BK992.out (by decide)) (fun _ hk => hk.2) (.int .i64 t987)) (fun _ hk => hk.2) (.int .i64 t988)) (fun _ hk => hk.2) (.slice Ao21 t989.length co21)) (fun _ hk => ⟨hk.1.1.2, hk.1.2⟩)⟩
          have n2_ : Aside0 (Kd.R (Kd.int .i64) 3 (((w17.setCell ⟨gb992, 0, none⟩ (.int .i64 t987)).setCell ⟨gb992, 1, none⟩ (.int .i64 t988)).setCell ⟨gb992, 2, none⟩ (.slice Ao21 t989.length co21)) w.heap.size (fun k_ => some k_ ≠ (.slice Ao10 t977.length co10 : Value).ownBlock ∧ some k_ ≠ (.slice Ao15 t983.length co15 : Value).ownBlock) (.slice Ao21 t989.length co21) t989) := ⟨by (with_reducible repeat (first | apply Kd.R_alloc | apply Kd.R_drewN | apply Kd.R_drew)); exact Kd.R_mono (Kd.R_far (p := ⟨gb992, 2, none⟩) (Kd.R_far (p := ⟨gb992, 1, none⟩) (Kd.R_far (p := ⟨gb992, 0, none⟩) (Kd.R_types HO991.out BK992.out (by decide)) (fun _ hk => hk.2) (.int .i64 t987)) (fun _ hk => hk.2) (.int .i64 t988)) (fun _ hk => hk.2) (.slice Ao21 t989.length co21)) (fun _ hk => ⟨hk.1.1.2, hk.1.2⟩)⟩
          have n3_ : Aside0 ((((w17.setCell ⟨gb992, 0, none⟩ (.int .i64 t987)).setCell ⟨gb992, 1, none⟩ (.int .i64 t988)).setCell ⟨gb992, 2, none⟩ (.slice Ao21 t989.length co21)).heap[gb980]? = some (.cells #[.int .i64 t975, .int .i64 t976, .slice Ao10 t977.length co10] 37 (0, 0))) := ⟨by (with_reducible repeat (first | refine blk_drewN ?_ _ | refine blk_drew ?_ | refine blk_alloc ?_ _)); refine blk_far ?_ NB980_992.out _; (with_reducible repeat (first | refine blk_drewN ?_ _ | refine blk_drew ?_ | refine blk_alloc ?_ _)); refine blk_far ?_ NB980_992.out _; (with_reducible repeat (first | refine blk_drewN ?_ _ | refine blk_drew ?_ | refine blk_alloc ?_ _)); refine blk_far ?_ NB980_992.out _; (with_reducible repeat (first | refine blk_drewN ?_ _ | refine blk_drew ?_ | refine blk_alloc ?_ _)); exact BK980.out⟩
          have n4_ : Aside0 ((((w17.setCell ⟨gb992, 0, none⟩ (.int .i64 t987)).setCell ⟨gb992, 1, none⟩ (.int .i64 t988)).setCell ⟨gb992, 2, none⟩ (.slice Ao21 t989.length co21)).heap[gb986]? = some (.cells #[.int .i64 t981, .int .i64 t982, .slice Ao15 t983.length co15] 37 (0, 0))) := ⟨by (with_reducible repeat (first | refine blk_drewN ?_ _ | refine blk_drew ?_ | refine blk_alloc ?_ _)); refine blk_far ?_ NB986_992.out _; (with_reducible repeat (first | refine blk_drewN ?_ _ | refine blk_drew ?_ | refine blk_alloc ?_ _)); refine blk_far ?_ NB986_992.out _; (with_reducible repeat (first | refine blk_drewN ?_ _ | refine blk_drew ?_ | refine blk_alloc ?_ _)); refine blk_far ?_ NB986_992.out _; (with_reducible repeat (first | refine blk_drewN ?_ _ | refine blk_drew ?_ | refine blk_alloc ?_ _)); exact BK986.out⟩
          have n5_ : Aside0 ((((w17.setCell ⟨gb992, 0, none⟩ (.int .i64 t987)).setCell ⟨gb992, 1, none⟩ (.int .i64 t988)).setCell ⟨gb992, 2, none⟩ (.slice Ao21 t989.length co21)).heap[gb992]? = some (.cells #[.int .i64 t987, .int .i64 t988, .slice Ao21 t989.length co21] 37 (0, 0))) := ⟨by (with_reducible repeat (first | refine blk_drewN ?_ _ | refine blk_drew ?_ | refine blk_alloc ?_ _)); refine blk_put (cs := #[.int .i64 t987, .int .i64 t988, .slice none 0 0]) ?_ 2 _ rfl; (with_reducible repeat (first | refine blk_drewN ?_ _ | refine blk_drew ?_ | refine blk_alloc ?_ _)); refine blk_put (cs := #[.int .i64 t987, .int .i64 0, .slice none 0 0]) ?_ 1 _ rfl; (with_reducible repeat (first | refine blk_drewN ?_ _ | refine blk_drew ?_ | refine blk_alloc ?_ _)); refine blk_put (cs := #[.int .i64 0, .int .i64 0, .slice none 0 0]) ?_ 0 _ rfl; (with_reducible repeat (first | refine blk_drewN ?_ _ | refine blk_drew ?_ | refine blk_alloc ?_ _)); exact BK992.out⟩
          have n6_ : Aside0 (Below w.heap.size w (((w17.setCell ⟨gb992, 0, none⟩ (.int .i64 t987)).setCell ⟨gb992, 1, none⟩ (.int .i64 t988)).setCell ⟨gb992, 2, none⟩ (.slice Ao21 t989.length co21))) := ⟨by repeat (first | (with_reducible first | exact HB.out | apply below_alloc | apply pw_below_drewN | apply below_drew1 | refine below_set ?_ GE980.out | refine below_set ?_ GE986.out | refine below_set ?_ GE992.out) | exact HB.out)⟩
          (try clear HO979)
          (try clear HO985)
          (try clear HO991)
          (try clear BK980)
          (try clear BK986)
          (try clear BK992)
          (try clear HB)
          generalize (((w17.setCell ⟨gb992, 0, none⟩ (.int .i64 t987)).setCell ⟨gb992, 1, none⟩ (.int .i64 t988)).setCell ⟨gb992, 2, none⟩ (.slice Ao21 t989.length co21)) = w27 at n0_ n1_ n2_ n3_ n4_ n5_ n6_ ⊢
          have HO979 := n0_
          have HO985 := n1_
          have HO991 := n2_
          have BK980 := n3_
          have BK986 := n4_
          have BK992 := n5_
          have HB := n6_
          clear n0_ n1_ n2_ n3_ n4_ n5_ n6_
          have n0_ := Aside0.mk (Kd.R_drew HO979.out)
          have n1_ := Aside0.mk (Kd.R_drew HO985.out)
          have n2_ := Aside0.mk (Kd.R_drew HO991.out)
          have n3_ := Aside0.mk (blk_drew BK980.out)
          have n4_ := Aside0.mk (blk_drew BK986.out)
          have n5_ := Aside0.mk (blk_drew BK992.out)
          have n6_ := Aside0.mk (below_drew1 HB.out)
          clear HO979
          clear HO985
          clear HO991
          clear BK980
          clear BK986
          clear BK992
          clear HB
          have HO979 := n0_
          have HO985 := n1_
          have HO991 := n2_
          have BK980 := n3_
          have BK986 := n4_
          have BK992 := n5_
          have HB := n6_
          clear n0_ n1_ n2_ n3_ n4_ n5_ n6_
          refine start_ (n := 22) (S := fun w' => w'.cell? ⟨gb986, 0, none⟩ = some (.int .i64 t981) ∧ w'.cell? ⟨gb986, 1, none⟩ = some (.int .i64 t982) ∧ w'.cell? ⟨gb986, 2, none⟩ = some (.slice Ao15 t983.length co15) ∧ w'.cell? ⟨gb980, 0, none⟩ = some (.int .i64 t975) ∧ w'.cell? ⟨gb980, 1, none⟩ = some (.int .i64 t976) ∧ w'.cell? ⟨gb980, 2, none⟩ = some (.slice Ao10 t977.length co10) ∧ w'.cell? ⟨gb992, 0, none⟩ = some (.int .i64 t987) ∧ w'.cell? ⟨gb992, 1, none⟩ = some (.int .i64 t988) ∧ w'.cell? ⟨gb992, 2, none⟩ = some (.slice Ao21 t989.length co21)) (ds := []) #[false, false, false, false, false, false, false, false, false, false, false, false, false, false, false, false, false, false, false, false, false, false] (by kernel_rfl) rfl rfl ⟨(blk_cell BK986.out 0).trans rfl, (blk_cell BK986.out 1).trans rfl, (blk_cell BK986.out 2).trans rfl, (blk_cell BK980.out 0).trans rfl, (blk_cell BK980.out 1).trans rfl, (blk_cell BK980.out 2).trans rfl, (blk_cell BK992.out 0).trans rfl, (blk_cell BK992.out 1).trans rfl, (blk_cell BK992.out 2).trans rfl⟩ (fun hHeld => ?_); refine with_tabW laws_FnTurned.tab6 laws_FnTurned.bits6 (fun HT_ HW_ => ?_)
          generalize w27.drew = w28 at HO979 HO985 HO991 BK980 BK986 BK992 HB hHeld ⊢
          refine pure_ (i := 0) (N := some 15) (v := ?_) (a' := ?_) #[true, false, false, false, false, false, false, false, false, false, false, false, false, false, false, false, false, false, false, false, false, false] rfl rfl (any_of HT_.out (by kernel_rfl)) (fun _ _ _ h => h) (Or.inl ⟨by rfl, ?_⟩) ?_ ?_
          rotate_left
          · intro w'
            go_simp
            with_reducible rfl
          rotate_left
          · simp only [Act.put, List.setIfInBounds_toArray, List.set_cons_zero, List.set_cons_succ, i64_w, i32_w]
            rfl
          refine pure_ (i := 3) (N := some 18) (v := ?_) (a' := ?_) #[true, false, false, true, false, false, false, false, false, false, false, false, false, false, false, false, false, false, false, false, false, false] rfl rfl (any_of HT_.out (by kernel_rfl)) (fun _ _ _ h => h) (Or.inl ⟨by rfl, ?_⟩) ?_ ?_
          rotate_left
          · intro w'
            go_simp
            with_reducible rfl
          rotate_left
          · simp only [Act.put, List.setIfInBounds_toArray, List.set_cons_zero, List.set_cons_succ, i64_w, i32_w]
            rfl
          refine take_ (i := 1) (N := some 16) (v := ?_) (a' := ?_) #[true, true, false, true, false, false, false, false, false, false, false, false, false, false, false, false, false, false, false, false, false, false] rfl rfl (take_ofW HT_.out HW_.out (by kernel_rfl)) (fun _ _ _ h => h) (Or.inl ⟨by rfl, ?_⟩) hHeld ?_ ?_
          rotate_left
          · rintro w' ⟨s0, s1, s2, s3, s4, s5, s6, s7, s8⟩
            go_simp
            with_reducible rfl
          rotate_left
          · simp only [Act.put, List.setIfInBounds_toArray, List.set_cons_zero, List.set_cons_succ, i64_w, i32_w]
            rfl
          refine pure_ (i := 2) (N := some 17) (v := ?_) (a' := ?_) #[true, true, true, true, false, false, false, false, false, false, false, false, false, false, false, false, false, false, false, false, false, false] rfl rfl (any_of HT_.out (by kernel_rfl)) (fun _ _ _ h => h) (Or.inl ⟨by rfl, ?_⟩) ?_ ?_
          rotate_left
          · intro w'
            go_simp
            with_reducible rfl
          rotate_left
          · simp only [Act.put, List.setIfInBounds_toArray, List.set_cons_zero, List.set_cons_succ, i64_w, i32_w]
            rfl
          refine take_ (i := 4) (N := some 19) (v := ?_) (a' := ?_) #[true, true, true, true, true, false, false, false, false, false, false, false, false, false, false, false, false, false, false, false, false, false] rfl rfl (take_ofW HT_.out HW_.out (by kernel_rfl)) (fun _ _ _ h => h) (Or.inl ⟨by rfl, ?_⟩) hHeld ?_ ?_
          rotate_left
          · rintro w' ⟨s0, s1, s2, s3, s4, s5, s6, s7, s8⟩
            go_simp
            with_reducible rfl
          rotate_left
          · simp only [Act.put, List.setIfInBounds_toArray, List.set_cons_zero, List.set_cons_succ, i64_w, i32_w]
            rfl
          refine pure_ (i := 5) (N := some 20) (v := ?_) (a' := ?_) #[true, true, true, true, true, true, false, false, false, false, false, false, false, false, false, false, false, false, false, false, false, false] rfl rfl (any_of HT_.out (by kernel_rfl)) (fun _ _ _ h => h) (Or.inl ⟨by rfl, ?_⟩) ?_ ?_
          rotate_left
          · intro w'
            go_simp
            with_reducible rfl
          rotate_left
          · simp only [Act.put, List.setIfInBounds_toArray, List.set_cons_zero, List.set_cons_succ, i64_w, i32_w]
            rfl
          refine pure_ (i := 6) (N := some 21) (v := ?_) (a' := ?_) #[true, true, true, true, true, true, true, false, false, false, false, false, false, false, false, false, false, false, false, false, false, false] rfl rfl (any_of HT_.out (by kernel_rfl)) (fun _ _ _ h => h) (Or.inl ⟨by rfl, ?_⟩) ?_ ?_
          rotate_left
          · intro w'
            go_simp
            with_reducible rfl
          rotate_left
          · simp only [Act.put, List.setIfInBounds_toArray, List.set_cons_zero, List.set_cons_succ, i64_w, i32_w]
            rfl
          refine pure_ (i := 7) (N := some 22) (v := ?_) (a' := ?_) #[true, true, true, true, true, true, true, true, false, false, false, false, false, false, false, false, false, false, false, false, false, false] rfl rfl (any_of HT_.out (by kernel_rfl)) (fun _ _ _ h => h) (Or.inl ⟨by rfl, ?_⟩) ?_ ?_
          rotate_left
          · intro w'
            go_simp
            with_reducible rfl
          rotate_left
          · simp only [Act.put, List.setIfInBounds_toArray, List.set_cons_zero, List.set_cons_succ, i64_w, i32_w]
            rfl
          refine pure_ (i := 8) (N := some 23) (v := ?_) (a' := ?_) #[true, true, true, true, true, true, true, true, true, false, false, false, false, false, false, false, false, false, false, false, false, false] rfl rfl (any_of HT_.out (by kernel_rfl)) (fun _ _ _ h => h) (Or.inl ⟨by rfl, ?_⟩) ?_ ?_
          rotate_left
          · intro w'
            go_simp
            with_reducible rfl
          rotate_left
          · simp only [Act.put, List.setIfInBounds_toArray, List.set_cons_zero, List.set_cons_succ, i64_w, i32_w]
            rfl
          refine pure_ (i := 10) (N := some 25) (v := ?_) (a' := ?_) #[true, true, true, true, true, true, true, true, true, false, true, false, false, false, false, false, false, false, false, false, false, false] rfl rfl (any_of HT_.out (by kernel_rfl)) (fun _ _ _ h => h) (Or.inl ⟨by rfl, ?_⟩) ?_ ?_
          rotate_left
          · intro w'
            go_simp
            with_reducible rfl
          rotate_left
          · simp only [Act.put, List.setIfInBounds_toArray, List.set_cons_zero, List.set_cons_succ, i64_w, i32_w]
            rfl
          refine take_ (i := 9) (N := some 24) (v := ?_) (a' := ?_) #[true, true, true, true, true, true, true, true, true, true, true, false, false, false, false, false, false, false, false, false, false, false] rfl rfl (take_ofW HT_.out HW_.out (by kernel_rfl)) (fun _ _ _ h => h) (Or.inl ⟨by rfl, ?_⟩) hHeld ?_ ?_
          rotate_left
          · rintro w' ⟨s0, s1, s2, s3, s4, s5, s6, s7, s8⟩
            go_simp
            with_reducible rfl
          rotate_left
          · simp only [Act.put, List.setIfInBounds_toArray, List.set_cons_zero, List.set_cons_succ, i64_w, i32_w]
            rfl
          refine take_ (i := 11) (N := some 26) (v := ?_) (a' := ?_) #[true, true, true, true, true, true, true, true, true, true, true, true, false, false, false, false, false, false, false, false, false, false] rfl rfl (take_ofW HT_.out HW_.out (by kernel_rfl)) (fun _ _ _ h => h) (Or.inl ⟨by rfl, ?_⟩) hHeld ?_ ?_
          rotate_left
          · rintro w' ⟨s0, s1, s2, s3, s4, s5, s6, s7, s8⟩
            go_simp
            with_reducible rfl
          rotate_left
          · simp only [Act.put, List.setIfInBounds_toArray, List.set_cons_zero, List.set_cons_succ, i64_w, i32_w]
            rfl
          refine pure_ (i := 12) (N := some 27) (v := ?_) (a' := ?_) #[true, true, true, true, true, true, true, true, true, true, true, true, true, false, false, false, false, false, false, false, false, false] rfl rfl (any_of HT_.out (by kernel_rfl)) (fun _ _ _ h => h) (Or.inl ⟨by rfl, ?_⟩) ?_ ?_
          rotate_left
          · intro w'
            go_simp
            with_reducible rfl
          rotate_left
          · simp only [Act.put, List.setIfInBounds_toArray, List.set_cons_zero, List.set_cons_succ, i64_w, i32_w]
            rfl
          refine pure_ (i := 13) (N := some 28) (v := ?_) (a' := ?_) #[true, true, true, true, true, true, true, true, true, true, true, true, true, true, false, false, false, false, false, false, false, false] rfl rfl (any_of HT_.out (by kernel_rfl)) (fun _ _ _ h => h) (Or.inl ⟨by rfl, ?_⟩) ?_ ?_
          rotate_left
          · intro w'
            go_simp
            with_reducible rfl
          rotate_left
          · simp only [Act.put, List.setIfInBounds_toArray, List.set_cons_zero, List.set_cons_succ, i64_w, i32_w]
            rfl
          refine pure_ (i := 14) (N := some 29) (v := ?_) (a' := ?_) #[true, true, true, true, true, true, true, true, true, true, true, true, true, true, true, false, false, false, false, false, false, false] rfl rfl (any_of HT_.out (by kernel_rfl)) (fun _ _ _ h => h) (Or.inl ⟨by rfl, ?_⟩) ?_ ?_
          rotate_left
          · intro w'
            go_simp
            with_reducible rfl
          rotate_left
          · simp only [Act.put, List.setIfInBounds_toArray, List.set_cons_zero, List.set_cons_succ, i64_w, i32_w]
            rfl
          refine take_ (i := 15) (N := some 30) (v := ?_) (a' := ?_) #[true, true, true, true, true, true, true, true, true, true, true, true, true, true, true, true, false, false, false, false, false, false] rfl rfl (take_ofW HT_.out HW_.out (by kernel_rfl)) (fun _ _ _ h => h) (Or.inl ⟨by rfl, ?_⟩) hHeld ?_ ?_
          rotate_left
          · rintro w' ⟨s0, s1, s2, s3, s4, s5, s6, s7, s8⟩
            go_simp
            with_reducible rfl
          rotate_left
          · simp only [Act.put, List.setIfInBounds_toArray, List.set_cons_zero, List.set_cons_succ, i64_w, i32_w]
            rfl
          refine take_ (i := 18) (N := some 33) (v := ?_) (a' := ?_) #[true, true, true, true, true, true, true, true, true, true, true, true, true, true, true, true, false, false, true, false, false, false] rfl rfl (take_ofW HT_.out HW_.out (by kernel_rfl)) (fun _ _ _ h => h) (Or.inl ⟨by rfl, ?_⟩) hHeld ?_ ?_
          rotate_left
          · rintro w' ⟨s0, s1, s2, s3, s4, s5, s6, s7, s8⟩
            go_simp
            with_reducible rfl
          rotate_left
          · simp only [Act.put, List.setIfInBounds_toArray, List.set_cons_zero, List.set_cons_succ, i64_w, i32_w]
            rfl
          refine one_ (i := 16) (N := some 31) #[true, true, true, true, true, true, true, true, true, true, true, true, true, true, true, true, true, false, true, false, false, false] rfl rfl (one_of HT_.out (by kernel_rfl)) (by decide) (fun K hK => ?_)
          refine goes_ Try.func87 (by kernel_rfl) rfl #[.agg #[.int .i64 t987, .int .i64 t988, .slice Ao21 t989.length co21]] (by rfl) rfl rfl (by (try simp only [List.map_toArray, List.map_cons, List.map_nil]); first | done | rfl | (simp only [List.length_drop, List.length_take]; rfl)) ?_
          with_reducible refine (impl_TurnPicture.calls t987 t988 _ _ t989 t993 t994 t995 _ ?side1 ?side2 A24.out).mono ?_
          (case side1 => repeat (first | exact (Kd.R_reads' HO991.out).2.2 | (with_reducible refine Kd.C_alloc ?_ _) | (with_reducible refine Kd.C_drewN ?_ _) | (with_reducible refine Kd.C_drew ?_)))
          (case side2 => exact (Kd.R_reads' HO991.out).2.1)
          rintro e w29 ⟨v996, rfl, ho0, hb⟩
          refine ⟨_, rfl, ?_⟩
          have n0_ := Aside0.mk (Kd.R_elder' (by (with_reducible repeat (first | apply Kd.R_alloc | apply Kd.R_drewN | apply Kd.R_drew)); exact HO979.out) (Kd.R_base ho0) hb)
          have n1_ := Aside0.mk (Kd.R_elder' (by (with_reducible repeat (first | apply Kd.R_alloc | apply Kd.R_drewN | apply Kd.R_drew)); exact HO985.out) (Kd.R_base ho0) hb)
          have n2_ := Aside0.mk (Kd.R_elder' (by (with_reducible repeat (first | apply Kd.R_alloc | apply Kd.R_drewN | apply Kd.R_drew)); exact HO991.out) (Kd.R_base ho0) hb)
          have n3_ := Aside0.mk (Kd.R_lower (Kd.R_new' (Kd.R_new' (Kd.R_new' ho0 (Kd.R_lt (by (with_reducible repeat (first | apply Kd.R_alloc | apply Kd.R_drewN | apply Kd.R_drew)); exact HO979.out))) (Kd.R_lt (by (with_reducible repeat (first | apply Kd.R_alloc | apply Kd.R_drewN | apply Kd.R_drew)); exact HO985.out))) (Kd.R_lt (by (with_reducible repeat (first | apply Kd.R_alloc | apply Kd.R_drewN | apply Kd.R_drew)); exact HO991.out))) (below_size (by repeat (first | (with_reducible first | exact HB.out | apply below_alloc | apply pw_below_drewN | apply below_drew1 | refine below_set ?_ GE980.out | refine below_set ?_ GE986.out | refine below_set ?_ GE992.out) | exact HB.out))))
          have n4_ := Aside0.mk (blk_below (g := gb980) (o := .cells #[.int .i64 t975, .int .i64 t976, .slice Ao10 t977.length co10] 37 (0, 0)) (by (with_reducible repeat (first | refine blk_drewN ?_ _ | refine blk_drew ?_ | refine blk_alloc ?_ _)); exact BK980.out) hb)
          have n5_ := Aside0.mk (blk_below (g := gb986) (o := .cells #[.int .i64 t981, .int .i64 t982, .slice Ao15 t983.length co15] 37 (0, 0)) (by (with_reducible repeat (first | refine blk_drewN ?_ _ | refine blk_drew ?_ | refine blk_alloc ?_ _)); exact BK986.out) hb)
          have n6_ := Aside0.mk (blk_below (g := gb992) (o := .cells #[.int .i64 t987, .int .i64 t988, .slice Ao21 t989.length co21] 37 (0, 0)) (by (with_reducible repeat (first | refine blk_drewN ?_ _ | refine blk_drew ?_ | refine blk_alloc ?_ _)); exact BK992.out) hb)
          have n7_ := Aside0.mk (below_step (by repeat (first | (with_reducible first | exact HB.out | apply below_alloc | apply pw_below_drewN | apply below_drew1 | refine below_set ?_ GE980.out | refine below_set ?_ GE986.out | refine below_set ?_ GE992.out) | exact HB.out)) hb)
          clear HO979
          clear HO985
          clear HO991
          clear BK980
          clear BK986
          clear BK992
          clear HB
          have HO979 := n0_
          have HO985 := n1_
          have HO991 := n2_
          have HO997 := n3_
          have BK980 := n4_
          have BK986 := n5_
          have BK992 := n6_
          have HB := n7_
          clear n0_ n1_ n2_ n3_ n4_ n5_ n6_ n7_
          (try clear hb)
          (try clear hb2)
          (try clear hk)
          (try clear hi)
          (try clear ho0)
          obtain ⟨Ao30, co30, eo30⟩ := Kd.R_slice HO997.out
          (first | subst eo30 | (injection eo30 with f1_ f2_ f3_; have f4_ := f1_.symm; have f5_ := f3_.symm; clear f1_ f2_ f3_; subst f4_; subst f5_))
          refine hK.out _ _ ⟨(blk_cell BK986.out 0).trans rfl, (blk_cell BK986.out 1).trans rfl, (blk_cell BK986.out 2).trans rfl, (blk_cell BK980.out 0).trans rfl, (blk_cell BK980.out 1).trans rfl, (blk_cell BK980.out 2).trans rfl, (blk_cell BK992.out 0).trans rfl, (blk_cell BK992.out 1).trans rfl, (blk_cell BK992.out 2).trans rfl⟩ (fun hHeld => ?_)
          clear hK K
          refine norm_ (a' := ?_) ?_ ?_
          rotate_left
          · show Act.put _ (some 31) _ = _
            simp only [Act.put, List.setIfInBounds_toArray, List.set_cons_zero, List.set_cons_succ, i64_w, i32_w]
            rfl
          refine one_ (i := 17) (N := some 32) #[true, true, true, true, true, true, true, true, true, true, true, true, true, true, true, true, true, true, true, false, false, false] rfl rfl (one_of HT_.out (by kernel_rfl)) (by decide) (fun K hK => ?_)
          refine goes_ Try.func87 (by kernel_rfl) rfl #[.agg #[.int .i64 t993, .int .i64 t994, .slice Ao30 t995.length co30]] (by rfl) rfl rfl (by (try simp only [List.map_toArray, List.map_cons, List.map_nil]); first | done | rfl | (simp only [List.length_drop, List.length_take]; rfl)) ?_
          with_reducible refine (impl_TurnPicture.calls t993 t994 _ _ t995 t998 t999 t1000 _ ?side1 ?side2 A25.out).mono ?_
          (case side1 => repeat (first | exact (Kd.R_reads' HO997.out).2.2 | (with_reducible refine Kd.C_alloc ?_ _) | (with_reducible refine Kd.C_drewN ?_ _) | (with_reducible refine Kd.C_drew ?_)))
          (case side2 => exact (Kd.R_reads' HO997.out).2.1)
          rintro e w31 ⟨v1001, rfl, ho0, hb⟩
          refine ⟨_, rfl, ?_⟩
          have n0_ := Aside0.mk (Kd.R_elder' (by (with_reducible repeat (first | apply Kd.R_alloc | apply Kd.R_drewN | apply Kd.R_drew)); exact HO979.out) (Kd.R_base ho0) hb)
          have n1_ := Aside0.mk (Kd.R_elder' (by (with_reducible repeat (first | apply Kd.R_alloc | apply Kd.R_drewN | apply Kd.R_drew)); exact HO985.out) (Kd.R_base ho0) hb)
          have n2_ := Aside0.mk (Kd.R_elder' (by (with_reducible repeat (first | apply Kd.R_alloc | apply Kd.R_drewN | apply Kd.R_drew)); exact HO991.out) (Kd.R_base ho0) hb)
          have n3_ := Aside0.mk (Kd.R_elder' (by (with_reducible repeat (first | apply Kd.R_alloc | apply Kd.R_drewN | apply Kd.R_drew)); exact HO997.out) (Kd.R_base ho0) hb)
          have n4_ := Aside0.mk (Kd.R_lower (Kd.R_new' (Kd.R_new' (Kd.R_new' (Kd.R_new' ho0 (Kd.R_lt (by (with_reducible repeat (first | apply Kd.R_alloc | apply Kd.R_drewN | apply Kd.R_drew)); exact HO979.out))) (Kd.R_lt (by (with_reducible repeat (first | apply Kd.R_alloc | apply Kd.R_drewN | apply Kd.R_drew)); exact HO985.out))) (Kd.R_lt (by (with_reducible repeat (first | apply Kd.R_alloc | apply Kd.R_drewN | apply Kd.R_drew)); exact HO991.out))) (Kd.R_lt (by (with_reducible repeat (first | apply Kd.R_alloc | apply Kd.R_drewN | apply Kd.R_drew)); exact HO997.out))) (below_size (by repeat (first | (with_reducible first | exact HB.out | apply below_alloc | apply pw_below_drewN | apply below_drew1 | refine below_set ?_ GE980.out | refine below_set ?_ GE986.out | refine below_set ?_ GE992.out) | exact HB.out))))
          have n5_ := Aside0.mk (blk_below (g := gb980) (o := .cells #[.int .i64 t975, .int .i64 t976, .slice Ao10 t977.length co10] 37 (0, 0)) (by (with_reducible repeat (first | refine blk_drewN ?_ _ | refine blk_drew ?_ | refine blk_alloc ?_ _)); exact BK980.out) hb)
          have n6_ := Aside0.mk (blk_below (g := gb986) (o := .cells #[.int .i64 t981, .int .i64 t982, .slice Ao15 t983.length co15] 37 (0, 0)) (by (with_reducible repeat (first | refine blk_drewN ?_ _ | refine blk_drew ?_ | refine blk_alloc ?_ _)); exact BK986.out) hb)
          have n7_ := Aside0.mk (blk_below (g := gb992) (o := .cells #[.int .i64 t987, .int .i64 t988, .slice Ao21 t989.length co21] 37 (0, 0)) (by (with_reducible repeat (first | refine blk_drewN ?_ _ | refine blk_drew ?_ | refine blk_alloc ?_ _)); exact BK992.out) hb)
          have n8_ := Aside0.mk (below_step (by repeat (first | (with_reducible first | exact HB.out | apply below_alloc | apply pw_below_drewN | apply below_drew1 | refine below_set ?_ GE980.out | refine below_set ?_ GE986.out | refine below_set ?_ GE992.out) | exact HB.out)) hb)
          clear HO979
          clear HO985
          clear HO991
          clear HO997
          clear BK980
          clear BK986
          clear BK992
          clear HB
          have HO979 := n0_
          have HO985 := n1_
          have HO991 := n2_
          have HO997 := n3_
          have HO1002 := n4_
          have BK980 := n5_
          have BK986 := n6_
          have BK992 := n7_
          have HB := n8_
          clear n0_ n1_ n2_ n3_ n4_ n5_ n6_ n7_ n8_
          (try clear hb)
          (try clear hb2)
          (try clear hk)
          (try clear hi)
          (try clear ho0)
          obtain ⟨Ao32, co32, eo32⟩ := Kd.R_slice HO1002.out
          (first | subst eo32 | (injection eo32 with f1_ f2_ f3_; have f4_ := f1_.symm; have f5_ := f3_.symm; clear f1_ f2_ f3_; subst f4_; subst f5_))
          refine hK.out _ _ ⟨(blk_cell BK986.out 0).trans rfl, (blk_cell BK986.out 1).trans rfl, (blk_cell BK986.out 2).trans rfl, (blk_cell BK980.out 0).trans rfl, (blk_cell BK980.out 1).trans rfl, (blk_cell BK980.out 2).trans rfl, (blk_cell BK992.out 0).trans rfl, (blk_cell BK992.out 1).trans rfl, (blk_cell BK992.out 2).trans rfl⟩ (fun hHeld => ?_)
          clear hK K
          refine norm_ (a' := ?_) ?_ ?_
          rotate_left
          · show Act.put _ (some 32) _ = _
            simp only [Act.put, List.setIfInBounds_toArray, List.set_cons_zero, List.set_cons_succ, i64_w, i32_w]
            rfl
          refine one_ (i := 19) (N := some 34) #[true, true, true, true, true, true, true, true, true, true, true, true, true, true, true, true, true, true, true, true, false, false] rfl rfl (one_of HT_.out (by kernel_rfl)) (by decide) (fun K hK => ?_)
          refine goes_ Try.func85 (by kernel_rfl) rfl #[.agg #[.int .i64 t998, .int .i64 t999, .slice Ao32 t1000.length co32], .agg #[.int .i64 t975, .int .i64 t976, .slice Ao10 t977.length co10]] (by rfl) rfl rfl (by (try simp only [List.map_toArray, List.map_cons, List.map_nil]); first | done | rfl | (simp only [List.length_drop, List.length_take]; rfl)) ?_
          with_reducible refine (laws_same.calls k t998 t999 _ _ t1000 t975 t976 _ _ t977 t1003 _ ?side1 ?side2 ?side3 ?side4 A26.out).mono ?_
          (case side1 => repeat (first | exact (Kd.R_reads' HO1002.out).2.2 | (with_reducible refine Kd.C_alloc ?_ _) | (with_reducible refine Kd.C_drewN ?_ _) | (with_reducible refine Kd.C_drew ?_)))
          (case side2 => exact (Kd.R_reads' HO1002.out).2.1)
          (case side3 => repeat (first | exact (Kd.R_reads' HO979.out).2.2 | (with_reducible refine Kd.C_alloc ?_ _) | (with_reducible refine Kd.C_drewN ?_ _) | (with_reducible refine Kd.C_drew ?_)))
          (case side4 => exact (Kd.R_reads' HO979.out).2.1)
          rintro e w33 ⟨rfl, hb⟩
          refine ⟨_, rfl, ?_⟩
          have n0_ := Aside0.mk (Kd.R_below (by (with_reducible repeat (first | apply Kd.R_alloc | apply Kd.R_drewN | apply Kd.R_drew)); exact HO979.out) hb)
          have n1_ := Aside0.mk (Kd.R_below (by (with_reducible repeat (first | apply Kd.R_alloc | apply Kd.R_drewN | apply Kd.R_drew)); exact HO985.out) hb)
          have n2_ := Aside0.mk (Kd.R_below (by (with_reducible repeat (first | apply Kd.R_alloc | apply Kd.R_drewN | apply Kd.R_drew)); exact HO991.out) hb)
          have n3_ := Aside0.mk (Kd.R_below (by (with_reducible repeat (first | apply Kd.R_alloc | apply Kd.R_drewN | apply Kd.R_drew)); exact HO997.out) hb)
          have n4_ := Aside0.mk (Kd.R_below (by (with_reducible repeat (first | apply Kd.R_alloc | apply Kd.R_drewN | apply Kd.R_drew)); exact HO1002.out) hb)
          have n5_ := Aside0.mk (blk_below (g := gb980) (o := .cells #[.int .i64 t975, .int .i64 t976, .slice Ao10 t977.length co10] 37 (0, 0)) (by (with_reducible repeat (first | refine blk_drewN ?_ _ | refine blk_drew ?_ | refine blk_alloc ?_ _)); exact BK980.out) hb)
          have n6_ := Aside0.mk (blk_below (g := gb986) (o := .cells #[.int .i64 t981, .int .i64 t982, .slice Ao15 t983.length co15] 37 (0, 0)) (by (with_reducible repeat (first | refine blk_drewN ?_ _ | refine blk_drew ?_ | refine blk_alloc ?_ _)); exact BK986.out) hb)
          have n7_ := Aside0.mk (blk_below (g := gb992) (o := .cells #[.int .i64 t987, .int .i64 t988, .slice Ao21 t989.length co21] 37 (0, 0)) (by (with_reducible repeat (first | refine blk_drewN ?_ _ | refine blk_drew ?_ | refine blk_alloc ?_ _)); exact BK992.out) hb)
          have n8_ := Aside0.mk (below_step (by repeat (first | (with_reducible first | exact HB.out | apply below_alloc | apply pw_below_drewN | apply below_drew1 | refine below_set ?_ GE980.out | refine below_set ?_ GE986.out | refine below_set ?_ GE992.out) | exact HB.out)) hb)
          clear HO979
          clear HO985
          clear HO991
          clear HO997
          clear HO1002
          clear BK980
          clear BK986
          clear BK992
          clear HB
          have HO979 := n0_
          have HO985 := n1_
          have HO991 := n2_
          have HO997 := n3_
          have HO1002 := n4_
          have BK980 := n5_
          have BK986 := n6_
          have BK992 := n7_
          have HB := n8_
          clear n0_ n1_ n2_ n3_ n4_ n5_ n6_ n7_ n8_
          (try clear hb)
          (try clear hb2)
          (try clear hk)
          (try clear hi)
          refine hK.out _ _ ⟨(blk_cell BK986.out 0).trans rfl, (blk_cell BK986.out 1).trans rfl, (blk_cell BK986.out 2).trans rfl, (blk_cell BK980.out 0).trans rfl, (blk_cell BK980.out 1).trans rfl, (blk_cell BK980.out 2).trans rfl, (blk_cell BK992.out 0).trans rfl, (blk_cell BK992.out 1).trans rfl, (blk_cell BK992.out 2).trans rfl⟩ (fun hHeld => ?_)
          clear hK K
          refine norm_ (a' := ?_) ?_ ?_
          rotate_left
          · show Act.put _ (some 34) _ = _
            simp only [Act.put, List.setIfInBounds_toArray, List.set_cons_zero, List.set_cons_succ, i64_w, i32_w]
            rfl
          refine pure_ (i := 20) (N := some 35) (v := ?_) (a' := ?_) #[true, true, true, true, true, true, true, true, true, true, true, true, true, true, true, true, true, true, true, true, true, false] rfl rfl (any_of HT_.out (by kernel_rfl)) (fun _ _ _ h => h) (Or.inl ⟨by rfl, ?_⟩) ?_ ?_
          rotate_left
          · intro w'
            go_simp
            with_reducible rfl
          rotate_left
          · simp only [Act.put, List.setIfInBounds_toArray, List.set_cons_zero, List.set_cons_succ, i64_w, i32_w]
            rfl
          refine pure_ (i := 21) (N := some 36) (v := ?_) (a' := ?_) #[true, true, true, true, true, true, true, true, true, true, true, true, true, true, true, true, true, true, true, true, true, true] rfl rfl (any_of HT_.out (by kernel_rfl)) (fun _ _ _ h => h) (Or.inl ⟨by rfl, ?_⟩) ?_ ?_
          rotate_left
          · intro w'
            go_simp
            with_reducible rfl
          rotate_left
          · simp only [Act.put, List.setIfInBounds_toArray, List.set_cons_zero, List.set_cons_succ, i64_w, i32_w]
            rfl
          refine done_ (done_of HT_.out (by kernel_rfl)) ?_
          try go_wp2
          go_meet
          case rel => exact ⟨_, (!t1003), (by first | rfl | (simp; done) | (simp [*]; done)), H', ⟨by first | omega | exact Nat.le_refl _⟩, ⟨by (with_reducible repeat (first | apply Kd.R_alloc | apply Kd.R_drewN | apply Kd.R_drew)); exact Kd.R_mono HO979.out (fun _ hk => ⟨hk.1.1.1, hk.1.1.2⟩)⟩, ⟨by (with_reducible repeat (first | apply Kd.R_alloc | apply Kd.R_drewN | apply Kd.R_drew)); exact Kd.R_mono HO985.out (fun _ hk => ⟨hk.1.1.1, hk.1.1.2⟩)⟩, ⟨by (with_reducible repeat (first | apply Kd.R_alloc | apply Kd.R_drewN | apply Kd.R_drew)); exact Kd.R_mono HO991.out (fun _ hk => ⟨hk.1.1.1, hk.1.1.2⟩)⟩, ⟨by (with_reducible repeat (first | refine blk_drewN ?_ _ | refine blk_drew ?_ | refine blk_alloc ?_ _)); exact BK980.out⟩, ⟨by (with_reducible repeat (first | refine blk_drewN ?_ _ | refine blk_drew ?_ | refine blk_alloc ?_ _)); exact BK986.out⟩, ⟨by (with_reducible repeat (first | refine blk_drewN ?_ _ | refine blk_drew ?_ | refine blk_alloc ?_ _)); exact BK992.out⟩, ⟨by repeat (first | (with_reducible first | exact HB.out | apply below_alloc | apply pw_below_drewN | apply below_drew1 | refine below_set ?_ GE980.out | refine below_set ?_ GE986.out | refine below_set ?_ GE992.out) | exact HB.out)⟩⟩
        · rw [if_neg c23] at H
          have c23b0 : (t981 == t976) = false := beq_eq_false_iff_ne.mpr c23
          have c23b1 : (t981 != t976) = true := bne_iff_ne.mpr c23
          have H' := Aside0.mk H
          clear H
          try go_wp2
          have n0_ : Aside0 (Kd.R (Kd.int .i64) 3 (((w17.setCell ⟨gb992, 0, none⟩ (.int .i64 t987)).setCell ⟨gb992, 1, none⟩ (.int .i64 t988)).setCell ⟨gb992, 2, none⟩ (.slice Ao21 t989.length co21)) w.heap.size (fun k_ => some k_ ≠ (.slice Ao15 t983.length co15 : Value).ownBlock ∧ some k_ ≠ (.slice Ao21 t989.length co21 : Value).ownBlock) (.slice Ao10 t977.length co10) t977) := ⟨by (with_reducible repeat (first | apply Kd.R_alloc | apply Kd.R_drewN | apply Kd.R_drew)); exact Kd.R_mono (Kd.R_far (p := ⟨gb992, 2, none⟩) (Kd.R_far (p := ⟨gb992, 1, none⟩) (Kd.R_far (p := ⟨gb992, 0, none⟩) (Kd.R_types HO979.out BK992.out (by decide)) (fun _ hk => hk.2) (.int .i64 t987)) (fun _ hk => hk.2) (.int .i64 t988)) (fun _ hk => hk.2) (.slice Ao21 t989.length co21)) (fun _ hk => ⟨hk.1.1.2, hk.1.2⟩)⟩
          have n1_ : Aside0 (Kd.R (Kd.int .i64) 3 (((w17.setCell ⟨gb992, 0, none⟩ (.int .i64 t987)).setCell ⟨gb992, 1, none⟩ (.int .i64 t988)).setCell ⟨gb992, 2, none⟩ (.slice Ao21 t989.length co21)) w.heap.size (fun k_ => some k_ ≠ (.slice Ao10 t977.length co10 : Value).ownBlock ∧ some k_ ≠ (.slice Ao21 t989.length co21 : Value).ownBlock) (.slice Ao15 t983.length co15) t983) := ⟨by (with_reducible repeat (first | apply Kd.R_alloc | apply Kd.R_drewN | apply Kd.R_drew)); exact Kd.R_mono (Kd.R_far (p := ⟨gb992, 2, none⟩) (Kd.R_far (p := ⟨gb992, 1, none⟩) (Kd.R_far (p := ⟨gb992, 0, none⟩) (Kd.R_types HO985.out BK992.out (by decide)) (fun _ hk => hk.2) (.int .i64 t987)) (fun _ hk => hk.2) (.int .i64 t988)) (fun _ hk => hk.2) (.slice Ao21 t989.length co21)) (fun _ hk => ⟨hk.1.1.2, hk.1.2⟩)⟩
          have n2_ : Aside0 (Kd.R (Kd.int .i64) 3 (((w17.setCell ⟨gb992, 0, none⟩ (.int .i64 t987)).setCell ⟨gb992, 1, none⟩ (.int .i64 t988)).setCell ⟨gb992, 2, none⟩ (.slice Ao21 t989.length co21)) w.heap.size (fun k_ => some k_ ≠ (.slice Ao10 t977.length co10 : Value).ownBlock ∧ some k_ ≠ (.slice Ao15 t983.length co15 : Value).ownBlock) (.slice Ao21 t989.length co21) t989) := ⟨by (with_reducible repeat (first | apply Kd.R_alloc | apply Kd.R_drewN | apply Kd.R_drew)); exact Kd.R_mono (Kd.R_far (p := ⟨gb992, 2, none⟩) (Kd.R_far (p := ⟨gb992, 1, none⟩) (Kd.R_far (p := ⟨gb992, 0, none⟩) (Kd.R_types HO991.out BK992.out (by decide)) (fun _ hk => hk.2) (.int .i64 t987)) (fun _ hk => hk.2) (.int .i64 t988)) (fun _ hk => hk.2) (.slice Ao21 t989.length co21)) (fun _ hk => ⟨hk.1.1.2, hk.1.2⟩)⟩
          have n3_ : Aside0 ((((w17.setCell ⟨gb992, 0, none⟩ (.int .i64 t987)).setCell ⟨gb992, 1, none⟩ (.int .i64 t988)).setCell ⟨gb992, 2, none⟩ (.slice Ao21 t989.length co21)).heap[gb980]? = some (.cells #[.int .i64 t975, .int .i64 t976, .slice Ao10 t977.length co10] 37 (0, 0))) := ⟨by (with_reducible repeat (first | refine blk_drewN ?_ _ | refine blk_drew ?_ | refine blk_alloc ?_ _)); refine blk_far ?_ NB980_992.out _; (with_reducible repeat (first | refine blk_drewN ?_ _ | refine blk_drew ?_ | refine blk_alloc ?_ _)); refine blk_far ?_ NB980_992.out _; (with_reducible repeat (first | refine blk_drewN ?_ _ | refine blk_drew ?_ | refine blk_alloc ?_ _)); refine blk_far ?_ NB980_992.out _; (with_reducible repeat (first | refine blk_drewN ?_ _ | refine blk_drew ?_ | refine blk_alloc ?_ _)); exact BK980.out⟩
          have n4_ : Aside0 ((((w17.setCell ⟨gb992, 0, none⟩ (.int .i64 t987)).setCell ⟨gb992, 1, none⟩ (.int .i64 t988)).setCell ⟨gb992, 2, none⟩ (.slice Ao21 t989.length co21)).heap[gb986]? = some (.cells #[.int .i64 t981, .int .i64 t982, .slice Ao15 t983.length co15] 37 (0, 0))) := ⟨by (with_reducible repeat (first | refine blk_drewN ?_ _ | refine blk_drew ?_ | refine blk_alloc ?_ _)); refine blk_far ?_ NB986_992.out _; (with_reducible repeat (first | refine blk_drewN ?_ _ | refine blk_drew ?_ | refine blk_alloc ?_ _)); refine blk_far ?_ NB986_992.out _; (with_reducible repeat (first | refine blk_drewN ?_ _ | refine blk_drew ?_ | refine blk_alloc ?_ _)); refine blk_far ?_ NB986_992.out _; (with_reducible repeat (first | refine blk_drewN ?_ _ | refine blk_drew ?_ | refine blk_alloc ?_ _)); exact BK986.out⟩
          have n5_ : Aside0 ((((w17.setCell ⟨gb992, 0, none⟩ (.int .i64 t987)).setCell ⟨gb992, 1, none⟩ (.int .i64 t988)).setCell ⟨gb992, 2, none⟩ (.slice Ao21 t989.length co21)).heap[gb992]? = some (.cells #[.int .i64 t987, .int .i64 t988, .slice Ao21 t989.length co21] 37 (0, 0))) := ⟨by (with_reducible repeat (first | refine blk_drewN ?_ _ | refine blk_drew ?_ | refine blk_alloc ?_ _)); refine blk_put (cs := #[.int .i64 t987, .int .i64 t988, .slice none 0 0]) ?_ 2 _ rfl; (with_reducible repeat (first | refine blk_drewN ?_ _ | refine blk_drew ?_ | refine blk_alloc ?_ _)); refine blk_put (cs := #[.int .i64 t987, .int .i64 0, .slice none 0 0]) ?_ 1 _ rfl; (with_reducible repeat (first | refine blk_drewN ?_ _ | refine blk_drew ?_ | refine blk_alloc ?_ _)); refine blk_put (cs := #[.int .i64 0, .int .i64 0, .slice none 0 0]) ?_ 0 _ rfl; (with_reducible repeat (first | refine blk_drewN ?_ _ | refine blk_drew ?_ | refine blk_alloc ?_ _)); exact BK992.out⟩
          have n6_ : Aside0 (Below w.heap.size w (((w17.setCell ⟨gb992, 0, none⟩ (.int .i64 t987)).setCell ⟨gb992, 1, none⟩ (.int .i64 t988)).setCell ⟨gb992, 2, none⟩ (.slice Ao21 t989.length co21))) := ⟨by repeat (first | (with_reducible first | exact HB.out | apply below_alloc | apply pw_below_drewN | apply below_drew1 | refine below_set ?_ GE980.out | refine below_set ?_ GE986.out | refine below_set ?_ GE992.out) | exact HB.out)⟩
          (try clear HO979)
          (try clear HO985)
          (try clear HO991)
          (try clear BK980)
          (try clear BK986)
          (try clear BK992)
          (try clear HB)
          generalize (((w17.setCell ⟨gb992, 0, none⟩ (.int .i64 t987)).setCell ⟨gb992, 1, none⟩ (.int .i64 t988)).setCell ⟨gb992, 2, none⟩ (.slice Ao21 t989.length co21)) = w34 at n0_ n1_ n2_ n3_ n4_ n5_ n6_ ⊢
          have HO979 := n0_
          have HO985 := n1_
          have HO991 := n2_
          have BK980 := n3_
          have BK986 := n4_
          have BK992 := n5_
          have HB := n6_
          clear n0_ n1_ n2_ n3_ n4_ n5_ n6_
          have n0_ := Aside0.mk (Kd.R_drew HO979.out)
          have n1_ := Aside0.mk (Kd.R_drew HO985.out)
          have n2_ := Aside0.mk (Kd.R_drew HO991.out)
          have n3_ := Aside0.mk (blk_drew BK980.out)
          have n4_ := Aside0.mk (blk_drew BK986.out)
          have n5_ := Aside0.mk (blk_drew BK992.out)
          have n6_ := Aside0.mk (below_drew1 HB.out)
          clear HO979
          clear HO985
          clear HO991
          clear BK980
          clear BK986
          clear BK992
          clear HB
          have HO979 := n0_
          have HO985 := n1_
          have HO991 := n2_
          have BK980 := n3_
          have BK986 := n4_
          have BK992 := n5_
          have HB := n6_
          clear n0_ n1_ n2_ n3_ n4_ n5_ n6_
          refine start_ (n := 22) (S := fun w' => w'.cell? ⟨gb986, 0, none⟩ = some (.int .i64 t981) ∧ w'.cell? ⟨gb986, 1, none⟩ = some (.int .i64 t982) ∧ w'.cell? ⟨gb986, 2, none⟩ = some (.slice Ao15 t983.length co15) ∧ w'.cell? ⟨gb980, 0, none⟩ = some (.int .i64 t975) ∧ w'.cell? ⟨gb980, 1, none⟩ = some (.int .i64 t976) ∧ w'.cell? ⟨gb980, 2, none⟩ = some (.slice Ao10 t977.length co10)) (ds := []) #[false, false, false, false, false, false, false, false, false, false, false, false, false, false, false, false, false, false, false, false, false, false] (by kernel_rfl) rfl rfl ⟨(blk_cell BK986.out 0).trans rfl, (blk_cell BK986.out 1).trans rfl, (blk_cell BK986.out 2).trans rfl, (blk_cell BK980.out 0).trans rfl, (blk_cell BK980.out 1).trans rfl, (blk_cell BK980.out 2).trans rfl⟩ (fun hHeld => ?_); refine with_tabW laws_FnTurned.tab6 laws_FnTurned.bits6 (fun HT_ HW_ => ?_)
          generalize w34.drew = w35 at HO979 HO985 HO991 BK980 BK986 BK992 HB hHeld ⊢
          refine pure_ (i := 0) (N := some 15) (v := ?_) (a' := ?_) #[true, false, false, false, false, false, false, false, false, false, false, false, false, false, false, false, false, false, false, false, false, false] rfl rfl (any_of HT_.out (by kernel_rfl)) (fun _ _ _ h => h) (Or.inl ⟨by rfl, ?_⟩) ?_ ?_
          rotate_left
          · intro w'
            go_simp
            with_reducible rfl
          rotate_left
          · simp only [Act.put, List.setIfInBounds_toArray, List.set_cons_zero, List.set_cons_succ, i64_w, i32_w]
            rfl
          refine pure_ (i := 3) (N := some 18) (v := ?_) (a' := ?_) #[true, false, false, true, false, false, false, false, false, false, false, false, false, false, false, false, false, false, false, false, false, false] rfl rfl (any_of HT_.out (by kernel_rfl)) (fun _ _ _ h => h) (Or.inl ⟨by rfl, ?_⟩) ?_ ?_
          rotate_left
          · intro w'
            go_simp
            with_reducible rfl
          rotate_left
          · simp only [Act.put, List.setIfInBounds_toArray, List.set_cons_zero, List.set_cons_succ, i64_w, i32_w]
            rfl
          refine take_ (i := 1) (N := some 16) (v := ?_) (a' := ?_) #[true, true, false, true, false, false, false, false, false, false, false, false, false, false, false, false, false, false, false, false, false, false] rfl rfl (take_ofW HT_.out HW_.out (by kernel_rfl)) (fun _ _ _ h => h) (Or.inl ⟨by rfl, ?_⟩) hHeld ?_ ?_
          rotate_left
          · rintro w' ⟨s0, s1, s2, s3, s4, s5⟩
            go_simp
            with_reducible rfl
          rotate_left
          · simp only [Act.put, List.setIfInBounds_toArray, List.set_cons_zero, List.set_cons_succ, i64_w, i32_w]
            rfl
          refine pure_ (i := 2) (N := some 17) (v := ?_) (a' := ?_) #[true, true, true, true, false, false, false, false, false, false, false, false, false, false, false, false, false, false, false, false, false, false] rfl rfl (any_of HT_.out (by kernel_rfl)) (fun _ _ _ h => h) (Or.inl ⟨by rfl, ?_⟩) ?_ ?_
          rotate_left
          · intro w'
            go_simp
            with_reducible rfl
          rotate_left
          · simp only [Act.put, List.setIfInBounds_toArray, List.set_cons_zero, List.set_cons_succ, i64_w, i32_w]
            rfl
          refine take_ (i := 4) (N := some 19) (v := ?_) (a' := ?_) #[true, true, true, true, true, false, false, false, false, false, false, false, false, false, false, false, false, false, false, false, false, false] rfl rfl (take_ofW HT_.out HW_.out (by kernel_rfl)) (fun _ _ _ h => h) (Or.inl ⟨by rfl, ?_⟩) hHeld ?_ ?_
          rotate_left
          · rintro w' ⟨s0, s1, s2, s3, s4, s5⟩
            go_simp
            with_reducible rfl
          rotate_left
          · simp only [Act.put, List.setIfInBounds_toArray, List.set_cons_zero, List.set_cons_succ, i64_w, i32_w]
            rfl
          refine pure_ (i := 5) (N := some 20) (v := ?_) (a' := ?_) #[true, true, true, true, true, true, false, false, false, false, false, false, false, false, false, false, false, false, false, false, false, false] rfl rfl (any_of HT_.out (by kernel_rfl)) (fun _ _ _ h => h) (Or.inl ⟨by rfl, ?_⟩) ?_ ?_
          rotate_left
          · intro w'
            go_simp
            with_reducible rfl
          rotate_left
          · simp only [Act.put, List.setIfInBounds_toArray, List.set_cons_zero, List.set_cons_succ, i64_w, i32_w]
            rfl
          refine pure_ (i := 6) (N := some 21) (v := ?_) (a' := ?_) #[true, true, true, true, true, true, true, false, false, false, false, false, false, false, false, false, false, false, false, false, false, false] rfl rfl (any_of HT_.out (by kernel_rfl)) (fun _ _ _ h => h) (Or.inl ⟨by rfl, ?_⟩) ?_ ?_
          rotate_left
          · intro w'
            go_simp
            with_reducible rfl
          rotate_left
          · simp only [Act.put, List.setIfInBounds_toArray, List.set_cons_zero, List.set_cons_succ, i64_w, i32_w]
            rfl
          refine pure_ (i := 7) (N := some 22) (v := ?_) (a' := ?_) #[true, true, true, true, true, true, true, true, false, false, false, false, false, false, false, false, false, false, false, false, false, false] rfl rfl (any_of HT_.out (by kernel_rfl)) (fun _ _ _ h => h) (Or.inl ⟨by rfl, ?_⟩) ?_ ?_
          rotate_left
          · intro w'
            go_simp
            with_reducible rfl
          rotate_left
          · simp only [Act.put, List.setIfInBounds_toArray, List.set_cons_zero, List.set_cons_succ, i64_w, i32_w]
            rfl
          refine pure_ (i := 8) (N := some 23) (v := ?_) (a' := ?_) #[true, true, true, true, true, true, true, true, true, false, false, false, false, false, false, false, false, false, false, false, false, false] rfl rfl (any_of HT_.out (by kernel_rfl)) (fun _ _ _ h => h) (Or.inl ⟨by rfl, ?_⟩) ?_ ?_
          rotate_left
          · intro w'
            go_simp
            with_reducible rfl
          rotate_left
          · simp only [Act.put, List.setIfInBounds_toArray, List.set_cons_zero, List.set_cons_succ, i64_w, i32_w]
            rfl
          refine pure_ (i := 10) (N := some 25) (v := ?_) (a' := ?_) #[true, true, true, true, true, true, true, true, true, false, true, false, false, false, false, false, false, false, false, false, false, false] rfl rfl (any_of HT_.out (by kernel_rfl)) (fun _ _ _ h => h) (Or.inl ⟨by rfl, ?_⟩) ?_ ?_
          rotate_left
          · intro w'
            go_simp
            with_reducible rfl
          rotate_left
          · simp only [Act.put, List.setIfInBounds_toArray, List.set_cons_zero, List.set_cons_succ, i64_w, i32_w]
            rfl
          refine take_ (i := 9) (N := some 24) (v := ?_) (a' := ?_) #[true, true, true, true, true, true, true, true, true, true, true, false, false, false, false, false, false, false, false, false, false, false] rfl rfl (take_ofW HT_.out HW_.out (by kernel_rfl)) (fun _ _ _ h => h) (Or.inl ⟨by rfl, ?_⟩) hHeld ?_ ?_
          rotate_left
          · rintro w' ⟨s0, s1, s2, s3, s4, s5⟩
            go_simp
            with_reducible rfl
          rotate_left
          · simp only [Act.put, List.setIfInBounds_toArray, List.set_cons_zero, List.set_cons_succ, i64_w, i32_w]
            rfl
          refine take_ (i := 11) (N := some 26) (v := ?_) (a' := ?_) #[true, true, true, true, true, true, true, true, true, true, true, true, false, false, false, false, false, false, false, false, false, false] rfl rfl (take_ofW HT_.out HW_.out (by kernel_rfl)) (fun _ _ _ h => h) (Or.inl ⟨by rfl, ?_⟩) hHeld ?_ ?_
          rotate_left
          · rintro w' ⟨s0, s1, s2, s3, s4, s5⟩
            go_simp
            with_reducible rfl
          rotate_left
          · simp only [Act.put, List.setIfInBounds_toArray, List.set_cons_zero, List.set_cons_succ, i64_w, i32_w]
            rfl
          refine pure_ (i := 12) (N := some 27) (v := ?_) (a' := ?_) #[true, true, true, true, true, true, true, true, true, true, true, true, true, false, false, false, false, false, false, false, false, false] rfl rfl (any_of HT_.out (by kernel_rfl)) (fun _ _ _ h => h) (Or.inl ⟨by rfl, ?_⟩) ?_ ?_
          rotate_left
          · intro w'
            go_simp
            with_reducible rfl
          rotate_left
          · simp only [Act.put, List.setIfInBounds_toArray, List.set_cons_zero, List.set_cons_succ, i64_w, i32_w]
            rfl
          refine pure_ (i := 13) (N := some 28) (v := ?_) (a' := ?_) #[true, true, true, true, true, true, true, true, true, true, true, true, true, true, false, false, false, false, false, false, false, false] rfl rfl (any_of HT_.out (by kernel_rfl)) (fun _ _ _ h => h) (Or.inl ⟨by rfl, ?_⟩) ?_ ?_
          rotate_left
          · intro w'
            go_simp
            with_reducible rfl
          rotate_left
          · simp only [Act.put, List.setIfInBounds_toArray, List.set_cons_zero, List.set_cons_succ, i64_w, i32_w]
            rfl
          refine pure_ (i := 14) (N := some 29) (v := ?_) (a' := ?_) #[true, true, true, true, true, true, true, true, true, true, true, true, true, true, true, false, false, false, false, false, false, false] rfl rfl (any_of HT_.out (by kernel_rfl)) (fun _ _ _ h => h) (Or.inl ⟨by rfl, ?_⟩) ?_ ?_
          rotate_left
          · intro w'
            go_simp
            with_reducible rfl
          rotate_left
          · simp only [Act.put, List.setIfInBounds_toArray, List.set_cons_zero, List.set_cons_succ, i64_w, i32_w]
            rfl
          refine pure_ (i := 15) (N := some 30) (v := undef) (a' := ?_) #[true, true, true, true, true, true, true, true, true, true, true, true, true, true, true, true, false, false, false, false, false, false] rfl rfl (any_of HT_.out (by kernel_rfl)) (fun _ _ _ h => h) (Or.inr ⟨by rfl, rfl⟩) ?_ ?_
          rotate_left
          · simp only [Act.put, List.setIfInBounds_toArray, List.set_cons_zero, List.set_cons_succ, i64_w, i32_w]
            rfl
          refine pure_ (i := 16) (N := some 31) (v := undef) (a' := ?_) #[true, true, true, true, true, true, true, true, true, true, true, true, true, true, true, true, true, false, false, false, false, false] rfl rfl (any_of HT_.out (by kernel_rfl)) (fun _ _ _ h => h) (Or.inr ⟨by rfl, rfl⟩) ?_ ?_
          rotate_left
          · simp only [Act.put, List.setIfInBounds_toArray, List.set_cons_zero, List.set_cons_succ, i64_w, i32_w]
            rfl
          refine pure_ (i := 17) (N := some 32) (v := undef) (a' := ?_) #[true, true, true, true, true, true, true, true, true, true, true, true, true, true, true, true, true, true, false, false, false, false] rfl rfl (any_of HT_.out (by kernel_rfl)) (fun _ _ _ h => h) (Or.inr ⟨by rfl, rfl⟩) ?_ ?_
          rotate_left
          · simp only [Act.put, List.setIfInBounds_toArray, List.set_cons_zero, List.set_cons_succ, i64_w, i32_w]
            rfl
          refine pure_ (i := 18) (N := some 33) (v := undef) (a' := ?_) #[true, true, true, true, true, true, true, true, true, true, true, true, true, true, true, true, true, true, true, false, false, false] rfl rfl (any_of HT_.out (by kernel_rfl)) (fun _ _ _ h => h) (Or.inr ⟨by rfl, rfl⟩) ?_ ?_
          rotate_left
          · simp only [Act.put, List.setIfInBounds_toArray, List.set_cons_zero, List.set_cons_succ, i64_w, i32_w]
            rfl
          refine pure_ (i := 19) (N := some 34) (v := undef) (a' := ?_) #[true, true, true, true, true, true, true, true, true, true, true, true, true, true, true, true, true, true, true, true, false, false] rfl rfl (any_of HT_.out (by kernel_rfl)) (fun _ _ _ h => h) (Or.inr ⟨by rfl, rfl⟩) ?_ ?_
          rotate_left
          · simp only [Act.put, List.setIfInBounds_toArray, List.set_cons_zero, List.set_cons_succ, i64_w, i32_w]
            rfl
          refine pure_ (i := 20) (N := some 35) (v := undef) (a' := ?_) #[true, true, true, true, true, true, true, true, true, true, true, true, true, true, true, true, true, true, true, true, true, false] rfl rfl (any_of HT_.out (by kernel_rfl)) (fun _ _ _ h => h) (Or.inr ⟨by rfl, rfl⟩) ?_ ?_
          rotate_left
          · simp only [Act.put, List.setIfInBounds_toArray, List.set_cons_zero, List.set_cons_succ, i64_w, i32_w]
            rfl
          refine pure_ (i := 21) (N := some 36) (v := ?_) (a' := ?_) #[true, true, true, true, true, true, true, true, true, true, true, true, true, true, true, true, true, true, true, true, true, true] rfl rfl (any_of HT_.out (by kernel_rfl)) (fun _ _ _ h => h) (Or.inl ⟨by rfl, ?_⟩) ?_ ?_
          rotate_left
          · intro w'
            go_simp
            with_reducible rfl
          rotate_left
          · simp only [Act.put, List.setIfInBounds_toArray, List.set_cons_zero, List.set_cons_succ, i64_w, i32_w]
            rfl
          refine done_ (done_of HT_.out (by kernel_rfl)) ?_
          try go_wp2
          go_meet
          case rel => exact ⟨_, (true), (by first | rfl | (simp; done) | (simp [*]; done)), H', ⟨by first | omega | exact Nat.le_refl _⟩, ⟨by (with_reducible repeat (first | apply Kd.R_alloc | apply Kd.R_drewN | apply Kd.R_drew)); exact HO979.out⟩, ⟨by (with_reducible repeat (first | apply Kd.R_alloc | apply Kd.R_drewN | apply Kd.R_drew)); exact HO985.out⟩, ⟨by (with_reducible repeat (first | apply Kd.R_alloc | apply Kd.R_drewN | apply Kd.R_drew)); exact HO991.out⟩, ⟨by (with_reducible repeat (first | refine blk_drewN ?_ _ | refine blk_drew ?_ | refine blk_alloc ?_ _)); exact BK980.out⟩, ⟨by (with_reducible repeat (first | refine blk_drewN ?_ _ | refine blk_drew ?_ | refine blk_alloc ?_ _)); exact BK986.out⟩, ⟨by (with_reducible repeat (first | refine blk_drewN ?_ _ | refine blk_drew ?_ | refine blk_alloc ?_ _)); exact BK992.out⟩, ⟨by repeat (first | (with_reducible first | exact HB.out | apply below_alloc | apply pw_below_drewN | apply below_drew1 | refine below_set ?_ GE980.out | refine below_set ?_ GE986.out | refine below_set ?_ GE992.out) | exact HB.out)⟩⟩
      · rw [if_neg c22] at H
        have c22b0 : ((t983.length : Int) == (t977.length : Int)) = false := beq_eq_false_iff_ne.mpr c22
        have c22b1 : ((t983.length : Int) != (t977.length : Int)) = true := bne_iff_ne.mpr c22
        have c22b2 : (t983.length == t977.length) = false := by first | simpa using c22 | (simp at c22 ⊢; omega)
        (first | rw [c22b0] | (simp only [i64_w, i32_w]; rw [c22b0]) | skip)
        have H' := Aside0.mk H
        clear H
        try go_wp2
        have n0_ : Aside0 (Kd.R (Kd.int .i64) 3 (((w17.setCell ⟨gb992, 0, none⟩ (.int .i64 t987)).setCell ⟨gb992, 1, none⟩ (.int .i64 t988)).setCell ⟨gb992, 2, none⟩ (.slice Ao21 t989.length co21)) w.heap.size (fun k_ => some k_ ≠ (.slice Ao15 t983.length co15 : Value).ownBlock ∧ some k_ ≠ (.slice Ao21 t989.length co21 : Value).ownBlock) (.slice Ao10 t977.length co10) t977) := ⟨by (with_reducible repeat (first | apply Kd.R_alloc | apply Kd.R_drewN | apply Kd.R_drew)); exact Kd.R_mono (Kd.R_far (p := ⟨gb992, 2, none⟩) (Kd.R_far (p := ⟨gb992, 1, none⟩) (Kd.R_far (p := ⟨gb992, 0, none⟩) (Kd.R_types HO979.out BK992.out (by decide)) (fun _ hk => hk.2) (.int .i64 t987)) (fun _ hk => hk.2) (.int .i64 t988)) (fun _ hk => hk.2) (.slice Ao21 t989.length co21)) (fun _ hk => ⟨hk.1.1.2, hk.1.2⟩)⟩
        have n1_ : Aside0 (Kd.R (Kd.int .i64) 3 (((w17.setCell ⟨gb992, 0, none⟩ (.int .i64 t987)).setCell ⟨gb992, 1, none⟩ (.int .i64 t988)).setCell ⟨gb992, 2, none⟩ (.slice Ao21 t989.length co21)) w.heap.size (fun k_ => some k_ ≠ (.slice Ao10 t977.length co10 : Value).ownBlock ∧ some k_ ≠ (.slice Ao21 t989.length co21 : Value).ownBlock) (.slice Ao15 t983.length co15) t983) := ⟨by (with_reducible repeat (first | apply Kd.R_alloc | apply Kd.R_drewN | apply Kd.R_drew)); exact Kd.R_mono (Kd.R_far (p := ⟨gb992, 2, none⟩) (Kd.R_far (p := ⟨gb992, 1, none⟩) (Kd.R_far (p := ⟨gb992, 0, none⟩) (Kd.R_types HO985.out BK992.out (by decide)) (fun _ hk => hk.2) (.int .i64 t987)) (fun _ hk => hk.2) (.int .i64 t988)) (fun _ hk => hk.2) (.slice Ao21 t989.length co21)) (fun _ hk => ⟨hk.1.1.2, hk.1.2⟩)⟩
        have n2_ : Aside0 (Kd.R (Kd.int .i64) 3 (((w17.setCell ⟨gb992, 0, none⟩ (.int .i64 t987)).setCell ⟨gb992, 1, none⟩ (.int .i64 t988)).setCell ⟨gb992, 2, none⟩ (.slice Ao21 t989.length co21)) w.heap.size (fun k_ => some k_ ≠ (.slice Ao10 t977.length co10 : Value).ownBlock ∧ some k_ ≠ (.slice Ao15 t983.length co15 : Value).ownBlock) (.slice Ao21 t989.length co21) t989) := ⟨by (with_reducible repeat (first | apply Kd.R_alloc | apply Kd.R_drewN | apply Kd.R_drew)); exact Kd.R_mono (Kd.R_far (p := ⟨gb992, 2, none⟩) (Kd.R_far (p := ⟨gb992, 1, none⟩) (Kd.R_far (p := ⟨gb992, 0, none⟩) (Kd.R_types HO991.out BK992.out (by decide)) (fun _ hk => hk.2) (.int .i64 t987)) (fun _ hk => hk.2) (.int .i64 t988)) (fun _ hk => hk.2) (.slice Ao21 t989.length co21)) (fun _ hk => ⟨hk.1.1.2, hk.1.2⟩)⟩
        have n3_ : Aside0 ((((w17.setCell ⟨gb992, 0, none⟩ (.int .i64 t987)).setCell ⟨gb992, 1, none⟩ (.int .i64 t988)).setCell ⟨gb992, 2, none⟩ (.slice Ao21 t989.length co21)).heap[gb980]? = some (.cells #[.int .i64 t975, .int .i64 t976, .slice Ao10 t977.length co10] 37 (0, 0))) := ⟨by (with_reducible repeat (first | refine blk_drewN ?_ _ | refine blk_drew ?_ | refine blk_alloc ?_ _)); refine blk_far ?_ NB980_992.out _; (with_reducible repeat (first | refine blk_drewN ?_ _ | refine blk_drew ?_ | refine blk_alloc ?_ _)); refine blk_far ?_ NB980_992.out _; (with_reducible repeat (first | refine blk_drewN ?_ _ | refine blk_drew ?_ | refine blk_alloc ?_ _)); refine blk_far ?_ NB980_992.out _; (with_reducible repeat (first | refine blk_drewN ?_ _ | refine blk_drew ?_ | refine blk_alloc ?_ _)); exact BK980.out⟩
        have n4_ : Aside0 ((((w17.setCell ⟨gb992, 0, none⟩ (.int .i64 t987)).setCell ⟨gb992, 1, none⟩ (.int .i64 t988)).setCell ⟨gb992, 2, none⟩ (.slice Ao21 t989.length co21)).heap[gb986]? = some (.cells #[.int .i64 t981, .int .i64 t982, .slice Ao15 t983.length co15] 37 (0, 0))) := ⟨by (with_reducible repeat (first | refine blk_drewN ?_ _ | refine blk_drew ?_ | refine blk_alloc ?_ _)); refine blk_far ?_ NB986_992.out _; (with_reducible repeat (first | refine blk_drewN ?_ _ | refine blk_drew ?_ | refine blk_alloc ?_ _)); refine blk_far ?_ NB986_992.out _; (with_reducible repeat (first | refine blk_drewN ?_ _ | refine blk_drew ?_ | refine blk_alloc ?_ _)); refine blk_far ?_ NB986_992.out _; (with_reducible repeat (first | refine blk_drewN ?_ _ | refine blk_drew ?_ | refine blk_alloc ?_ _)); exact BK986.out⟩
        have n5_ : Aside0 ((((w17.setCell ⟨gb992, 0, none⟩ (.int .i64 t987)).setCell ⟨gb992, 1, none⟩ (.int .i64 t988)).setCell ⟨gb992, 2, none⟩ (.slice Ao21 t989.length co21)).heap[gb992]? = some (.cells #[.int .i64 t987, .int .i64 t988, .slice Ao21 t989.length co21] 37 (0, 0))) := ⟨by (with_reducible repeat (first | refine blk_drewN ?_ _ | refine blk_drew ?_ | refine blk_alloc ?_ _)); refine blk_put (cs := #[.int .i64 t987, .int .i64 t988, .slice none 0 0]) ?_ 2 _ rfl; (with_reducible repeat (first | refine blk_drewN ?_ _ | refine blk_drew ?_ | refine blk_alloc ?_ _)); refine blk_put (cs := #[.int .i64 t987, .int .i64 0, .slice none 0 0]) ?_ 1 _ rfl; (with_reducible repeat (first | refine blk_drewN ?_ _ | refine blk_drew ?_ | refine blk_alloc ?_ _)); refine blk_put (cs := #[.int .i64 0, .int .i64 0, .slice none 0 0]) ?_ 0 _ rfl; (with_reducible repeat (first | refine blk_drewN ?_ _ | refine blk_drew ?_ | refine blk_alloc ?_ _)); exact BK992.out⟩
        have n6_ : Aside0 (Below w.heap.size w (((w17.setCell ⟨gb992, 0, none⟩ (.int .i64 t987)).setCell ⟨gb992, 1, none⟩ (.int .i64 t988)).setCell ⟨gb992, 2, none⟩ (.slice Ao21 t989.length co21))) := ⟨by repeat (first | (with_reducible first | exact HB.out | apply below_alloc | apply pw_below_drewN | apply below_drew1 | refine below_set ?_ GE980.out | refine below_set ?_ GE986.out | refine below_set ?_ GE992.out) | exact HB.out)⟩
        (try clear HO979)
        (try clear HO985)
        (try clear HO991)
        (try clear BK980)
        (try clear BK986)
        (try clear BK992)
        (try clear HB)
        generalize (((w17.setCell ⟨gb992, 0, none⟩ (.int .i64 t987)).setCell ⟨gb992, 1, none⟩ (.int .i64 t988)).setCell ⟨gb992, 2, none⟩ (.slice Ao21 t989.length co21)) = w36 at n0_ n1_ n2_ n3_ n4_ n5_ n6_ ⊢
        have HO979 := n0_
        have HO985 := n1_
        have HO991 := n2_
        have BK980 := n3_
        have BK986 := n4_
        have BK992 := n5_
        have HB := n6_
        clear n0_ n1_ n2_ n3_ n4_ n5_ n6_
        have n0_ := Aside0.mk (Kd.R_drew HO979.out)
        have n1_ := Aside0.mk (Kd.R_drew HO985.out)
        have n2_ := Aside0.mk (Kd.R_drew HO991.out)
        have n3_ := Aside0.mk (blk_drew BK980.out)
        have n4_ := Aside0.mk (blk_drew BK986.out)
        have n5_ := Aside0.mk (blk_drew BK992.out)
        have n6_ := Aside0.mk (below_drew1 HB.out)
        clear HO979
        clear HO985
        clear HO991
        clear BK980
        clear BK986
        clear BK992
        clear HB
        have HO979 := n0_
        have HO985 := n1_
        have HO991 := n2_
        have BK980 := n3_
        have BK986 := n4_
        have BK992 := n5_
        have HB := n6_
        clear n0_ n1_ n2_ n3_ n4_ n5_ n6_
        refine start_ (n := 22) (S := fun w' => w'.cell? ⟨gb986, 0, none⟩ = some (.int .i64 t981) ∧ w'.cell? ⟨gb986, 1, none⟩ = some (.int .i64 t982) ∧ w'.cell? ⟨gb986, 2, none⟩ = some (.slice Ao15 t983.length co15) ∧ w'.cell? ⟨gb980, 0, none⟩ = some (.int .i64 t975) ∧ w'.cell? ⟨gb980, 1, none⟩ = some (.int .i64 t976) ∧ w'.cell? ⟨gb980, 2, none⟩ = some (.slice Ao10 t977.length co10)) (ds := []) #[false, false, false, false, false, false, false, false, false, false, false, false, false, false, false, false, false, false, false, false, false, false] (by kernel_rfl) rfl rfl ⟨(blk_cell BK986.out 0).trans rfl, (blk_cell BK986.out 1).trans rfl, (blk_cell BK986.out 2).trans rfl, (blk_cell BK980.out 0).trans rfl, (blk_cell BK980.out 1).trans rfl, (blk_cell BK980.out 2).trans rfl⟩ (fun hHeld => ?_); refine with_tabW laws_FnTurned.tab6 laws_FnTurned.bits6 (fun HT_ HW_ => ?_)
        generalize w36.drew = w37 at HO979 HO985 HO991 BK980 BK986 BK992 HB hHeld ⊢
        refine pure_ (i := 0) (N := some 15) (v := ?_) (a' := ?_) #[true, false, false, false, false, false, false, false, false, false, false, false, false, false, false, false, false, false, false, false, false, false] rfl rfl (any_of HT_.out (by kernel_rfl)) (fun _ _ _ h => h) (Or.inl ⟨by rfl, ?_⟩) ?_ ?_
        rotate_left
        · intro w'
          go_simp
          with_reducible rfl
        rotate_left
        · simp only [Act.put, List.setIfInBounds_toArray, List.set_cons_zero, List.set_cons_succ, i64_w, i32_w]
          rfl
        refine pure_ (i := 3) (N := some 18) (v := ?_) (a' := ?_) #[true, false, false, true, false, false, false, false, false, false, false, false, false, false, false, false, false, false, false, false, false, false] rfl rfl (any_of HT_.out (by kernel_rfl)) (fun _ _ _ h => h) (Or.inl ⟨by rfl, ?_⟩) ?_ ?_
        rotate_left
        · intro w'
          go_simp
          with_reducible rfl
        rotate_left
        · simp only [Act.put, List.setIfInBounds_toArray, List.set_cons_zero, List.set_cons_succ, i64_w, i32_w]
          rfl
        refine take_ (i := 1) (N := some 16) (v := ?_) (a' := ?_) #[true, true, false, true, false, false, false, false, false, false, false, false, false, false, false, false, false, false, false, false, false, false] rfl rfl (take_ofW HT_.out HW_.out (by kernel_rfl)) (fun _ _ _ h => h) (Or.inl ⟨by rfl, ?_⟩) hHeld ?_ ?_
        rotate_left
        · rintro w' ⟨s0, s1, s2, s3, s4, s5⟩
          go_simp
          with_reducible rfl
        rotate_left
        · simp only [Act.put, List.setIfInBounds_toArray, List.set_cons_zero, List.set_cons_succ, i64_w, i32_w]
          rfl
        refine pure_ (i := 2) (N := some 17) (v := ?_) (a' := ?_) #[true, true, true, true, false, false, false, false, false, false, false, false, false, false, false, false, false, false, false, false, false, false] rfl rfl (any_of HT_.out (by kernel_rfl)) (fun _ _ _ h => h) (Or.inl ⟨by rfl, ?_⟩) ?_ ?_
        rotate_left
        · intro w'
          go_simp
          with_reducible rfl
        rotate_left
        · simp only [Act.put, List.setIfInBounds_toArray, List.set_cons_zero, List.set_cons_succ, i64_w, i32_w]
          rfl
        refine take_ (i := 4) (N := some 19) (v := ?_) (a' := ?_) #[true, true, true, true, true, false, false, false, false, false, false, false, false, false, false, false, false, false, false, false, false, false] rfl rfl (take_ofW HT_.out HW_.out (by kernel_rfl)) (fun _ _ _ h => h) (Or.inl ⟨by rfl, ?_⟩) hHeld ?_ ?_
        rotate_left
        · rintro w' ⟨s0, s1, s2, s3, s4, s5⟩
          go_simp
          with_reducible rfl
        rotate_left
        · simp only [Act.put, List.setIfInBounds_toArray, List.set_cons_zero, List.set_cons_succ, i64_w, i32_w]
          rfl
        refine pure_ (i := 5) (N := some 20) (v := ?_) (a' := ?_) #[true, true, true, true, true, true, false, false, false, false, false, false, false, false, false, false, false, false, false, false, false, false] rfl rfl (any_of HT_.out (by kernel_rfl)) (fun _ _ _ h => h) (Or.inl ⟨by rfl, ?_⟩) ?_ ?_
        rotate_left
        · intro w'
          go_simp
          with_reducible rfl
        rotate_left
        · simp only [Act.put, List.setIfInBounds_toArray, List.set_cons_zero, List.set_cons_succ, i64_w, i32_w]
          rfl
        refine pure_ (i := 6) (N := some 21) (v := ?_) (a' := ?_) #[true, true, true, true, true, true, true, false, false, false, false, false, false, false, false, false, false, false, false, false, false, false] rfl rfl (any_of HT_.out (by kernel_rfl)) (fun _ _ _ h => h) (Or.inl ⟨by rfl, ?_⟩) ?_ ?_
        rotate_left
        · intro w'
          go_simp
          with_reducible rfl
        rotate_left
        · simp only [Act.put, List.setIfInBounds_toArray, List.set_cons_zero, List.set_cons_succ, i64_w, i32_w]
          rfl
        refine pure_ (i := 7) (N := some 22) (v := ?_) (a' := ?_) #[true, true, true, true, true, true, true, true, false, false, false, false, false, false, false, false, false, false, false, false, false, false] rfl rfl (any_of HT_.out (by kernel_rfl)) (fun _ _ _ h => h) (Or.inl ⟨by rfl, ?_⟩) ?_ ?_
        rotate_left
        · intro w'
          go_simp
          with_reducible rfl
        rotate_left
        · simp only [Act.put, List.setIfInBounds_toArray, List.set_cons_zero, List.set_cons_succ, i64_w, i32_w]
          rfl
        refine pure_ (i := 8) (N := some 23) (v := undef) (a' := ?_) #[true, true, true, true, true, true, true, true, true, false, false, false, false, false, false, false, false, false, false, false, false, false] rfl rfl (any_of HT_.out (by kernel_rfl)) (fun _ _ _ h => h) (Or.inr ⟨by rfl, rfl⟩) ?_ ?_
        rotate_left
        · simp only [Act.put, List.setIfInBounds_toArray, List.set_cons_zero, List.set_cons_succ, i64_w, i32_w]
          rfl
        refine pure_ (i := 9) (N := some 24) (v := undef) (a' := ?_) #[true, true, true, true, true, true, true, true, true, true, false, false, false, false, false, false, false, false, false, false, false, false] rfl rfl (any_of HT_.out (by kernel_rfl)) (fun _ _ _ h => h) (Or.inr ⟨by rfl, rfl⟩) ?_ ?_
        rotate_left
        · simp only [Act.put, List.setIfInBounds_toArray, List.set_cons_zero, List.set_cons_succ, i64_w, i32_w]
          rfl
        refine pure_ (i := 10) (N := some 25) (v := undef) (a' := ?_) #[true, true, true, true, true, true, true, true, true, true, true, false, false, false, false, false, false, false, false, false, false, false] rfl rfl (any_of HT_.out (by kernel_rfl)) (fun _ _ _ h => h) (Or.inr ⟨by rfl, rfl⟩) ?_ ?_
        rotate_left
        · simp only [Act.put, List.setIfInBounds_toArray, List.set_cons_zero, List.set_cons_succ, i64_w, i32_w]
          rfl
        refine pure_ (i := 11) (N := some 26) (v := undef) (a' := ?_) #[true, true, true, true, true, true, true, true, true, true, true, true, false, false, false, false, false, false, false, false, false, false] rfl rfl (any_of HT_.out (by kernel_rfl)) (fun _ _ _ h => h) (Or.inr ⟨by rfl, rfl⟩) ?_ ?_
        rotate_left
        · simp only [Act.put, List.setIfInBounds_toArray, List.set_cons_zero, List.set_cons_succ, i64_w, i32_w]
          rfl
        refine pure_ (i := 12) (N := some 27) (v := undef) (a' := ?_) #[true, true, true, true, true, true, true, true, true, true, true, true, true, false, false, false, false, false, false, false, false, false] rfl rfl (any_of HT_.out (by kernel_rfl)) (fun _ _ _ h => h) (Or.inr ⟨by rfl, rfl⟩) ?_ ?_
        rotate_left
        · simp only [Act.put, List.setIfInBounds_toArray, List.set_cons_zero, List.set_cons_succ, i64_w, i32_w]
          rfl
        refine pure_ (i := 13) (N := some 28) (v := ?_) (a' := ?_) #[true, true, true, true, true, true, true, true, true, true, true, true, true, true, false, false, false, false, false, false, false, false] rfl rfl (any_of HT_.out (by kernel_rfl)) (fun _ _ _ h => h) (Or.inl ⟨by rfl, ?_⟩) ?_ ?_
        rotate_left
        · intro w'
          go_simp
          with_reducible rfl
        rotate_left
        · simp only [Act.put, List.setIfInBounds_toArray, List.set_cons_zero, List.set_cons_succ, i64_w, i32_w]
          rfl
        refine pure_ (i := 14) (N := some 29) (v := ?_) (a' := ?_) #[true, true, true, true, true, true, true, true, true, true, true, true, true, true, true, false, false, false, false, false, false, false] rfl rfl (any_of HT_.out (by kernel_rfl)) (fun _ _ _ h => h) (Or.inl ⟨by rfl, ?_⟩) ?_ ?_
        rotate_left
        · intro w'
          go_simp
          with_reducible rfl
        rotate_left
        · simp only [Act.put, List.setIfInBounds_toArray, List.set_cons_zero, List.set_cons_succ, i64_w, i32_w]
          rfl
        refine pure_ (i := 15) (N := some 30) (v := undef) (a' := ?_) #[true, true, true, true, true, true, true, true, true, true, true, true, true, true, true, true, false, false, false, false, false, false] rfl rfl (any_of HT_.out (by kernel_rfl)) (fun _ _ _ h => h) (Or.inr ⟨by rfl, rfl⟩) ?_ ?_
        rotate_left
        · simp only [Act.put, List.setIfInBounds_toArray, List.set_cons_zero, List.set_cons_succ, i64_w, i32_w]
          rfl
        refine pure_ (i := 16) (N := some 31) (v := undef) (a' := ?_) #[true, true, true, true, true, true, true, true, true, true, true, true, true, true, true, true, true, false, false, false, false, false] rfl rfl (any_of HT_.out (by kernel_rfl)) (fun _ _ _ h => h) (Or.inr ⟨by rfl, rfl⟩) ?_ ?_
        rotate_left
        · simp only [Act.put, List.setIfInBounds_toArray, List.set_cons_zero, List.set_cons_succ, i64_w, i32_w]
          rfl
        refine pure_ (i := 17) (N := some 32) (v := undef) (a' := ?_) #[true, true, true, true, true, true, true, true, true, true, true, true, true, true, true, true, true, true, false, false, false, false] rfl rfl (any_of HT_.out (by kernel_rfl)) (fun _ _ _ h => h) (Or.inr ⟨by rfl, rfl⟩) ?_ ?_
        rotate_left
        · simp only [Act.put, List.setIfInBounds_toArray, List.set_cons_zero, List.set_cons_succ, i64_w, i32_w]
          rfl
        refine pure_ (i := 18) (N := some 33) (v := undef) (a' := ?_) #[true, true, true, true, true, true, true, true, true, true, true, true, true, true, true, true, true, true, true, false, false, false] rfl rfl (any_of HT_.out (by kernel_rfl)) (fun _ _ _ h => h) (Or.inr ⟨by rfl, rfl⟩) ?_ ?_
        rotate_left
        · simp only [Act.put, List.setIfInBounds_toArray, List.set_cons_zero, List.set_cons_succ, i64_w, i32_w]
          rfl
        refine pure_ (i := 19) (N := some 34) (v := undef) (a' := ?_) #[true, true, true, true, true, true, true, true, true, true, true, true, true, true, true, true, true, true, true, true, false, false] rfl rfl (any_of HT_.out (by kernel_rfl)) (fun _ _ _ h => h) (Or.inr ⟨by rfl, rfl⟩) ?_ ?_
        rotate_left
        · simp only [Act.put, List.setIfInBounds_toArray, List.set_cons_zero, List.set_cons_succ, i64_w, i32_w]
          rfl
        refine pure_ (i := 20) (N := some 35) (v := undef) (a' := ?_) #[true, true, true, true, true, true, true, true, true, true, true, true, true, true, true, true, true, true, true, true, true, false] rfl rfl (any_of HT_.out (by kernel_rfl)) (fun _ _ _ h => h) (Or.inr ⟨by rfl, rfl⟩) ?_ ?_
        rotate_left
        · simp only [Act.put, List.setIfInBounds_toArray, List.set_cons_zero, List.set_cons_succ, i64_w, i32_w]
          rfl
        refine pure_ (i := 21) (N := some 36) (v := ?_) (a' := ?_) #[true, true, true, true, true, true, true, true, true, true, true, true, true, true, true, true, true, true, true, true, true, true] rfl rfl (any_of HT_.out (by kernel_rfl)) (fun _ _ _ h => h) (Or.inl ⟨by rfl, ?_⟩) ?_ ?_
        rotate_left
        · intro w'
          go_simp
          with_reducible rfl
        rotate_left
        · simp only [Act.put, List.setIfInBounds_toArray, List.set_cons_zero, List.set_cons_succ, i64_w, i32_w]
          rfl
        refine done_ (done_of HT_.out (by kernel_rfl)) ?_
        try go_wp2
        go_meet
        case rel => exact ⟨_, (true), (by first | rfl | (simp; done) | (simp [*]; done)), H', ⟨by first | omega | exact Nat.le_refl _⟩, ⟨by (with_reducible repeat (first | apply Kd.R_alloc | apply Kd.R_drewN | apply Kd.R_drew)); exact HO979.out⟩, ⟨by (with_reducible repeat (first | apply Kd.R_alloc | apply Kd.R_drewN | apply Kd.R_drew)); exact HO985.out⟩, ⟨by (with_reducible repeat (first | apply Kd.R_alloc | apply Kd.R_drewN | apply Kd.R_drew)); exact HO991.out⟩, ⟨by (with_reducible repeat (first | refine blk_drewN ?_ _ | refine blk_drew ?_ | refine blk_alloc ?_ _)); exact BK980.out⟩, ⟨by (with_reducible repeat (first | refine blk_drewN ?_ _ | refine blk_drew ?_ | refine blk_alloc ?_ _)); exact BK986.out⟩, ⟨by (with_reducible repeat (first | refine blk_drewN ?_ _ | refine blk_drew ?_ | refine blk_alloc ?_ _)); exact BK992.out⟩, ⟨by repeat (first | (with_reducible first | exact HB.out | apply below_alloc | apply pw_below_drewN | apply below_drew1 | refine below_set ?_ GE980.out | refine below_set ?_ GE986.out | refine below_set ?_ GE992.out) | exact HB.out)⟩⟩
    case rest =>
      clear HC6
      try clear c2
      try clear p2
      try clear c8
      try clear c22
      try clear c22b0
      try clear c22b1
      try clear c22b2
      try clear c23
      try clear c23b0
      try clear c23b1
      obtain ⟨kq, x36_5, rfl, HA, HJ5, HO_981002, HO_987002, HO_993002, BK980, BK986, BK992, HB⟩ := hcut
      cases kq with
      | zero => exact absurd HA.out (by simp [laws_FnTurned.j0])
      | succ kj5 =>
        have H := HA.out
        clear HA
        simp only [laws_FnTurned.j0] at H
        by_cases c38 : x36_5 = true
        · subst c38
          have H1 : (some false) = some r := by rw [if_pos rfl] at H; exact H
          clear H
          have H := H1
          clear H1
          exact absurd ((Option.some.inj H).trans hT.out) (by decide)
        · replace c38 := Bool.eq_false_iff.mpr c38
          subst c38
          have H1 : ((impl_MirrorPicture.f t975 t976 t977).bind fun bt1004 => ((impl_MirrorPicture.f bt1004.1 bt1004.2.1 bt1004.2.2).bind fun bt1009 => ((laws_same.f kj5 bt1009.1 bt1009.2.1 bt1009.2.2 t975 t976 t977).bind fun t1014 => (if t1014 = true then ((impl_MirrorPicture.f t981 t982 t983).bind fun bt1015 => ((impl_TurnPicture.f bt1015.1 bt1015.2.1 bt1015.2.2).bind fun bt1020 => ((impl_MirrorPicture.f t975 t976 t977).bind fun bt1025 => ((laws_same.f kj5 bt1020.1 bt1020.2.1 bt1020.2.2 bt1025.1 bt1025.2.1 bt1025.2.2).bind fun t1030 => (laws_FnTurned.j1 kj5 (!t1030) t975 t976 t977 t981 t982 t983 t987 t988 t989))))) else (laws_FnTurned.j1 kj5 true t975 t976 t977 t981 t982 t983 t987 t988 t989))))) = some r := by rw [if_neg (show ¬ (false = true) by decide)] at H; exact H
          clear H
          have H := H1
          clear H1
          have HC39 := Aside0.mk H
          clear H
          go_upto_region 8 with (fail)
          go_cut [51] (fun v51 wc => ∃ (kq : Nat) (x51_38 : Bool), v51 = .bool x51_38 ∧ Aside0 (laws_FnTurned.j1 kq x51_38 t975 t976 t977 t981 t982 t983 t987 t988 t989 = some r) ∧ Aside0 (kq ≤ kj5) ∧ Aside0 (Kd.R (Kd.int .i64) 3 wc w.heap.size (fun k_ => some k_ ≠ ((.slice Ao15 t983.length co15) : Value).ownBlock ∧ some k_ ≠ ((.slice Ao21 t989.length co21) : Value).ownBlock) (.slice Ao10 t977.length co10) t977) ∧ Aside0 (Kd.R (Kd.int .i64) 3 wc w.heap.size (fun k_ => some k_ ≠ ((.slice Ao10 t977.length co10) : Value).ownBlock ∧ some k_ ≠ ((.slice Ao21 t989.length co21) : Value).ownBlock) (.slice Ao15 t983.length co15) t983) ∧ Aside0 (Kd.R (Kd.int .i64) 3 wc w.heap.size (fun k_ => some k_ ≠ ((.slice Ao10 t977.length co10) : Value).ownBlock ∧ some k_ ≠ ((.slice Ao15 t983.length co15) : Value).ownBlock) (.slice Ao21 t989.length co21) t989) ∧ Aside0 (wc.heap[gb980]? = some (.cells #[.int .i64 t975, .int .i64 t976, (.slice Ao10 t977.length co10)] 37 (0, 0))) ∧ Aside0 (wc.heap[gb986]? = some (.cells #[.int .i64 t981, .int .i64 t982, (.slice Ao15 t983.length co15)] 37 (0, 0))) ∧ Aside0 (wc.heap[gb992]? = some (.cells #[.int .i64 t987, .int .i64 t988, (.slice Ao21 t989.length co21)] 37 (0, 0))) ∧ Aside0 (Below w.heap.size w wc))
          case first =>
            have H := HC39.out
            clear HC39
            replace H := Option.bind_eq_some_iff.mp H
            obtain ⟨⟨t1004, t1005, t1006⟩, A400, H⟩ := H
            replace H : ((impl_MirrorPicture.f t1004 t1005 t1006).bind fun bt1009 => ((laws_same.f kj5 bt1009.1 bt1009.2.1 bt1009.2.2 t975 t976 t977).bind fun t1014 => (if t1014 = true then ((impl_MirrorPicture.f t981 t982 t983).bind fun bt1015 => ((impl_TurnPicture.f bt1015.1 bt1015.2.1 bt1015.2.2).bind fun bt1020 => ((impl_MirrorPicture.f t975 t976 t977).bind fun bt1025 => ((laws_same.f kj5 bt1020.1 bt1020.2.1 bt1020.2.2 bt1025.1 bt1025.2.1 bt1025.2.2).bind fun t1030 => (laws_FnTurned.j1 kj5 (!t1030) t975 t976 t977 t981 t982 t983 t987 t988 t989))))) else (laws_FnTurned.j1 kj5 true t975 t976 t977 t981 t982 t983 t987 t988 t989)))) = some r := H
            have A40 := Aside0.mk A400
            clear A400
            replace H := Option.bind_eq_some_iff.mp H
            obtain ⟨⟨t1009, t1010, t1011⟩, A410, H⟩ := H
            replace H : ((laws_same.f kj5 t1009 t1010 t1011 t975 t976 t977).bind fun t1014 => (if t1014 = true then ((impl_MirrorPicture.f t981 t982 t983).bind fun bt1015 => ((impl_TurnPicture.f bt1015.1 bt1015.2.1 bt1015.2.2).bind fun bt1020 => ((impl_MirrorPicture.f t975 t976 t977).bind fun bt1025 => ((laws_same.f kj5 bt1020.1 bt1020.2.1 bt1020.2.2 bt1025.1 bt1025.2.1 bt1025.2.2).bind fun t1030 => (laws_FnTurned.j1 kj5 (!t1030) t975 t976 t977 t981 t982 t983 t987 t988 t989))))) else (laws_FnTurned.j1 kj5 true t975 t976 t977 t981 t982 t983 t987 t988 t989))) = some r := H
            have A41 := Aside0.mk A410
            clear A410
            replace H := Option.bind_eq_some_iff.mp H
            obtain ⟨t1014, A420, H⟩ := H
            replace H : (if t1014 = true then ((impl_MirrorPicture.f t981 t982 t983).bind fun bt1015 => ((impl_TurnPicture.f bt1015.1 bt1015.2.1 bt1015.2.2).bind fun bt1020 => ((impl_MirrorPicture.f t975 t976 t977).bind fun bt1025 => ((laws_same.f kj5 bt1020.1 bt1020.2.1 bt1020.2.2 bt1025.1 bt1025.2.1 bt1025.2.2).bind fun t1030 => (laws_FnTurned.j1 kj5 (!t1030) t975 t976 t977 t981 t982 t983 t987 t988 t989))))) else (laws_FnTurned.j1 kj5 true t975 t976 t977 t981 t982 t983 t987 t988 t989)) = some r := H
            have A42 := Aside0.mk A420
            clear A420
            by_cases c43 : t1014 = true
            · subst c43
              have H1 : ((impl_MirrorPicture.f t981 t982 t983).bind fun bt1015 => ((impl_TurnPicture.f bt1015.1 bt1015.2.1 bt1015.2.2).bind fun bt1020 => ((impl_MirrorPicture.f t975 t976 t977).bind fun bt1025 => ((laws_same.f kj5 bt1020.1 bt1020.2.1 bt1020.2.2 bt1025.1 bt1025.2.1 bt1025.2.2).bind fun t1030 => (laws_FnTurned.j1 kj5 (!t1030) t975 t976 t977 t981 t982 t983 t987 t988 t989))))) = some r := by rw [if_pos rfl] at H; exact H
              clear H
              have H := H1
              clear H1
              replace H := Option.bind_eq_some_iff.mp H
              obtain ⟨⟨t1015, t1016, t1017⟩, A440, H⟩ := H
              replace H : ((impl_TurnPicture.f t1015 t1016 t1017).bind fun bt1020 => ((impl_MirrorPicture.f t975 t976 t977).bind fun bt1025 => ((laws_same.f kj5 bt1020.1 bt1020.2.1 bt1020.2.2 bt1025.1 bt1025.2.1 bt1025.2.2).bind fun t1030 => (laws_FnTurned.j1 kj5 (!t1030) t975 t976 t977 t981 t982 t983 t987 t988 t989)))) = some r := H
              have A44 := Aside0.mk A440
              clear A440
              replace H := Option.bind_eq_some_iff.mp H
              obtain ⟨⟨t1020, t1021, t1022⟩, A450, H⟩ := H
              replace H : ((impl_MirrorPicture.f t975 t976 t977).bind fun bt1025 => ((laws_same.f kj5 t1020 t1021 t1022 bt1025.1 bt1025.2.1 bt1025.2.2).bind fun t1030 => (laws_FnTurned.j1 kj5 (!t1030) t975 t976 t977 t981 t982 t983 t987 t988 t989))) = some r := H
              have A45 := Aside0.mk A450
              clear A450
              replace H := Option.bind_eq_some_iff.mp H
              obtain ⟨⟨t1025, t1026, t1027⟩, A460, H⟩ := H
              replace H : ((laws_same.f kj5 t1020 t1021 t1022 t1025 t1026 t1027).bind fun t1030 => (laws_FnTurned.j1 kj5 (!t1030) t975 t976 t977 t981 t982 t983 t987 t988 t989)) = some r := H
              have A46 := Aside0.mk A460
              clear A460
              replace H := Option.bind_eq_some_iff.mp H
              obtain ⟨t1030, A470, H⟩ := H
              replace H : (laws_FnTurned.j1 kj5 (!t1030) t975 t976 t977 t981 t982 t983 t987 t988 t989) = some r := H
              have A47 := Aside0.mk A470
              clear A470
              have H' := Aside0.mk H
              clear H
              try go_wp2
              have n0_ := Aside0.mk (Kd.R_drew HO_981002.out)
              have n1_ := Aside0.mk (Kd.R_drew HO_987002.out)
              have n2_ := Aside0.mk (Kd.R_drew HO_993002.out)
              have n3_ := Aside0.mk (blk_drew BK980.out)
              have n4_ := Aside0.mk (blk_drew BK986.out)
              have n5_ := Aside0.mk (blk_drew BK992.out)
              have n6_ := Aside0.mk (below_drew1 HB.out)
              clear HO_981002
              clear HO_987002
              clear HO_993002
              clear BK980
              clear BK986
              clear BK992
              clear HB
              have HO_981002 := n0_
              have HO_987002 := n1_
              have HO_993002 := n2_
              have BK980 := n3_
              have BK986 := n4_
              have BK992 := n5_
              have HB := n6_
              clear n0_ n1_ n2_ n3_ n4_ n5_ n6_
              refine start_ (n := 15) (S := fun w' => w'.cell? ⟨gb980, 0, none⟩ = some (.int .i64 t975) ∧ w'.cell? ⟨gb980, 1, none⟩ = some (.int .i64 t976) ∧ w'.cell? ⟨gb980, 2, none⟩ = some (.slice Ao10 t977.length co10) ∧ w'.cell? ⟨gb986, 0, none⟩ = some (.int .i64 t981) ∧ w'.cell? ⟨gb986, 1, none⟩ = some (.int .i64 t982) ∧ w'.cell? ⟨gb986, 2, none⟩ = some (.slice Ao15 t983.length co15)) (ds := []) #[false, false, false, false, false, false, false, false, false, false, false, false, false, false, false] (by kernel_rfl) rfl rfl ⟨(blk_cell BK980.out 0).trans rfl, (blk_cell BK980.out 1).trans rfl, (blk_cell BK980.out 2).trans rfl, (blk_cell BK986.out 0).trans rfl, (blk_cell BK986.out 1).trans rfl, (blk_cell BK986.out 2).trans rfl⟩ (fun hHeld => ?_); refine with_tabW laws_FnTurned.tab8 laws_FnTurned.bits8 (fun HT_ HW_ => ?_)
              generalize wc.drew = w48 at HO_981002 HO_987002 HO_993002 BK980 BK986 BK992 HB hHeld ⊢
              refine take_ (i := 0) (N := some 37) (v := ?_) (a' := ?_) #[true, false, false, false, false, false, false, false, false, false, false, false, false, false, false] rfl rfl (take_ofW HT_.out HW_.out (by kernel_rfl)) (fun _ _ _ h => h) (Or.inl ⟨by rfl, ?_⟩) hHeld ?_ ?_
              rotate_left
              · rintro w' ⟨s0, s1, s2, s3, s4, s5⟩
                go_simp
                with_reducible rfl
              rotate_left
              · simp only [Act.put, List.setIfInBounds_toArray, List.set_cons_zero, List.set_cons_succ, i64_w, i32_w]
                rfl
              refine take_ (i := 3) (N := some 40) (v := ?_) (a' := ?_) #[true, false, false, true, false, false, false, false, false, false, false, false, false, false, false] rfl rfl (take_ofW HT_.out HW_.out (by kernel_rfl)) (fun _ _ _ h => h) (Or.inl ⟨by rfl, ?_⟩) hHeld ?_ ?_
              rotate_left
              · rintro w' ⟨s0, s1, s2, s3, s4, s5⟩
                go_simp
                with_reducible rfl
              rotate_left
              · simp only [Act.put, List.setIfInBounds_toArray, List.set_cons_zero, List.set_cons_succ, i64_w, i32_w]
                rfl
              refine one_ (i := 1) (N := some 38) #[true, true, false, true, false, false, false, false, false, false, false, false, false, false, false] rfl rfl (one_of HT_.out (by kernel_rfl)) (by decide) (fun K hK => ?_)
              refine goes_ Try.func88 (by kernel_rfl) rfl #[.agg #[.int .i64 t975, .int .i64 t976, .slice Ao10 t977.length co10]] (by rfl) rfl rfl (by (try simp only [List.map_toArray, List.map_cons, List.map_nil]); first | done | rfl | (simp only [List.length_drop, List.length_take]; rfl)) ?_
              with_reducible refine (impl_MirrorPicture.calls t975 t976 _ _ t977 t1004 t1005 t1006 _ ?side1 ?side2 A40.out).mono ?_
              (case side1 => repeat (first | exact (Kd.R_reads' HO_981002.out).2.2 | (with_reducible refine Kd.C_alloc ?_ _) | (with_reducible refine Kd.C_drewN ?_ _) | (with_reducible refine Kd.C_drew ?_)))
              (case side2 => exact (Kd.R_reads' HO_981002.out).2.1)
              rintro e w49 ⟨v1007, rfl, ho0, hb⟩
              refine ⟨_, rfl, ?_⟩
              have n0_ := Aside0.mk (Kd.R_elder' (by (with_reducible repeat (first | apply Kd.R_alloc | apply Kd.R_drewN | apply Kd.R_drew)); exact HO_981002.out) (Kd.R_base ho0) hb)
              have n1_ := Aside0.mk (Kd.R_elder' (by (with_reducible repeat (first | apply Kd.R_alloc | apply Kd.R_drewN | apply Kd.R_drew)); exact HO_987002.out) (Kd.R_base ho0) hb)
              have n2_ := Aside0.mk (Kd.R_elder' (by (with_reducible repeat (first | apply Kd.R_alloc | apply Kd.R_drewN | apply Kd.R_drew)); exact HO_993002.out) (Kd.R_base ho0) hb)
              have n3_ := Aside0.mk (Kd.R_lower (Kd.R_new' (Kd.R_new' (Kd.R_new' ho0 (Kd.R_lt (by (with_reducible repeat (first | apply Kd.R_alloc | apply Kd.R_drewN | apply Kd.R_drew)); exact HO_981002.out))) (Kd.R_lt (by (with_reducible repeat (first | apply Kd.R_alloc | apply Kd.R_drewN | apply Kd.R_drew)); exact HO_987002.out))) (Kd.R_lt (by (with_reducible repeat (first | apply Kd.R_alloc | apply Kd.R_drewN | apply Kd.R_drew)); exact HO_993002.out))) (below_size (by repeat (first | (with_reducible first | exact HB.out | apply below_alloc | apply pw_below_drewN | apply below_drew1 | refine below_set ?_ GE980.out | refine below_set ?_ GE986.out | refine below_set ?_ GE992.out) | exact HB.out))))
              have n4_ := Aside0.mk (blk_below (g := gb980) (o := .cells #[.int .i64 t975, .int .i64 t976, .slice Ao10 t977.length co10] 37 (0, 0)) (by (with_reducible repeat (first | refine blk_drewN ?_ _ | refine blk_drew ?_ | refine blk_alloc ?_ _)); exact BK980.out) hb)
              have n5_ := Aside0.mk (blk_below (g := gb986) (o := .cells #[.int .i64 t981, .int .i64 t982, .slice Ao15 t983.length co15] 37 (0, 0)) (by (with_reducible repeat (first | refine blk_drewN ?_ _ | refine blk_drew ?_ | refine blk_alloc ?_ _)); exact BK986.out) hb)
              have n6_ := Aside0.mk (blk_below (g := gb992) (o := .cells #[.int .i64 t987, .int .i64 t988, .slice Ao21 t989.length co21] 37 (0, 0)) (by (with_reducible repeat (first | refine blk_drewN ?_ _ | refine blk_drew ?_ | refine blk_alloc ?_ _)); exact BK992.out) hb)
              have n7_ := Aside0.mk (below_step (by repeat (first | (with_reducible first | exact HB.out | apply below_alloc | apply pw_below_drewN | apply below_drew1 | refine below_set ?_ GE980.out | refine below_set ?_ GE986.out | refine below_set ?_ GE992.out) | exact HB.out)) hb)
              clear HO_981002
              clear HO_987002
              clear HO_993002
              clear BK980
              clear BK986
              clear BK992
              clear HB
              have HO_981002 := n0_
              have HO_987002 := n1_
              have HO_993002 := n2_
              have HO1008 := n3_
              have BK980 := n4_
              have BK986 := n5_
              have BK992 := n6_
              have HB := n7_
              clear n0_ n1_ n2_ n3_ n4_ n5_ n6_ n7_
              (try clear hb)
              (try clear hb2)
              (try clear hk)
              (try clear hi)
              (try clear ho0)
              obtain ⟨Ao50, co50, eo50⟩ := Kd.R_slice HO1008.out
              (first | subst eo50 | (injection eo50 with f1_ f2_ f3_; have f4_ := f1_.symm; have f5_ := f3_.symm; clear f1_ f2_ f3_; subst f4_; subst f5_))
              refine hK.out _ _ ⟨(blk_cell BK980.out 0).trans rfl, (blk_cell BK980.out 1).trans rfl, (blk_cell BK980.out 2).trans rfl, (blk_cell BK986.out 0).trans rfl, (blk_cell BK986.out 1).trans rfl, (blk_cell BK986.out 2).trans rfl⟩ (fun hHeld => ?_)
              clear hK K
              refine norm_ (a' := ?_) ?_ ?_
              rotate_left
              · show Act.put _ (some 38) _ = _
                simp only [Act.put, List.setIfInBounds_toArray, List.set_cons_zero, List.set_cons_succ, i64_w, i32_w]
                rfl
              refine one_ (i := 2) (N := some 39) #[true, true, true, true, false, false, false, false, false, false, false, false, false, false, false] rfl rfl (one_of HT_.out (by kernel_rfl)) (by decide) (fun K hK => ?_)
              refine goes_ Try.func88 (by kernel_rfl) rfl #[.agg #[.int .i64 t1004, .int .i64 t1005, .slice Ao50 t1006.length co50]] (by rfl) rfl rfl (by (try simp only [List.map_toArray, List.map_cons, List.map_nil]); first | done | rfl | (simp only [List.length_drop, List.length_take]; rfl)) ?_
              with_reducible refine (impl_MirrorPicture.calls t1004 t1005 _ _ t1006 t1009 t1010 t1011 _ ?side1 ?side2 A41.out).mono ?_
              (case side1 => repeat (first | exact (Kd.R_reads' HO1008.out).2.2 | (with_reducible refine Kd.C_alloc ?_ _) | (with_reducible refine Kd.C_drewN ?_ _) | (with_reducible refine Kd.C_drew ?_)))
              (case side2 => exact (Kd.R_reads' HO1008.out).2.1)
              rintro e w51 ⟨v1012, rfl, ho0, hb⟩
              refine ⟨_, rfl, ?_⟩
              have n0_ := Aside0.mk (Kd.R_elder' (by (with_reducible repeat (first | apply Kd.R_alloc | apply Kd.R_drewN | apply Kd.R_drew)); exact HO_981002.out) (Kd.R_base ho0) hb)
              have n1_ := Aside0.mk (Kd.R_elder' (by (with_reducible repeat (first | apply Kd.R_alloc | apply Kd.R_drewN | apply Kd.R_drew)); exact HO_987002.out) (Kd.R_base ho0) hb)
              have n2_ := Aside0.mk (Kd.R_elder' (by (with_reducible repeat (first | apply Kd.R_alloc | apply Kd.R_drewN | apply Kd.R_drew)); exact HO_993002.out) (Kd.R_base ho0) hb)
              have n3_ := Aside0.mk (Kd.R_elder' (by (with_reducible repeat (first | apply Kd.R_alloc | apply Kd.R_drewN | apply Kd.R_drew)); exact HO1008.out) (Kd.R_base ho0) hb)
              have n4_ := Aside0.mk (Kd.R_lower (Kd.R_new' (Kd.R_new' (Kd.R_new' (Kd.R_new' ho0 (Kd.R_lt (by (with_reducible repeat (first | apply Kd.R_alloc | apply Kd.R_drewN | apply Kd.R_drew)); exact HO_981002.out))) (Kd.R_lt (by (with_reducible repeat (first | apply Kd.R_alloc | apply Kd.R_drewN | apply Kd.R_drew)); exact HO_987002.out))) (Kd.R_lt (by (with_reducible repeat (first | apply Kd.R_alloc | apply Kd.R_drewN | apply Kd.R_drew)); exact HO_993002.out))) (Kd.R_lt (by (with_reducible repeat (first | apply Kd.R_alloc | apply Kd.R_drewN | apply Kd.R_drew)); exact HO1008.out))) (below_size (by repeat (first | (with_reducible first | exact HB.out | apply below_alloc | apply pw_below_drewN | apply below_drew1 | refine below_set ?_ GE980.out | refine below_set ?_ GE986.out | refine below_set ?_ GE992.out) | exact HB.out))))
              have n5_ := Aside0.mk (blk_below (g := gb980) (o := .cells #[.int .i64 t975, .int .i64 t976, .slice Ao10 t977.length co10] 37 (0, 0)) (by (with_reducible repeat (first | refine blk_drewN ?_ _ | refine blk_drew ?_ | refine blk_alloc ?_ _)); exact BK980.out) hb)
              have n6_ := Aside0.mk (blk_below (g := gb986) (o := .cells #[.int .i64 t981, .int .i64 t982, .slice Ao15 t983.length co15] 37 (0, 0)) (by (with_reducible repeat (first | refine blk_drewN ?_ _ | refine blk_drew ?_ | refine blk_alloc ?_ _)); exact BK986.out) hb)
              have n7_ := Aside0.mk (blk_below (g := gb992) (o := .cells #[.int .i64 t987, .int .i64 t988, .slice Ao21 t989.length co21] 37 (0, 0)) (by (with_reducible repeat (first | refine blk_drewN ?_ _ | refine blk_drew ?_ | refine blk_alloc ?_ _)); exact BK992.out) hb)
              have n8_ := Aside0.mk (below_step (by repeat (first | (with_reducible first | exact HB.out | apply below_alloc | apply pw_below_drewN | apply below_drew1 | refine below_set ?_ GE980.out | refine below_set ?_ GE986.out | refine below_set ?_ GE992.out) | exact HB.out)) hb)
              clear HO_981002
              clear HO_987002
              clear HO_993002
              clear HO1008
              clear BK980
              clear BK986
              clear BK992
              clear HB
              have HO_981002 := n0_
              have HO_987002 := n1_
              have HO_993002 := n2_
              have HO1008 := n3_
              have HO1013 := n4_
              have BK980 := n5_
              have BK986 := n6_
              have BK992 := n7_
              have HB := n8_
              clear n0_ n1_ n2_ n3_ n4_ n5_ n6_ n7_ n8_
              (try clear hb)
              (try clear hb2)
              (try clear hk)
              (try clear hi)
              (try clear ho0)
              obtain ⟨Ao52, co52, eo52⟩ := Kd.R_slice HO1013.out
              (first | subst eo52 | (injection eo52 with f1_ f2_ f3_; have f4_ := f1_.symm; have f5_ := f3_.symm; clear f1_ f2_ f3_; subst f4_; subst f5_))
              refine hK.out _ _ ⟨(blk_cell BK980.out 0).trans rfl, (blk_cell BK980.out 1).trans rfl, (blk_cell BK980.out 2).trans rfl, (blk_cell BK986.out 0).trans rfl, (blk_cell BK986.out 1).trans rfl, (blk_cell BK986.out 2).trans rfl⟩ (fun hHeld => ?_)
              clear hK K
              refine norm_ (a' := ?_) ?_ ?_
              rotate_left
              · show Act.put _ (some 39) _ = _
                simp only [Act.put, List.setIfInBounds_toArray, List.set_cons_zero, List.set_cons_succ, i64_w, i32_w]
                rfl
              refine one_ (i := 4) (N := some 41) #[true, true, true, true, true, false, false, false, false, false, false, false, false, false, false] rfl rfl (one_of HT_.out (by kernel_rfl)) (by decide) (fun K hK => ?_)
              refine goes_ Try.func85 (by kernel_rfl) rfl #[.agg #[.int .i64 t1009, .int .i64 t1010, .slice Ao52 t1011.length co52], .agg #[.int .i64 t975, .int .i64 t976, .slice Ao10 t977.length co10]] (by rfl) rfl rfl (by (try simp only [List.map_toArray, List.map_cons, List.map_nil]); first | done | rfl | (simp only [List.length_drop, List.length_take]; rfl)) ?_
              with_reducible refine (laws_same.calls kj5 t1009 t1010 _ _ t1011 t975 t976 _ _ t977 true _ ?side1 ?side2 ?side3 ?side4 A42.out).mono ?_
              (case side1 => repeat (first | exact (Kd.R_reads' HO1013.out).2.2 | (with_reducible refine Kd.C_alloc ?_ _) | (with_reducible refine Kd.C_drewN ?_ _) | (with_reducible refine Kd.C_drew ?_)))
              (case side2 => exact (Kd.R_reads' HO1013.out).2.1)
              (case side3 => repeat (first | exact (Kd.R_reads' HO_981002.out).2.2 | (with_reducible refine Kd.C_alloc ?_ _) | (with_reducible refine Kd.C_drewN ?_ _) | (with_reducible refine Kd.C_drew ?_)))
              (case side4 => exact (Kd.R_reads' HO_981002.out).2.1)
              rintro e w53 ⟨rfl, hb⟩
              refine ⟨_, rfl, ?_⟩
              have n0_ := Aside0.mk (Kd.R_below (by (with_reducible repeat (first | apply Kd.R_alloc | apply Kd.R_drewN | apply Kd.R_drew)); exact HO_981002.out) hb)
              have n1_ := Aside0.mk (Kd.R_below (by (with_reducible repeat (first | apply Kd.R_alloc | apply Kd.R_drewN | apply Kd.R_drew)); exact HO_987002.out) hb)
              have n2_ := Aside0.mk (Kd.R_below (by (with_reducible repeat (first | apply Kd.R_alloc | apply Kd.R_drewN | apply Kd.R_drew)); exact HO_993002.out) hb)
              have n3_ := Aside0.mk (Kd.R_below (by (with_reducible repeat (first | apply Kd.R_alloc | apply Kd.R_drewN | apply Kd.R_drew)); exact HO1008.out) hb)
              have n4_ := Aside0.mk (Kd.R_below (by (with_reducible repeat (first | apply Kd.R_alloc | apply Kd.R_drewN | apply Kd.R_drew)); exact HO1013.out) hb)
              have n5_ := Aside0.mk (blk_below (g := gb980) (o := .cells #[.int .i64 t975, .int .i64 t976, .slice Ao10 t977.length co10] 37 (0, 0)) (by (with_reducible repeat (first | refine blk_drewN ?_ _ | refine blk_drew ?_ | refine blk_alloc ?_ _)); exact BK980.out) hb)
              have n6_ := Aside0.mk (blk_below (g := gb986) (o := .cells #[.int .i64 t981, .int .i64 t982, .slice Ao15 t983.length co15] 37 (0, 0)) (by (with_reducible repeat (first | refine blk_drewN ?_ _ | refine blk_drew ?_ | refine blk_alloc ?_ _)); exact BK986.out) hb)
              have n7_ := Aside0.mk (blk_below (g := gb992) (o := .cells #[.int .i64 t987, .int .i64 t988, .slice Ao21 t989.length co21] 37 (0, 0)) (by (with_reducible repeat (first | refine blk_drewN ?_ _ | refine blk_drew ?_ | refine blk_alloc ?_ _)); exact BK992.out) hb)
              have n8_ := Aside0.mk (below_step (by repeat (first | (with_reducible first | exact HB.out | apply below_alloc | apply pw_below_drewN | apply below_drew1 | refine below_set ?_ GE980.out | refine below_set ?_ GE986.out | refine below_set ?_ GE992.out) | exact HB.out)) hb)
              clear HO_981002
              clear HO_987002
              clear HO_993002
              clear HO1008
              clear HO1013
              clear BK980
              clear BK986
              clear BK992
              clear HB
              have HO_981002 := n0_
              have HO_987002 := n1_
              have HO_993002 := n2_
              have HO1008 := n3_
              have HO1013 := n4_
              have BK980 := n5_
              have BK986 := n6_
              have BK992 := n7_
              have HB := n8_
              clear n0_ n1_ n2_ n3_ n4_ n5_ n6_ n7_ n8_
              (try clear hb)
              (try clear hb2)
              (try clear hk)
              (try clear hi)
              refine hK.out _ _ ⟨(blk_cell BK980.out 0).trans rfl, (blk_cell BK980.out 1).trans rfl, (blk_cell BK980.out 2).trans rfl, (blk_cell BK986.out 0).trans rfl, (blk_cell BK986.out 1).trans rfl, (blk_cell BK986.out 2).trans rfl⟩ (fun hHeld => ?_)
              clear hK K
              refine norm_ (a' := ?_) ?_ ?_
              rotate_left
              · show Act.put _ (some 41) _ = _
                simp only [Act.put, List.setIfInBounds_toArray, List.set_cons_zero, List.set_cons_succ, i64_w, i32_w]
                rfl
              refine pure_ (i := 5) (N := some 42) (v := ?_) (a' := ?_) #[true, true, true, true, true, true, false, false, false, false, false, false, false, false, false] rfl rfl (any_of HT_.out (by kernel_rfl)) (fun _ _ _ h => h) (Or.inl ⟨by rfl, ?_⟩) ?_ ?_
              rotate_left
              · intro w'
                go_simp
                with_reducible rfl
              rotate_left
              · simp only [Act.put, List.setIfInBounds_toArray, List.set_cons_zero, List.set_cons_succ, i64_w, i32_w]
                rfl
              refine pure_ (i := 6) (N := some 43) (v := ?_) (a' := ?_) #[true, true, true, true, true, true, true, false, false, false, false, false, false, false, false] rfl rfl (any_of HT_.out (by kernel_rfl)) (fun _ _ _ h => h) (Or.inl ⟨by rfl, ?_⟩) ?_ ?_
              rotate_left
              · intro w'
                go_simp
                with_reducible rfl
              rotate_left
              · simp only [Act.put, List.setIfInBounds_toArray, List.set_cons_zero, List.set_cons_succ, i64_w, i32_w]
                rfl
              refine take_ (i := 7) (N := some 44) (v := ?_) (a' := ?_) #[true, true, true, true, true, true, true, true, false, false, false, false, false, false, false] rfl rfl (take_ofW HT_.out HW_.out (by kernel_rfl)) (fun _ _ _ h => h) (Or.inl ⟨by rfl, ?_⟩) hHeld ?_ ?_
              rotate_left
              · rintro w' ⟨s0, s1, s2, s3, s4, s5⟩
                go_simp
                with_reducible rfl
              rotate_left
              · simp only [Act.put, List.setIfInBounds_toArray, List.set_cons_zero, List.set_cons_succ, i64_w, i32_w]
                rfl
              refine take_ (i := 10) (N := some 47) (v := ?_) (a' := ?_) #[true, true, true, true, true, true, true, true, false, false, true, false, false, false, false] rfl rfl (take_ofW HT_.out HW_.out (by kernel_rfl)) (fun _ _ _ h => h) (Or.inl ⟨by rfl, ?_⟩) hHeld ?_ ?_
              rotate_left
              · rintro w' ⟨s0, s1, s2, s3, s4, s5⟩
                go_simp
                with_reducible rfl
              rotate_left
              · simp only [Act.put, List.setIfInBounds_toArray, List.set_cons_zero, List.set_cons_succ, i64_w, i32_w]
                rfl
              refine one_ (i := 8) (N := some 45) #[true, true, true, true, true, true, true, true, true, false, true, false, false, false, false] rfl rfl (one_of HT_.out (by kernel_rfl)) (by decide) (fun K hK => ?_)
              refine goes_ Try.func88 (by kernel_rfl) rfl #[.agg #[.int .i64 t981, .int .i64 t982, .slice Ao15 t983.length co15]] (by rfl) rfl rfl (by (try simp only [List.map_toArray, List.map_cons, List.map_nil]); first | done | rfl | (simp only [List.length_drop, List.length_take]; rfl)) ?_
              with_reducible refine (impl_MirrorPicture.calls t981 t982 _ _ t983 t1015 t1016 t1017 _ ?side1 ?side2 A44.out).mono ?_
              (case side1 => repeat (first | exact (Kd.R_reads' HO_987002.out).2.2 | (with_reducible refine Kd.C_alloc ?_ _) | (with_reducible refine Kd.C_drewN ?_ _) | (with_reducible refine Kd.C_drew ?_)))
              (case side2 => exact (Kd.R_reads' HO_987002.out).2.1)
              rintro e w54 ⟨v1018, rfl, ho0, hb⟩
              refine ⟨_, rfl, ?_⟩
              have n0_ := Aside0.mk (Kd.R_elder' (by (with_reducible repeat (first | apply Kd.R_alloc | apply Kd.R_drewN | apply Kd.R_drew)); exact HO_981002.out) (Kd.R_base ho0) hb)
              have n1_ := Aside0.mk (Kd.R_elder' (by (with_reducible repeat (first | apply Kd.R_alloc | apply Kd.R_drewN | apply Kd.R_drew)); exact HO_987002.out) (Kd.R_base ho0) hb)
              have n2_ := Aside0.mk (Kd.R_elder' (by (with_reducible repeat (first | apply Kd.R_alloc | apply Kd.R_drewN | apply Kd.R_drew)); exact HO_993002.out) (Kd.R_base ho0) hb)
              have n3_ := Aside0.mk (Kd.R_elder' (by (with_reducible repeat (first | apply Kd.R_alloc | apply Kd.R_drewN | apply Kd.R_drew)); exact HO1008.out) (Kd.R_base ho0) hb)
              have n4_ := Aside0.mk (Kd.R_elder' (by (with_reducible repeat (first | apply Kd.R_alloc | apply Kd.R_drewN | apply Kd.R_drew)); exact HO1013.out) (Kd.R_base ho0) hb)
              have n5_ := Aside0.mk (Kd.R_lower (Kd.R_new' (Kd.R_new' (Kd.R_new' (Kd.R_new' (Kd.R_new' ho0 (Kd.R_lt (by (with_reducible repeat (first | apply Kd.R_alloc | apply Kd.R_drewN | apply Kd.R_drew)); exact HO_981002.out))) (Kd.R_lt (by (with_reducible repeat (first | apply Kd.R_alloc | apply Kd.R_drewN | apply Kd.R_drew)); exact HO_987002.out))) (Kd.R_lt (by (with_reducible repeat (first | apply Kd.R_alloc | apply Kd.R_drewN | apply Kd.R_drew)); exact HO_993002.out))) (Kd.R_lt (by (with_reducible repeat (first | apply Kd.R_alloc | apply Kd.R_drewN | apply Kd.R_drew)); exact HO1008.out))) (Kd.R_lt (by (with_reducible repeat (first | apply Kd.R_alloc | apply Kd.R_drewN | apply Kd.R_drew)); exact HO1013.out))) (below_size (by repeat (first | (with_reducible first | exact HB.out | apply below_alloc | apply pw_below_drewN | apply below_drew1 | refine below_set ?_ GE980.out | refine below_set ?_ GE986.out | refine below_set ?_ GE992.out) | exact HB.out))))
              have n6_ := Aside0.mk (blk_below (g := gb980) (o := .cells #[.int .i64 t975, .int .i64 t976, .slice Ao10 t977.length co10] 37 (0, 0)) (by (with_reducible repeat (first | refine blk_drewN ?_ _ | refine blk_drew ?_ | refine blk_alloc ?_ _)); exact BK980.out) hb)
              have n7_ := Aside0.mk (blk_below (g := gb986) (o := .cells #[.int .i64 t981, .int .i64 t982, .slice Ao15 t983.length co15] 37 (0, 0)) (by (with_reducible repeat (first | refine blk_drewN ?_ _ | refine blk_drew ?_ | refine blk_alloc ?_ _)); exact BK986.out) hb)
              have n8_ := Aside0.mk (blk_below (g := gb992) (o := .cells #[.int .i64 t987, .int .i64 t988, .slice Ao21 t989.length co21] 37 (0, 0)) (by (with_reducible repeat (first | refine blk_drewN ?_ _ | refine blk_drew ?_ | refine blk_alloc ?_ _)); exact BK992.out) hb)
              have n9_ := Aside0.mk (below_step (by repeat (first | (with_reducible first | exact HB.out | apply below_alloc | apply pw_below_drewN | apply below_drew1 | refine below_set ?_ GE980.out | refine below_set ?_ GE986.out | refine below_set ?_ GE992.out) | exact HB.out)) hb)
              clear HO_981002
              clear HO_987002
              clear HO_993002
              clear HO1008
              clear HO1013
              clear BK980
              clear BK986
              clear BK992
              clear HB
              have HO_981002 := n0_
              have HO_987002 := n1_
              have HO_993002 := n2_
              have HO1008 := n3_
              have HO1013 := n4_
              have HO1019 := n5_
              have BK980 := n6_
              have BK986 := n7_
              have BK992 := n8_
              have HB := n9_
              clear n0_ n1_ n2_ n3_ n4_ n5_ n6_ n7_ n8_ n9_
              (try clear hb)
              (try clear hb2)
              (try clear hk)
              (try clear hi)
              (try clear ho0)
              obtain ⟨Ao55, co55, eo55⟩ := Kd.R_slice HO1019.out
              (first | subst eo55 | (injection eo55 with f1_ f2_ f3_; have f4_ := f1_.symm; have f5_ := f3_.symm; clear f1_ f2_ f3_; subst f4_; subst f5_))
              refine hK.out _ _ ⟨(blk_cell BK980.out 0).trans rfl, (blk_cell BK980.out 1).trans rfl, (blk_cell BK980.out 2).trans rfl, (blk_cell BK986.out 0).trans rfl, (blk_cell BK986.out 1).trans rfl, (blk_cell BK986.out 2).trans rfl⟩ (fun hHeld => ?_)
              clear hK K
              refine norm_ (a' := ?_) ?_ ?_
              rotate_left
              · show Act.put _ (some 45) _ = _
                simp only [Act.put, List.setIfInBounds_toArray, List.set_cons_zero, List.set_cons_succ, i64_w, i32_w]
                rfl
              refine one_ (i := 9) (N := some 46) #[true, true, true, true, true, true, true, true, true, true, true, false, false, false, false] rfl rfl (one_of HT_.out (by kernel_rfl)) (by decide) (fun K hK => ?_)
              refine goes_ Try.func87 (by kernel_rfl) rfl #[.agg #[.int .i64 t1015, .int .i64 t1016, .slice Ao55 t1017.length co55]] (by rfl) rfl rfl (by (try simp only [List.map_toArray, List.map_cons, List.map_nil]); first | done | rfl | (simp only [List.length_drop, List.length_take]; rfl)) ?_
              with_reducible refine (impl_TurnPicture.calls t1015 t1016 _ _ t1017 t1020 t1021 t1022 _ ?side1 ?side2 A45.out).mono ?_
              (case side1 => repeat (first | exact (Kd.R_reads' HO1019.out).2.2 | (with_reducible refine Kd.C_alloc ?_ _) | (with_reducible refine Kd.C_drewN ?_ _) | (with_reducible refine Kd.C_drew ?_)))
              (case side2 => exact (Kd.R_reads' HO1019.out).2.1)
              rintro e w56 ⟨v1023, rfl, ho0, hb⟩
              refine ⟨_, rfl, ?_⟩
              have n0_ := Aside0.mk (Kd.R_elder' (by (with_reducible repeat (first | apply Kd.R_alloc | apply Kd.R_drewN | apply Kd.R_drew)); exact HO_981002.out) (Kd.R_base ho0) hb)
              have n1_ := Aside0.mk (Kd.R_elder' (by (with_reducible repeat (first | apply Kd.R_alloc | apply Kd.R_drewN | apply Kd.R_drew)); exact HO_987002.out) (Kd.R_base ho0) hb)
              have n2_ := Aside0.mk (Kd.R_elder' (by (with_reducible repeat (first | apply Kd.R_alloc | apply Kd.R_drewN | apply Kd.R_drew)); exact HO_993002.out) (Kd.R_base ho0) hb)
              have n3_ := Aside0.mk (Kd.R_elder' (by (with_reducible repeat (first | apply Kd.R_alloc | apply Kd.R_drewN | apply Kd.R_drew)); exact HO1008.out) (Kd.R_base ho0) hb)
              have n4_ := Aside0.mk (Kd.R_elder' (by (with_reducible repeat (first | apply Kd.R_alloc | apply Kd.R_drewN | apply Kd.R_drew)); exact HO1013.out) (Kd.R_base ho0) hb)
              have n5_ := Aside0.mk (Kd.R_elder' (by (with_reducible repeat (first | apply Kd.R_alloc | apply Kd.R_drewN | apply Kd.R_drew)); exact HO1019.out) (Kd.R_base ho0) hb)
              have n6_ := Aside0.mk (Kd.R_lower (Kd.R_new' (Kd.R_new' (Kd.R_new' (Kd.R_new' (Kd.R_new' (Kd.R_new' ho0 (Kd.R_lt (by (with_reducible repeat (first | apply Kd.R_alloc | apply Kd.R_drewN | apply Kd.R_drew)); exact HO_981002.out))) (Kd.R_lt (by (with_reducible repeat (first | apply Kd.R_alloc | apply Kd.R_drewN | apply Kd.R_drew)); exact HO_987002.out))) (Kd.R_lt (by (with_reducible repeat (first | apply Kd.R_alloc | apply Kd.R_drewN | apply Kd.R_drew)); exact HO_993002.out))) (Kd.R_lt (by (with_reducible repeat (first | apply Kd.R_alloc | apply Kd.R_drewN | apply Kd.R_drew)); exact HO1008.out))) (Kd.R_lt (by (with_reducible repeat (first | apply Kd.R_alloc | apply Kd.R_drewN | apply Kd.R_drew)); exact HO1013.out))) (Kd.R_lt (by (with_reducible repeat (first | apply Kd.R_alloc | apply Kd.R_drewN | apply Kd.R_drew)); exact HO1019.out))) (below_size (by repeat (first | (with_reducible first | exact HB.out | apply below_alloc | apply pw_below_drewN | apply below_drew1 | refine below_set ?_ GE980.out | refine below_set ?_ GE986.out | refine below_set ?_ GE992.out) | exact HB.out))))
              have n7_ := Aside0.mk (blk_below (g := gb980) (o := .cells #[.int .i64 t975, .int .i64 t976, .slice Ao10 t977.length co10] 37 (0, 0)) (by (with_reducible repeat (first | refine blk_drewN ?_ _ | refine blk_drew ?_ | refine blk_alloc ?_ _)); exact BK980.out) hb)
              have n8_ := Aside0.mk (blk_below (g := gb986) (o := .cells #[.int .i64 t981, .int .i64 t982, .slice Ao15 t983.length co15] 37 (0, 0)) (by (with_reducible repeat (first | refine blk_drewN ?_ _ | refine blk_drew ?_ | refine blk_alloc ?_ _)); exact BK986.out) hb)
              have n9_ := Aside0.mk (blk_below (g := gb992) (o := .cells #[.int .i64 t987, .int .i64 t988, .slice Ao21 t989.length co21] 37 (0, 0)) (by (with_reducible repeat (first | refine blk_drewN ?_ _ | refine blk_drew ?_ | refine blk_alloc ?_ _)); exact BK992.out) hb)
              have n10_ := Aside0.mk (below_step (by repeat (first | (with_reducible first | exact HB.out | apply below_alloc | apply pw_below_drewN | apply below_drew1 | refine below_set ?_ GE980.out | refine below_set ?_ GE986.out | refine below_set ?_ GE992.out) | exact HB.out)) hb)
              clear HO_981002
              clear HO_987002
              clear HO_993002
              clear HO1008
              clear HO1013
              clear HO1019
              clear BK980
              clear BK986
              clear BK992
              clear HB
              have HO_981002 := n0_
              have HO_987002 := n1_
              have HO_993002 := n2_
              have HO1008 := n3_
              have HO1013 := n4_
              have HO1019 := n5_
              have HO1024 := n6_
              have BK980 := n7_
              have BK986 := n8_
              have BK992 := n9_
              have HB := n10_
              clear n0_ n1_ n2_ n3_ n4_ n5_ n6_ n7_ n8_ n9_ n10_
              (try clear hb)
              (try clear hb2)
              (try clear hk)
              (try clear hi)
              (try clear ho0)
              refine hK.out _ _ ⟨(blk_cell BK980.out 0).trans rfl, (blk_cell BK980.out 1).trans rfl, (blk_cell BK980.out 2).trans rfl, (blk_cell BK986.out 0).trans rfl, (blk_cell BK986.out 1).trans rfl, (blk_cell BK986.out 2).trans rfl⟩ (fun hHeld => ?_)
              clear hK K
              refine norm_ (a' := ?_) ?_ ?_
              rotate_left
              · show Act.put _ (some 46) _ = _
                simp only [Act.put, List.setIfInBounds_toArray, List.set_cons_zero, List.set_cons_succ, i64_w, i32_w]
                rfl
              refine one_ (i := 11) (N := some 48) #[true, true, true, true, true, true, true, true, true, true, true, true, false, false, false] rfl rfl (one_of HT_.out (by kernel_rfl)) (by decide) (fun K hK => ?_)
              refine goes_ Try.func88 (by kernel_rfl) rfl #[.agg #[.int .i64 t975, .int .i64 t976, .slice Ao10 t977.length co10]] (by rfl) rfl rfl (by (try simp only [List.map_toArray, List.map_cons, List.map_nil]); first | done | rfl | (simp only [List.length_drop, List.length_take]; rfl)) ?_
              with_reducible refine (impl_MirrorPicture.calls t975 t976 _ _ t977 t1025 t1026 t1027 _ ?side1 ?side2 A46.out).mono ?_
              (case side1 => repeat (first | exact (Kd.R_reads' HO_981002.out).2.2 | (with_reducible refine Kd.C_alloc ?_ _) | (with_reducible refine Kd.C_drewN ?_ _) | (with_reducible refine Kd.C_drew ?_)))
              (case side2 => exact (Kd.R_reads' HO_981002.out).2.1)
              rintro e w57 ⟨v1028, rfl, ho0, hb⟩
              refine ⟨_, rfl, ?_⟩
              have n0_ := Aside0.mk (Kd.R_elder' (by (with_reducible repeat (first | apply Kd.R_alloc | apply Kd.R_drewN | apply Kd.R_drew)); exact HO_981002.out) (Kd.R_base ho0) hb)
              have n1_ := Aside0.mk (Kd.R_elder' (by (with_reducible repeat (first | apply Kd.R_alloc | apply Kd.R_drewN | apply Kd.R_drew)); exact HO_987002.out) (Kd.R_base ho0) hb)
              have n2_ := Aside0.mk (Kd.R_elder' (by (with_reducible repeat (first | apply Kd.R_alloc | apply Kd.R_drewN | apply Kd.R_drew)); exact HO_993002.out) (Kd.R_base ho0) hb)
              have n3_ := Aside0.mk (Kd.R_elder' (by (with_reducible repeat (first | apply Kd.R_alloc | apply Kd.R_drewN | apply Kd.R_drew)); exact HO1008.out) (Kd.R_base ho0) hb)
              have n4_ := Aside0.mk (Kd.R_elder' (by (with_reducible repeat (first | apply Kd.R_alloc | apply Kd.R_drewN | apply Kd.R_drew)); exact HO1013.out) (Kd.R_base ho0) hb)
              have n5_ := Aside0.mk (Kd.R_elder' (by (with_reducible repeat (first | apply Kd.R_alloc | apply Kd.R_drewN | apply Kd.R_drew)); exact HO1019.out) (Kd.R_base ho0) hb)
              have n6_ := Aside0.mk (Kd.R_elder' (by (with_reducible repeat (first | apply Kd.R_alloc | apply Kd.R_drewN | apply Kd.R_drew)); exact HO1024.out) (Kd.R_base ho0) hb)
              have n7_ := Aside0.mk (Kd.R_lower (Kd.R_new' (Kd.R_new' (Kd.R_new' (Kd.R_new' (Kd.R_new' (Kd.R_new' (Kd.R_new' ho0 (Kd.R_lt (by (with_reducible repeat (first | apply Kd.R_alloc | apply Kd.R_drewN | apply Kd.R_drew)); exact HO_981002.out))) (Kd.R_lt (by (with_reducible repeat (first | apply Kd.R_alloc | apply Kd.R_drewN | apply Kd.R_drew)); exact HO_987002.out))) (Kd.R_lt (by (with_reducible repeat (first | apply Kd.R_alloc | apply Kd.R_drewN | apply Kd.R_drew)); exact HO_993002.out))) (Kd.R_lt (by (with_reducible repeat (first | apply Kd.R_alloc | apply Kd.R_drewN | apply Kd.R_drew)); exact HO1008.out))) (Kd.R_lt (by (with_reducible repeat (first | apply Kd.R_alloc | apply Kd.R_drewN | apply Kd.R_drew)); exact HO1013.out))) (Kd.R_lt (by (with_reducible repeat (first | apply Kd.R_alloc | apply Kd.R_drewN | apply Kd.R_drew)); exact HO1019.out))) (Kd.R_lt (by (with_reducible repeat (first | apply Kd.R_alloc | apply Kd.R_drewN | apply Kd.R_drew)); exact HO1024.out))) (below_size (by repeat (first | (with_reducible first | exact HB.out | apply below_alloc | apply pw_below_drewN | apply below_drew1 | refine below_set ?_ GE980.out | refine below_set ?_ GE986.out | refine below_set ?_ GE992.out) | exact HB.out))))
              have n8_ := Aside0.mk (blk_below (g := gb980) (o := .cells #[.int .i64 t975, .int .i64 t976, .slice Ao10 t977.length co10] 37 (0, 0)) (by (with_reducible repeat (first | refine blk_drewN ?_ _ | refine blk_drew ?_ | refine blk_alloc ?_ _)); exact BK980.out) hb)
              have n9_ := Aside0.mk (blk_below (g := gb986) (o := .cells #[.int .i64 t981, .int .i64 t982, .slice Ao15 t983.length co15] 37 (0, 0)) (by (with_reducible repeat (first | refine blk_drewN ?_ _ | refine blk_drew ?_ | refine blk_alloc ?_ _)); exact BK986.out) hb)
              have n10_ := Aside0.mk (blk_below (g := gb992) (o := .cells #[.int .i64 t987, .int .i64 t988, .slice Ao21 t989.length co21] 37 (0, 0)) (by (with_reducible repeat (first | refine blk_drewN ?_ _ | refine blk_drew ?_ | refine blk_alloc ?_ _)); exact BK992.out) hb)
              have n11_ := Aside0.mk (below_step (by repeat (first | (with_reducible first | exact HB.out | apply below_alloc | apply pw_below_drewN | apply below_drew1 | refine below_set ?_ GE980.out | refine below_set ?_ GE986.out | refine below_set ?_ GE992.out) | exact HB.out)) hb)
              clear HO_981002
              clear HO_987002
              clear HO_993002
              clear HO1008
              clear HO1013
              clear HO1019
              clear HO1024
              clear BK980
              clear BK986
              clear BK992
              clear HB
              have HO_981002 := n0_
              have HO_987002 := n1_
              have HO_993002 := n2_
              have HO1008 := n3_
              have HO1013 := n4_
              have HO1019 := n5_
              have HO1024 := n6_
              have HO1029 := n7_
              have BK980 := n8_
              have BK986 := n9_
              have BK992 := n10_
              have HB := n11_
              clear n0_ n1_ n2_ n3_ n4_ n5_ n6_ n7_ n8_ n9_ n10_ n11_
              (try clear hb)
              (try clear hb2)
              (try clear hk)
              (try clear hi)
              (try clear ho0)
              obtain ⟨Ao58, co58, eo58⟩ := Kd.R_slice HO1024.out
              (first | subst eo58 | (injection eo58 with f1_ f2_ f3_; have f4_ := f1_.symm; have f5_ := f3_.symm; clear f1_ f2_ f3_; subst f4_; subst f5_))
              obtain ⟨Ao59, co59, eo59⟩ := Kd.R_slice HO1029.out
              (first | subst eo59 | (injection eo59 with f1_ f2_ f3_; have f4_ := f1_.symm; have f5_ := f3_.symm; clear f1_ f2_ f3_; subst f4_; subst f5_))
              refine hK.out _ _ ⟨(blk_cell BK980.out 0).trans rfl, (blk_cell BK980.out 1).trans rfl, (blk_cell BK980.out 2).trans rfl, (blk_cell BK986.out 0).trans rfl, (blk_cell BK986.out 1).trans rfl, (blk_cell BK986.out 2).trans rfl⟩ (fun hHeld => ?_)
              clear hK K
              refine norm_ (a' := ?_) ?_ ?_
              rotate_left
              · show Act.put _ (some 48) _ = _
                simp only [Act.put, List.setIfInBounds_toArray, List.set_cons_zero, List.set_cons_succ, i64_w, i32_w]
                rfl
              refine one_ (i := 12) (N := some 49) #[true, true, true, true, true, true, true, true, true, true, true, true, true, false, false] rfl rfl (one_of HT_.out (by kernel_rfl)) (by decide) (fun K hK => ?_)
              refine goes_ Try.func85 (by kernel_rfl) rfl #[.agg #[.int .i64 t1020, .int .i64 t1021, .slice Ao58 t1022.length co58], .agg #[.int .i64 t1025, .int .i64 t1026, .slice Ao59 t1027.length co59]] (by rfl) rfl rfl (by (try simp only [List.map_toArray, List.map_cons, List.map_nil]); first | done | rfl | (simp only [List.length_drop, List.length_take]; rfl)) ?_
              with_reducible refine (laws_same.calls kj5 t1020 t1021 _ _ t1022 t1025 t1026 _ _ t1027 t1030 _ ?side1 ?side2 ?side3 ?side4 A47.out).mono ?_
              (case side1 => repeat (first | exact (Kd.R_reads' HO1024.out).2.2 | (with_reducible refine Kd.C_alloc ?_ _) | (with_reducible refine Kd.C_drewN ?_ _) | (with_reducible refine Kd.C_drew ?_)))
              (case side2 => exact (Kd.R_reads' HO1024.out).2.1)
              (case side3 => repeat (first | exact (Kd.R_reads' HO1029.out).2.2 | (with_reducible refine Kd.C_alloc ?_ _) | (with_reducible refine Kd.C_drewN ?_ _) | (with_reducible refine Kd.C_drew ?_)))
              (case side4 => exact (Kd.R_reads' HO1029.out).2.1)
              rintro e w60 ⟨rfl, hb⟩
              refine ⟨_, rfl, ?_⟩
              have n0_ := Aside0.mk (Kd.R_below (by (with_reducible repeat (first | apply Kd.R_alloc | apply Kd.R_drewN | apply Kd.R_drew)); exact HO_981002.out) hb)
              have n1_ := Aside0.mk (Kd.R_below (by (with_reducible repeat (first | apply Kd.R_alloc | apply Kd.R_drewN | apply Kd.R_drew)); exact HO_987002.out) hb)
              have n2_ := Aside0.mk (Kd.R_below (by (with_reducible repeat (first | apply Kd.R_alloc | apply Kd.R_drewN | apply Kd.R_drew)); exact HO_993002.out) hb)
              have n3_ := Aside0.mk (Kd.R_below (by (with_reducible repeat (first | apply Kd.R_alloc | apply Kd.R_drewN | apply Kd.R_drew)); exact HO1008.out) hb)
              have n4_ := Aside0.mk (Kd.R_below (by (with_reducible repeat (first | apply Kd.R_alloc | apply Kd.R_drewN | apply Kd.R_drew)); exact HO1013.out) hb)
              have n5_ := Aside0.mk (Kd.R_below (by (with_reducible repeat (first | apply Kd.R_alloc | apply Kd.R_drewN | apply Kd.R_drew)); exact HO1019.out) hb)
              have n6_ := Aside0.mk (Kd.R_below (by (with_reducible repeat (first | apply Kd.R_alloc | apply Kd.R_drewN | apply Kd.R_drew)); exact HO1024.out) hb)
              have n7_ := Aside0.mk (Kd.R_below (by (with_reducible repeat (first | apply Kd.R_alloc | apply Kd.R_drewN | apply Kd.R_drew)); exact HO1029.out) hb)
              have n8_ := Aside0.mk (blk_below (g := gb980) (o := .cells #[.int .i64 t975, .int .i64 t976, .slice Ao10 t977.length co10] 37 (0, 0)) (by (with_reducible repeat (first | refine blk_drewN ?_ _ | refine blk_drew ?_ | refine blk_alloc ?_ _)); exact BK980.out) hb)
              have n9_ := Aside0.mk (blk_below (g := gb986) (o := .cells #[.int .i64 t981, .int .i64 t982, .slice Ao15 t983.length co15] 37 (0, 0)) (by (with_reducible repeat (first | refine blk_drewN ?_ _ | refine blk_drew ?_ | refine blk_alloc ?_ _)); exact BK986.out) hb)
              have n10_ := Aside0.mk (blk_below (g := gb992) (o := .cells #[.int .i64 t987, .int .i64 t988, .slice Ao21 t989.length co21] 37 (0, 0)) (by (with_reducible repeat (first | refine blk_drewN ?_ _ | refine blk_drew ?_ | refine blk_alloc ?_ _)); exact BK992.out) hb)
              have n11_ := Aside0.mk (below_step (by repeat (first | (with_reducible first | exact HB.out | apply below_alloc | apply pw_below_drewN | apply below_drew1 | refine below_set ?_ GE980.out | refine below_set ?_ GE986.out | refine below_set ?_ GE992.out) | exact HB.out)) hb)
              clear HO_981002
              clear HO_987002
              clear HO_993002
              clear HO1008
              clear HO1013
              clear HO1019
              clear HO1024
              clear HO1029
              clear BK980
              clear BK986
              clear BK992
              clear HB
              have HO_981002 := n0_
              have HO_987002 := n1_
              have HO_993002 := n2_
              have HO1008 := n3_
              have HO1013 := n4_
              have HO1019 := n5_
              have HO1024 := n6_
              have HO1029 := n7_
              have BK980 := n8_
              have BK986 := n9_
              have BK992 := n10_
              have HB := n11_
              clear n0_ n1_ n2_ n3_ n4_ n5_ n6_ n7_ n8_ n9_ n10_ n11_
              (try clear hb)
              (try clear hb2)
              (try clear hk)
              (try clear hi)
              refine hK.out _ _ ⟨(blk_cell BK980.out 0).trans rfl, (blk_cell BK980.out 1).trans rfl, (blk_cell BK980.out 2).trans rfl, (blk_cell BK986.out 0).trans rfl, (blk_cell BK986.out 1).trans rfl, (blk_cell BK986.out 2).trans rfl⟩ (fun hHeld => ?_)
              clear hK K
              refine norm_ (a' := ?_) ?_ ?_
              rotate_left
              · show Act.put _ (some 49) _ = _
                simp only [Act.put, List.setIfInBounds_toArray, List.set_cons_zero, List.set_cons_succ, i64_w, i32_w]
                rfl
              refine pure_ (i := 13) (N := some 50) (v := ?_) (a' := ?_) #[true, true, true, true, true, true, true, true, true, true, true, true, true, true, false] rfl rfl (any_of HT_.out (by kernel_rfl)) (fun _ _ _ h => h) (Or.inl ⟨by rfl, ?_⟩) ?_ ?_
              rotate_left
              · intro w'
                go_simp
                with_reducible rfl
              rotate_left
              · simp only [Act.put, List.setIfInBounds_toArray, List.set_cons_zero, List.set_cons_succ, i64_w, i32_w]
                rfl
              refine pure_ (i := 14) (N := some 51) (v := ?_) (a' := ?_) #[true, true, true, true, true, true, true, true, true, true, true, true, true, true, true] rfl rfl (any_of HT_.out (by kernel_rfl)) (fun _ _ _ h => h) (Or.inl ⟨by rfl, ?_⟩) ?_ ?_
              rotate_left
              · intro w'
                go_simp
                with_reducible rfl
              rotate_left
              · simp only [Act.put, List.setIfInBounds_toArray, List.set_cons_zero, List.set_cons_succ, i64_w, i32_w]
                rfl
              refine done_ (done_of HT_.out (by kernel_rfl)) ?_
              try go_wp2
              go_meet
              case rel => exact ⟨_, (!t1030), (by first | rfl | (simp; done) | (simp [*]; done)), H', ⟨by have := HJ5.out; first | omega | exact Nat.le_refl _⟩, ⟨by (with_reducible repeat (first | apply Kd.R_alloc | apply Kd.R_drewN | apply Kd.R_drew)); exact Kd.R_mono HO_981002.out (fun _ hk => ⟨hk.1.1.1.1.1.1, hk.1.1.1.1.1.2⟩)⟩, ⟨by (with_reducible repeat (first | apply Kd.R_alloc | apply Kd.R_drewN | apply Kd.R_drew)); exact Kd.R_mono HO_987002.out (fun _ hk => ⟨hk.1.1.1.1.1.1, hk.1.1.1.1.1.2⟩)⟩, ⟨by (with_reducible repeat (first | apply Kd.R_alloc | apply Kd.R_drewN | apply Kd.R_drew)); exact Kd.R_mono HO_993002.out (fun _ hk => ⟨hk.1.1.1.1.1.1, hk.1.1.1.1.1.2⟩)⟩, ⟨by (with_reducible repeat (first | refine blk_drewN ?_ _ | refine blk_drew ?_ | refine blk_alloc ?_ _)); exact BK980.out⟩, ⟨by (with_reducible repeat (first | refine blk_drewN ?_ _ | refine blk_drew ?_ | refine blk_alloc ?_ _)); exact BK986.out⟩, ⟨by (with_reducible repeat (first | refine blk_drewN ?_ _ | refine blk_drew ?_ | refine blk_alloc ?_ _)); exact BK992.out⟩, ⟨by repeat (first | (with_reducible first | exact HB.out | apply below_alloc | apply pw_below_drewN | apply below_drew1 | refine below_set ?_ GE980.out | refine below_set ?_ GE986.out | refine below_set ?_ GE992.out) | exact HB.out)⟩⟩
            · replace c43 := Bool.eq_false_iff.mpr c43
              subst c43
              have H1 : (laws_FnTurned.j1 kj5 true t975 t976 t977 t981 t982 t983 t987 t988 t989) = some r := by rw [if_neg (show ¬ (false = true) by decide)] at H; exact H
              clear H
              have H := H1
              clear H1
              have H' := Aside0.mk H
              clear H
              try go_wp2
              have n0_ := Aside0.mk (Kd.R_drew HO_981002.out)
              have n1_ := Aside0.mk (Kd.R_drew HO_987002.out)
              have n2_ := Aside0.mk (Kd.R_drew HO_993002.out)
              have n3_ := Aside0.mk (blk_drew BK980.out)
              have n4_ := Aside0.mk (blk_drew BK986.out)
              have n5_ := Aside0.mk (blk_drew BK992.out)
              have n6_ := Aside0.mk (below_drew1 HB.out)
              clear HO_981002
              clear HO_987002
              clear HO_993002
              clear BK980
              clear BK986
              clear BK992
              clear HB
              have HO_981002 := n0_
              have HO_987002 := n1_
              have HO_993002 := n2_
              have BK980 := n3_
              have BK986 := n4_
              have BK992 := n5_
              have HB := n6_
              clear n0_ n1_ n2_ n3_ n4_ n5_ n6_
              refine start_ (n := 15) (S := fun w' => w'.cell? ⟨gb980, 0, none⟩ = some (.int .i64 t975) ∧ w'.cell? ⟨gb980, 1, none⟩ = some (.int .i64 t976) ∧ w'.cell? ⟨gb980, 2, none⟩ = some (.slice Ao10 t977.length co10)) (ds := []) #[false, false, false, false, false, false, false, false, false, false, false, false, false, false, false] (by kernel_rfl) rfl rfl ⟨(blk_cell BK980.out 0).trans rfl, (blk_cell BK980.out 1).trans rfl, (blk_cell BK980.out 2).trans rfl⟩ (fun hHeld => ?_); refine with_tabW laws_FnTurned.tab8 laws_FnTurned.bits8 (fun HT_ HW_ => ?_)
              generalize wc.drew = w61 at HO_981002 HO_987002 HO_993002 BK980 BK986 BK992 HB hHeld ⊢
              refine take_ (i := 0) (N := some 37) (v := ?_) (a' := ?_) #[true, false, false, false, false, false, false, false, false, false, false, false, false, false, false] rfl rfl (take_ofW HT_.out HW_.out (by kernel_rfl)) (fun _ _ _ h => h) (Or.inl ⟨by rfl, ?_⟩) hHeld ?_ ?_
              rotate_left
              · rintro w' ⟨s0, s1, s2⟩
                go_simp
                with_reducible rfl
              rotate_left
              · simp only [Act.put, List.setIfInBounds_toArray, List.set_cons_zero, List.set_cons_succ, i64_w, i32_w]
                rfl
              refine take_ (i := 3) (N := some 40) (v := ?_) (a' := ?_) #[true, false, false, true, false, false, false, false, false, false, false, false, false, false, false] rfl rfl (take_ofW HT_.out HW_.out (by kernel_rfl)) (fun _ _ _ h => h) (Or.inl ⟨by rfl, ?_⟩) hHeld ?_ ?_
              rotate_left
              · rintro w' ⟨s0, s1, s2⟩
                go_simp
                with_reducible rfl
              rotate_left
              · simp only [Act.put, List.setIfInBounds_toArray, List.set_cons_zero, List.set_cons_succ, i64_w, i32_w]
                rfl
              refine one_ (i := 1) (N := some 38) #[true, true, false, true, false, false, false, false, false, false, false, false, false, false, false] rfl rfl (one_of HT_.out (by kernel_rfl)) (by decide) (fun K hK => ?_)
              refine goes_ Try.func88 (by kernel_rfl) rfl #[.agg #[.int .i64 t975, .int .i64 t976, .slice Ao10 t977.length co10]] (by rfl) rfl rfl (by (try simp only [List.map_toArray, List.map_cons, List.map_nil]); first | done | rfl | (simp only [List.length_drop, List.length_take]; rfl)) ?_
              with_reducible refine (impl_MirrorPicture.calls t975 t976 _ _ t977 t1004 t1005 t1006 _ ?side1 ?side2 A40.out).mono ?_
              (case side1 => repeat (first | exact (Kd.R_reads' HO_981002.out).2.2 | (with_reducible refine Kd.C_alloc ?_ _) | (with_reducible refine Kd.C_drewN ?_ _) | (with_reducible refine Kd.C_drew ?_)))
              (case side2 => exact (Kd.R_reads' HO_981002.out).2.1)
              rintro e w62 ⟨v1007, rfl, ho0, hb⟩
              refine ⟨_, rfl, ?_⟩
              have n0_ := Aside0.mk (Kd.R_elder' (by (with_reducible repeat (first | apply Kd.R_alloc | apply Kd.R_drewN | apply Kd.R_drew)); exact HO_981002.out) (Kd.R_base ho0) hb)
              have n1_ := Aside0.mk (Kd.R_elder' (by (with_reducible repeat (first | apply Kd.R_alloc | apply Kd.R_drewN | apply Kd.R_drew)); exact HO_987002.out) (Kd.R_base ho0) hb)
              have n2_ := Aside0.mk (Kd.R_elder' (by (with_reducible repeat (first | apply Kd.R_alloc | apply Kd.R_drewN | apply Kd.R_drew)); exact HO_993002.out) (Kd.R_base ho0) hb)
              have n3_ := Aside0.mk (Kd.R_lower (Kd.R_new' (Kd.R_new' (Kd.R_new' ho0 (Kd.R_lt (by (with_reducible repeat (first | apply Kd.R_alloc | apply Kd.R_drewN | apply Kd.R_drew)); exact HO_981002.out))) (Kd.R_lt (by (with_reducible repeat (first | apply Kd.R_alloc | apply Kd.R_drewN | apply Kd.R_drew)); exact HO_987002.out))) (Kd.R_lt (by (with_reducible repeat (first | apply Kd.R_alloc | apply Kd.R_drewN | apply Kd.R_drew)); exact HO_993002.out))) (below_size (by repeat (first | (with_reducible first | exact HB.out | apply below_alloc | apply pw_below_drewN | apply below_drew1 | refine below_set ?_ GE980.out | refine below_set ?_ GE986.out | refine below_set ?_ GE992.out) | exact HB.out))))
              have n4_ := Aside0.mk (blk_below (g := gb980) (o := .cells #[.int .i64 t975, .int .i64 t976, .slice Ao10 t977.length co10] 37 (0, 0)) (by (with_reducible repeat (first | refine blk_drewN ?_ _ | refine blk_drew ?_ | refine blk_alloc ?_ _)); exact BK980.out) hb)
              have n5_ := Aside0.mk (blk_below (g := gb986) (o := .cells #[.int .i64 t981, .int .i64 t982, .slice Ao15 t983.length co15] 37 (0, 0)) (by (with_reducible repeat (first | refine blk_drewN ?_ _ | refine blk_drew ?_ | refine blk_alloc ?_ _)); exact BK986.out) hb)
              have n6_ := Aside0.mk (blk_below (g := gb992) (o := .cells #[.int .i64 t987, .int .i64 t988, .slice Ao21 t989.length co21] 37 (0, 0)) (by (with_reducible repeat (first | refine blk_drewN ?_ _ | refine blk_drew ?_ | refine blk_alloc ?_ _)); exact BK992.out) hb)
              have n7_ := Aside0.mk (below_step (by repeat (first | (with_reducible first | exact HB.out | apply below_alloc | apply pw_below_drewN | apply below_drew1 | refine below_set ?_ GE980.out | refine below_set ?_ GE986.out | refine below_set ?_ GE992.out) | exact HB.out)) hb)
              clear HO_981002
              clear HO_987002
              clear HO_993002
              clear BK980
              clear BK986
              clear BK992
              clear HB
              have HO_981002 := n0_
              have HO_987002 := n1_
              have HO_993002 := n2_
              have HO1008 := n3_
              have BK980 := n4_
              have BK986 := n5_
              have BK992 := n6_
              have HB := n7_
              clear n0_ n1_ n2_ n3_ n4_ n5_ n6_ n7_
              (try clear hb)
              (try clear hb2)
              (try clear hk)
              (try clear hi)
              (try clear ho0)
              obtain ⟨Ao63, co63, eo63⟩ := Kd.R_slice HO1008.out
              (first | subst eo63 | (injection eo63 with f1_ f2_ f3_; have f4_ := f1_.symm; have f5_ := f3_.symm; clear f1_ f2_ f3_; subst f4_; subst f5_))
              refine hK.out _ _ ⟨(blk_cell BK980.out 0).trans rfl, (blk_cell BK980.out 1).trans rfl, (blk_cell BK980.out 2).trans rfl⟩ (fun hHeld => ?_)
              clear hK K
              refine norm_ (a' := ?_) ?_ ?_
              rotate_left
              · show Act.put _ (some 38) _ = _
                simp only [Act.put, List.setIfInBounds_toArray, List.set_cons_zero, List.set_cons_succ, i64_w, i32_w]
                rfl
              refine one_ (i := 2) (N := some 39) #[true, true, true, true, false, false, false, false, false, false, false, false, false, false, false] rfl rfl (one_of HT_.out (by kernel_rfl)) (by decide) (fun K hK => ?_)
              refine goes_ Try.func88 (by kernel_rfl) rfl #[.agg #[.int .i64 t1004, .int .i64 t1005, .slice Ao63 t1006.length co63]] (by rfl) rfl rfl (by (try simp only [List.map_toArray, List.map_cons, List.map_nil]); first | done | rfl | (simp only [List.length_drop, List.length_take]; rfl)) ?_
              with_reducible refine (impl_MirrorPicture.calls t1004 t1005 _ _ t1006 t1009 t1010 t1011 _ ?side1 ?side2 A41.out).mono ?_
              (case side1 => repeat (first | exact (Kd.R_reads' HO1008.out).2.2 | (with_reducible refine Kd.C_alloc ?_ _) | (with_reducible refine Kd.C_drewN ?_ _) | (with_reducible refine Kd.C_drew ?_)))
              (case side2 => exact (Kd.R_reads' HO1008.out).2.1)
              rintro e w64 ⟨v1012, rfl, ho0, hb⟩
              refine ⟨_, rfl, ?_⟩
              have n0_ := Aside0.mk (Kd.R_elder' (by (with_reducible repeat (first | apply Kd.R_alloc | apply Kd.R_drewN | apply Kd.R_drew)); exact HO_981002.out) (Kd.R_base ho0) hb)
              have n1_ := Aside0.mk (Kd.R_elder' (by (with_reducible repeat (first | apply Kd.R_alloc | apply Kd.R_drewN | apply Kd.R_drew)); exact HO_987002.out) (Kd.R_base ho0) hb)
              have n2_ := Aside0.mk (Kd.R_elder' (by (with_reducible repeat (first | apply Kd.R_alloc | apply Kd.R_drewN | apply Kd.R_drew)); exact HO_993002.out) (Kd.R_base ho0) hb)
              have n3_ := Aside0.mk (Kd.R_elder' (by (with_reducible repeat (first | apply Kd.R_alloc | apply Kd.R_drewN | apply Kd.R_drew)); exact HO1008.out) (Kd.R_base ho0) hb)
              have n4_ := Aside0.mk (Kd.R_lower (Kd.R_new' (Kd.R_new' (Kd.R_new' (Kd.R_new' ho0 (Kd.R_lt (by (with_reducible repeat (first | apply Kd.R_alloc | apply Kd.R_drewN | apply Kd.R_drew)); exact HO_981002.out))) (Kd.R_lt (by (with_reducible repeat (first | apply Kd.R_alloc | apply Kd.R_drewN | apply Kd.R_drew)); exact HO_987002.out))) (Kd.R_lt (by (with_reducible repeat (first | apply Kd.R_alloc | apply Kd.R_drewN | apply Kd.R_drew)); exact HO_993002.out))) (Kd.R_lt (by (with_reducible repeat (first | apply Kd.R_alloc | apply Kd.R_drewN | apply Kd.R_drew)); exact HO1008.out))) (below_size (by repeat (first | (with_reducible first | exact HB.out | apply below_alloc | apply pw_below_drewN | apply below_drew1 | refine below_set ?_ GE980.out | refine below_set ?_ GE986.out | refine below_set ?_ GE992.out) | exact HB.out))))
              have n5_ := Aside0.mk (blk_below (g := gb980) (o := .cells #[.int .i64 t975, .int .i64 t976, .slice Ao10 t977.length co10] 37 (0, 0)) (by (with_reducible repeat (first | refine blk_drewN ?_ _ | refine blk_drew ?_ | refine blk_alloc ?_ _)); exact BK980.out) hb)
              have n6_ := Aside0.mk (blk_below (g := gb986) (o := .cells #[.int .i64 t981, .int .i64 t982, .slice Ao15 t983.length co15] 37 (0, 0)) (by (with_reducible repeat (first | refine blk_drewN ?_ _ | refine blk_drew ?_ | refine blk_alloc ?_ _)); exact BK986.out) hb)
              have n7_ := Aside0.mk (blk_below (g := gb992) (o := .cells #[.int .i64 t987, .int .i64 t988, .slice Ao21 t989.length co21] 37 (0, 0)) (by (with_reducible repeat (first | refine blk_drewN ?_ _ | refine blk_drew ?_ | refine blk_alloc ?_ _)); exact BK992.out) hb)
              have n8_ := Aside0.mk (below_step (by repeat (first | (with_reducible first | exact HB.out | apply below_alloc | apply pw_below_drewN | apply below_drew1 | refine below_set ?_ GE980.out | refine below_set ?_ GE986.out | refine below_set ?_ GE992.out) | exact HB.out)) hb)
              clear HO_981002
              clear HO_987002
              clear HO_993002
              clear HO1008
              clear BK980
              clear BK986
              clear BK992
              clear HB
              have HO_981002 := n0_
              have HO_987002 := n1_
              have HO_993002 := n2_
              have HO1008 := n3_
              have HO1013 := n4_
              have BK980 := n5_
              have BK986 := n6_
              have BK992 := n7_
              have HB := n8_
              clear n0_ n1_ n2_ n3_ n4_ n5_ n6_ n7_ n8_
              (try clear hb)
              (try clear hb2)
              (try clear hk)
              (try clear hi)
              (try clear ho0)
              obtain ⟨Ao65, co65, eo65⟩ := Kd.R_slice HO1013.out
              (first | subst eo65 | (injection eo65 with f1_ f2_ f3_; have f4_ := f1_.symm; have f5_ := f3_.symm; clear f1_ f2_ f3_; subst f4_; subst f5_))
              refine hK.out _ _ ⟨(blk_cell BK980.out 0).trans rfl, (blk_cell BK980.out 1).trans rfl, (blk_cell BK980.out 2).trans rfl⟩ (fun hHeld => ?_)
              clear hK K
              refine norm_ (a' := ?_) ?_ ?_
              rotate_left
              · show Act.put _ (some 39) _ = _
                simp only [Act.put, List.setIfInBounds_toArray, List.set_cons_zero, List.set_cons_succ, i64_w, i32_w]
                rfl
              refine one_ (i := 4) (N := some 41) #[true, true, true, true, true, false, false, false, false, false, false, false, false, false, false] rfl rfl (one_of HT_.out (by kernel_rfl)) (by decide) (fun K hK => ?_)
              refine goes_ Try.func85 (by kernel_rfl) rfl #[.agg #[.int .i64 t1009, .int .i64 t1010, .slice Ao65 t1011.length co65], .agg #[.int .i64 t975, .int .i64 t976, .slice Ao10 t977.length co10]] (by rfl) rfl rfl (by (try simp only [List.map_toArray, List.map_cons, List.map_nil]); first | done | rfl | (simp only [List.length_drop, List.length_take]; rfl)) ?_
              with_reducible refine (laws_same.calls kj5 t1009 t1010 _ _ t1011 t975 t976 _ _ t977 false _ ?side1 ?side2 ?side3 ?side4 A42.out).mono ?_
              (case side1 => repeat (first | exact (Kd.R_reads' HO1013.out).2.2 | (with_reducible refine Kd.C_alloc ?_ _) | (with_reducible refine Kd.C_drewN ?_ _) | (with_reducible refine Kd.C_drew ?_)))
              (case side2 => exact (Kd.R_reads' HO1013.out).2.1)
              (case side3 => repeat (first | exact (Kd.R_reads' HO_981002.out).2.2 | (with_reducible refine Kd.C_alloc ?_ _) | (with_reducible refine Kd.C_drewN ?_ _) | (with_reducible refine Kd.C_drew ?_)))
              (case side4 => exact (Kd.R_reads' HO_981002.out).2.1)
              rintro e w66 ⟨rfl, hb⟩
              refine ⟨_, rfl, ?_⟩
              have n0_ := Aside0.mk (Kd.R_below (by (with_reducible repeat (first | apply Kd.R_alloc | apply Kd.R_drewN | apply Kd.R_drew)); exact HO_981002.out) hb)
              have n1_ := Aside0.mk (Kd.R_below (by (with_reducible repeat (first | apply Kd.R_alloc | apply Kd.R_drewN | apply Kd.R_drew)); exact HO_987002.out) hb)
              have n2_ := Aside0.mk (Kd.R_below (by (with_reducible repeat (first | apply Kd.R_alloc | apply Kd.R_drewN | apply Kd.R_drew)); exact HO_993002.out) hb)
              have n3_ := Aside0.mk (Kd.R_below (by (with_reducible repeat (first | apply Kd.R_alloc | apply Kd.R_drewN | apply Kd.R_drew)); exact HO1008.out) hb)
              have n4_ := Aside0.mk (Kd.R_below (by (with_reducible repeat (first | apply Kd.R_alloc | apply Kd.R_drewN | apply Kd.R_drew)); exact HO1013.out) hb)
              have n5_ := Aside0.mk (blk_below (g := gb980) (o := .cells #[.int .i64 t975, .int .i64 t976, .slice Ao10 t977.length co10] 37 (0, 0)) (by (with_reducible repeat (first | refine blk_drewN ?_ _ | refine blk_drew ?_ | refine blk_alloc ?_ _)); exact BK980.out) hb)
              have n6_ := Aside0.mk (blk_below (g := gb986) (o := .cells #[.int .i64 t981, .int .i64 t982, .slice Ao15 t983.length co15] 37 (0, 0)) (by (with_reducible repeat (first | refine blk_drewN ?_ _ | refine blk_drew ?_ | refine blk_alloc ?_ _)); exact BK986.out) hb)
              have n7_ := Aside0.mk (blk_below (g := gb992) (o := .cells #[.int .i64 t987, .int .i64 t988, .slice Ao21 t989.length co21] 37 (0, 0)) (by (with_reducible repeat (first | refine blk_drewN ?_ _ | refine blk_drew ?_ | refine blk_alloc ?_ _)); exact BK992.out) hb)
              have n8_ := Aside0.mk (below_step (by repeat (first | (with_reducible first | exact HB.out | apply below_alloc | apply pw_below_drewN | apply below_drew1 | refine below_set ?_ GE980.out | refine below_set ?_ GE986.out | refine below_set ?_ GE992.out) | exact HB.out)) hb)
              clear HO_981002
              clear HO_987002
              clear HO_993002
              clear HO1008
              clear HO1013
              clear BK980
              clear BK986
              clear BK992
              clear HB
              have HO_981002 := n0_
              have HO_987002 := n1_
              have HO_993002 := n2_
              have HO1008 := n3_
              have HO1013 := n4_
              have BK980 := n5_
              have BK986 := n6_
              have BK992 := n7_
              have HB := n8_
              clear n0_ n1_ n2_ n3_ n4_ n5_ n6_ n7_ n8_
              (try clear hb)
              (try clear hb2)
              (try clear hk)
              (try clear hi)
              refine hK.out _ _ ⟨(blk_cell BK980.out 0).trans rfl, (blk_cell BK980.out 1).trans rfl, (blk_cell BK980.out 2).trans rfl⟩ (fun hHeld => ?_)
              clear hK K
              refine norm_ (a' := ?_) ?_ ?_
              rotate_left
              · show Act.put _ (some 41) _ = _
                simp only [Act.put, List.setIfInBounds_toArray, List.set_cons_zero, List.set_cons_succ, i64_w, i32_w]
                rfl
              refine pure_ (i := 5) (N := some 42) (v := ?_) (a' := ?_) #[true, true, true, true, true, true, false, false, false, false, false, false, false, false, false] rfl rfl (any_of HT_.out (by kernel_rfl)) (fun _ _ _ h => h) (Or.inl ⟨by rfl, ?_⟩) ?_ ?_
              rotate_left
              · intro w'
                go_simp
                with_reducible rfl
              rotate_left
              · simp only [Act.put, List.setIfInBounds_toArray, List.set_cons_zero, List.set_cons_succ, i64_w, i32_w]
                rfl
              refine pure_ (i := 6) (N := some 43) (v := ?_) (a' := ?_) #[true, true, true, true, true, true, true, false, false, false, false, false, false, false, false] rfl rfl (any_of HT_.out (by kernel_rfl)) (fun _ _ _ h => h) (Or.inl ⟨by rfl, ?_⟩) ?_ ?_
              rotate_left
              · intro w'
                go_simp
                with_reducible rfl
              rotate_left
              · simp only [Act.put, List.setIfInBounds_toArray, List.set_cons_zero, List.set_cons_succ, i64_w, i32_w]
                rfl
              refine pure_ (i := 7) (N := some 44) (v := undef) (a' := ?_) #[true, true, true, true, true, true, true, true, false, false, false, false, false, false, false] rfl rfl (any_of HT_.out (by kernel_rfl)) (fun _ _ _ h => h) (Or.inr ⟨by rfl, rfl⟩) ?_ ?_
              rotate_left
              · simp only [Act.put, List.setIfInBounds_toArray, List.set_cons_zero, List.set_cons_succ, i64_w, i32_w]
                rfl
              refine pure_ (i := 8) (N := some 45) (v := undef) (a' := ?_) #[true, true, true, true, true, true, true, true, true, false, false, false, false, false, false] rfl rfl (any_of HT_.out (by kernel_rfl)) (fun _ _ _ h => h) (Or.inr ⟨by rfl, rfl⟩) ?_ ?_
              rotate_left
              · simp only [Act.put, List.setIfInBounds_toArray, List.set_cons_zero, List.set_cons_succ, i64_w, i32_w]
                rfl
              refine pure_ (i := 9) (N := some 46) (v := undef) (a' := ?_) #[true, true, true, true, true, true, true, true, true, true, false, false, false, false, false] rfl rfl (any_of HT_.out (by kernel_rfl)) (fun _ _ _ h => h) (Or.inr ⟨by rfl, rfl⟩) ?_ ?_
              rotate_left
              · simp only [Act.put, List.setIfInBounds_toArray, List.set_cons_zero, List.set_cons_succ, i64_w, i32_w]
                rfl
              refine pure_ (i := 10) (N := some 47) (v := undef) (a' := ?_) #[true, true, true, true, true, true, true, true, true, true, true, false, false, false, false] rfl rfl (any_of HT_.out (by kernel_rfl)) (fun _ _ _ h => h) (Or.inr ⟨by rfl, rfl⟩) ?_ ?_
              rotate_left
              · simp only [Act.put, List.setIfInBounds_toArray, List.set_cons_zero, List.set_cons_succ, i64_w, i32_w]
                rfl
              refine pure_ (i := 11) (N := some 48) (v := undef) (a' := ?_) #[true, true, true, true, true, true, true, true, true, true, true, true, false, false, false] rfl rfl (any_of HT_.out (by kernel_rfl)) (fun _ _ _ h => h) (Or.inr ⟨by rfl, rfl⟩) ?_ ?_
              rotate_left
              · simp only [Act.put, List.setIfInBounds_toArray, List.set_cons_zero, List.set_cons_succ, i64_w, i32_w]
                rfl
              refine pure_ (i := 12) (N := some 49) (v := undef) (a' := ?_) #[true, true, true, true, true, true, true, true, true, true, true, true, true, false, false] rfl rfl (any_of HT_.out (by kernel_rfl)) (fun _ _ _ h => h) (Or.inr ⟨by rfl, rfl⟩) ?_ ?_
              rotate_left
              · simp only [Act.put, List.setIfInBounds_toArray, List.set_cons_zero, List.set_cons_succ, i64_w, i32_w]
                rfl
              refine pure_ (i := 13) (N := some 50) (v := undef) (a' := ?_) #[true, true, true, true, true, true, true, true, true, true, true, true, true, true, false] rfl rfl (any_of HT_.out (by kernel_rfl)) (fun _ _ _ h => h) (Or.inr ⟨by rfl, rfl⟩) ?_ ?_
              rotate_left
              · simp only [Act.put, List.setIfInBounds_toArray, List.set_cons_zero, List.set_cons_succ, i64_w, i32_w]
                rfl
              refine pure_ (i := 14) (N := some 51) (v := ?_) (a' := ?_) #[true, true, true, true, true, true, true, true, true, true, true, true, true, true, true] rfl rfl (any_of HT_.out (by kernel_rfl)) (fun _ _ _ h => h) (Or.inl ⟨by rfl, ?_⟩) ?_ ?_
              rotate_left
              · intro w'
                go_simp
                with_reducible rfl
              rotate_left
              · simp only [Act.put, List.setIfInBounds_toArray, List.set_cons_zero, List.set_cons_succ, i64_w, i32_w]
                rfl
              refine done_ (done_of HT_.out (by kernel_rfl)) ?_
              try go_wp2
              go_meet
              case rel => exact ⟨_, (true), (by first | rfl | (simp; done) | (simp [*]; done)), H', ⟨by have := HJ5.out; first | omega | exact Nat.le_refl _⟩, ⟨by (with_reducible repeat (first | apply Kd.R_alloc | apply Kd.R_drewN | apply Kd.R_drew)); exact Kd.R_mono HO_981002.out (fun _ hk => ⟨hk.1.1.1, hk.1.1.2⟩)⟩, ⟨by (with_reducible repeat (first | apply Kd.R_alloc | apply Kd.R_drewN | apply Kd.R_drew)); exact Kd.R_mono HO_987002.out (fun _ hk => ⟨hk.1.1.1, hk.1.1.2⟩)⟩, ⟨by (with_reducible repeat (first | apply Kd.R_alloc | apply Kd.R_drewN | apply Kd.R_drew)); exact Kd.R_mono HO_993002.out (fun _ hk => ⟨hk.1.1.1, hk.1.1.2⟩)⟩, ⟨by (with_reducible repeat (first | refine blk_drewN ?_ _ | refine blk_drew ?_ | refine blk_alloc ?_ _)); exact BK980.out⟩, ⟨by (with_reducible repeat (first | refine blk_drewN ?_ _ | refine blk_drew ?_ | refine blk_alloc ?_ _)); exact BK986.out⟩, ⟨by (with_reducible repeat (first | refine blk_drewN ?_ _ | refine blk_drew ?_ | refine blk_alloc ?_ _)); exact BK992.out⟩, ⟨by repeat (first | (with_reducible first | exact HB.out | apply below_alloc | apply pw_below_drewN | apply below_drew1 | refine below_set ?_ GE980.out | refine below_set ?_ GE986.out | refine below_set ?_ GE992.out) | exact HB.out)⟩⟩
          case rest =>
            clear HC39
            try clear p2
            try clear c4
            try clear c8
            try clear c43
            obtain ⟨kq, x51_38, rfl, HA, HJ38, HO_981002, HO_987002, HO_993002, BK980, BK986, BK992, HB⟩ := hcut
            cases kq with
            | zero => exact absurd HA.out (by simp [laws_FnTurned.j1])
            | succ kj38 =>
              have H := HA.out
              clear HA
              simp only [laws_FnTurned.j1] at H
              by_cases c67 : x51_38 = true
              · subst c67
                have H1 : (some false) = some r := by rw [if_pos rfl] at H; exact H
                clear H
                have H := H1
                clear H1
                exact absurd ((Option.some.inj H).trans hT.out) (by decide)
              · replace c67 := Bool.eq_false_iff.mpr c67
                subst c67
                have H1 : ((impl_SumInk.f kj38 t981 t982 t983).bind fun t1031 => ((laws_total.f kj38 t977).bind fun t1032 => (if t1031 = t1032 then ((impl_SumInk.f kj38 t987 t988 t989).bind fun t1033 => ((laws_total.f kj38 t977).bind fun t1034 => (if t1033 = t1034 then ((impl_CountInk.f kj38 t981 t982 t983 0).bind fun t1035 => ((impl_CountInk.f kj38 t975 t976 t977 0).bind fun t1036 => (some (t1035 == t1036)))) else (some false)))) else (some false)))) = some r := by rw [if_neg (show ¬ (false = true) by decide)] at H; exact H
                clear H
                have H := H1
                clear H1
                replace H := Option.bind_eq_some_iff.mp H
                obtain ⟨t1031, A680, H⟩ := H
                replace H : ((laws_total.f kj38 t977).bind fun t1032 => (if t1031 = t1032 then ((impl_SumInk.f kj38 t987 t988 t989).bind fun t1033 => ((laws_total.f kj38 t977).bind fun t1034 => (if t1033 = t1034 then ((impl_CountInk.f kj38 t981 t982 t983 0).bind fun t1035 => ((impl_CountInk.f kj38 t975 t976 t977 0).bind fun t1036 => (some (t1035 == t1036)))) else (some false)))) else (some false))) = some r := H
                have A68 := Aside0.mk A680
                clear A680
                replace H := Option.bind_eq_some_iff.mp H
                obtain ⟨t1032, A690, H⟩ := H
                replace H : (if t1031 = t1032 then ((impl_SumInk.f kj38 t987 t988 t989).bind fun t1033 => ((laws_total.f kj38 t977).bind fun t1034 => (if t1033 = t1034 then ((impl_CountInk.f kj38 t981 t982 t983 0).bind fun t1035 => ((impl_CountInk.f kj38 t975 t976 t977 0).bind fun t1036 => (some (t1035 == t1036)))) else (some false)))) else (some false)) = some r := H
                have A69 := Aside0.mk A690
                clear A690
                by_cases c70 : t1031 = t1032
                · rw [if_pos c70] at H
                  have c70b0 : (t1031 == t1032) = true := beq_iff_eq.mpr c70
                  have c70b1 : (t1031 != t1032) = false := bne_eq_false_iff_eq.mpr c70
                  clear c70
                  replace H := Option.bind_eq_some_iff.mp H
                  obtain ⟨t1033, A710, H⟩ := H
                  replace H : ((laws_total.f kj38 t977).bind fun t1034 => (if t1033 = t1034 then ((impl_CountInk.f kj38 t981 t982 t983 0).bind fun t1035 => ((impl_CountInk.f kj38 t975 t976 t977 0).bind fun t1036 => (some (t1035 == t1036)))) else (some false))) = some r := H
                  have A71 := Aside0.mk A710
                  clear A710
                  replace H := Option.bind_eq_some_iff.mp H
                  obtain ⟨t1034, A720, H⟩ := H
                  replace H : (if t1033 = t1034 then ((impl_CountInk.f kj38 t981 t982 t983 0).bind fun t1035 => ((impl_CountInk.f kj38 t975 t976 t977 0).bind fun t1036 => (some (t1035 == t1036)))) else (some false)) = some r := H
                  have A72 := Aside0.mk A720
                  clear A720
                  by_cases c73 : t1033 = t1034
                  · rw [if_pos c73] at H
                    have c73b0 : (t1033 == t1034) = true := beq_iff_eq.mpr c73
                    have c73b1 : (t1033 != t1034) = false := bne_eq_false_iff_eq.mpr c73
                    clear c73
                    replace H := Option.bind_eq_some_iff.mp H
                    obtain ⟨t1035, A740, H⟩ := H
                    replace H : ((impl_CountInk.f kj38 t975 t976 t977 0).bind fun t1036 => (some (t1035 == t1036))) = some r := H
                    have A74 := Aside0.mk A740
                    clear A740
                    replace H := Option.bind_eq_some_iff.mp H
                    obtain ⟨t1036, A750, H⟩ := H
                    replace H : (some (t1035 == t1036)) = some r := H
                    have A75 := Aside0.mk A750
                    clear A750
                    obtain rfl := Option.some.inj H
                    try go_wp2
                    have n0_ := Aside0.mk (Kd.R_drew HO_981002.out)
                    have n1_ := Aside0.mk (Kd.R_drew HO_987002.out)
                    have n2_ := Aside0.mk (Kd.R_drew HO_993002.out)
                    have n3_ := Aside0.mk (blk_drew BK980.out)
                    have n4_ := Aside0.mk (blk_drew BK986.out)
                    have n5_ := Aside0.mk (blk_drew BK992.out)
                    have n6_ := Aside0.mk (below_drew1 HB.out)
                    clear HO_981002
                    clear HO_987002
                    clear HO_993002
                    clear BK980
                    clear BK986
                    clear BK992
                    clear HB
                    have HO_981002 := n0_
                    have HO_987002 := n1_
                    have HO_993002 := n2_
                    have BK980 := n3_
                    have BK986 := n4_
                    have BK992 := n5_
                    have HB := n6_
                    clear n0_ n1_ n2_ n3_ n4_ n5_ n6_
                    refine start_ (n := 22) (S := fun w' => w'.cell? ⟨gb986, 0, none⟩ = some (.int .i64 t981) ∧ w'.cell? ⟨gb986, 1, none⟩ = some (.int .i64 t982) ∧ w'.cell? ⟨gb986, 2, none⟩ = some (.slice Ao15 t983.length co15) ∧ w'.cell? ⟨gb980, 0, none⟩ = some (.int .i64 t975) ∧ w'.cell? ⟨gb980, 1, none⟩ = some (.int .i64 t976) ∧ w'.cell? ⟨gb980, 2, none⟩ = some (.slice Ao10 t977.length co10) ∧ w'.cell? ⟨gb992, 0, none⟩ = some (.int .i64 t987) ∧ w'.cell? ⟨gb992, 1, none⟩ = some (.int .i64 t988) ∧ w'.cell? ⟨gb992, 2, none⟩ = some (.slice Ao21 t989.length co21)) (ds := []) #[false, false, false, false, false, false, false, false, false, false, false, false, false, false, false, false, false, false, false, false, false, false] (by kernel_rfl) rfl rfl ⟨(blk_cell BK986.out 0).trans rfl, (blk_cell BK986.out 1).trans rfl, (blk_cell BK986.out 2).trans rfl, (blk_cell BK980.out 0).trans rfl, (blk_cell BK980.out 1).trans rfl, (blk_cell BK980.out 2).trans rfl, (blk_cell BK992.out 0).trans rfl, (blk_cell BK992.out 1).trans rfl, (blk_cell BK992.out 2).trans rfl⟩ (fun hHeld => ?_); refine with_tabW laws_FnTurned.tab10 laws_FnTurned.bits10 (fun HT_ HW_ => ?_)
                    generalize wc.drew = w76 at HO_981002 HO_987002 HO_993002 BK980 BK986 BK992 HB hHeld ⊢
                    refine pure_ (i := 2) (N := some 54) (v := ?_) (a' := ?_) #[false, false, true, false, false, false, false, false, false, false, false, false, false, false, false, false, false, false, false, false, false, false] rfl rfl (any_of HT_.out (by kernel_rfl)) (fun _ _ _ h => h) (Or.inl ⟨by rfl, ?_⟩) ?_ ?_
                    rotate_left
                    · intro w'
                      go_simp
                      with_reducible rfl
                    rotate_left
                    · simp only [Act.put, List.setIfInBounds_toArray, List.set_cons_zero, List.set_cons_succ, i64_w, i32_w]
                      rfl
                    refine take_ (i := 0) (N := some 52) (v := ?_) (a' := ?_) #[true, false, true, false, false, false, false, false, false, false, false, false, false, false, false, false, false, false, false, false, false, false] rfl rfl (take_ofW HT_.out HW_.out (by kernel_rfl)) (fun _ _ _ h => h) (Or.inl ⟨by rfl, ?_⟩) hHeld ?_ ?_
                    rotate_left
                    · rintro w' ⟨s0, s1, s2, s3, s4, s5, s6, s7, s8⟩
                      go_simp
                      with_reducible rfl
                    rotate_left
                    · simp only [Act.put, List.setIfInBounds_toArray, List.set_cons_zero, List.set_cons_succ, i64_w, i32_w]
                      rfl
                    refine take_ (i := 3) (N := some 55) (v := ?_) (a' := ?_) #[true, false, true, true, false, false, false, false, false, false, false, false, false, false, false, false, false, false, false, false, false, false] rfl rfl (take_ofW HT_.out HW_.out (by kernel_rfl)) (fun _ _ _ h => h) (Or.inl ⟨by rfl, ?_⟩) hHeld ?_ ?_
                    rotate_left
                    · rintro w' ⟨s0, s1, s2, s3, s4, s5, s6, s7, s8⟩
                      go_simp
                      with_reducible rfl
                    rotate_left
                    · simp only [Act.put, List.setIfInBounds_toArray, List.set_cons_zero, List.set_cons_succ, i64_w, i32_w]
                      rfl
                    refine one_ (i := 1) (N := some 53) #[true, true, true, true, false, false, false, false, false, false, false, false, false, false, false, false, false, false, false, false, false, false] rfl rfl (one_of HT_.out (by kernel_rfl)) (by decide) (fun K hK => ?_)
                    refine goes_ Try.func76 (by kernel_rfl) rfl #[.agg #[.int .i64 t981, .int .i64 t982, .slice Ao15 t983.length co15]] (by rfl) rfl rfl (by (try simp only [List.map_toArray, List.map_cons, List.map_nil]); first | done | rfl | (simp only [List.length_drop, List.length_take]; rfl)) ?_
                    with_reducible refine (impl_SumInk.calls kj38 t981 t982 _ _ t983 t1031 _ ?side1 ?side2 A68.out).mono ?_
                    (case side1 => repeat (first | exact (Kd.R_reads' HO_987002.out).2.2 | (with_reducible refine Kd.C_alloc ?_ _) | (with_reducible refine Kd.C_drewN ?_ _) | (with_reducible refine Kd.C_drew ?_)))
                    (case side2 => exact (Kd.R_reads' HO_987002.out).2.1)
                    rintro e w77 ⟨rfl, hb⟩
                    refine ⟨_, rfl, ?_⟩
                    have n0_ := Aside0.mk (Kd.R_below (by (with_reducible repeat (first | apply Kd.R_alloc | apply Kd.R_drewN | apply Kd.R_drew)); exact HO_981002.out) hb)
                    have n1_ := Aside0.mk (Kd.R_below (by (with_reducible repeat (first | apply Kd.R_alloc | apply Kd.R_drewN | apply Kd.R_drew)); exact HO_987002.out) hb)
                    have n2_ := Aside0.mk (Kd.R_below (by (with_reducible repeat (first | apply Kd.R_alloc | apply Kd.R_drewN | apply Kd.R_drew)); exact HO_993002.out) hb)
                    have n3_ := Aside0.mk (blk_below (g := gb980) (o := .cells #[.int .i64 t975, .int .i64 t976, .slice Ao10 t977.length co10] 37 (0, 0)) (by (with_reducible repeat (first | refine blk_drewN ?_ _ | refine blk_drew ?_ | refine blk_alloc ?_ _)); exact BK980.out) hb)
                    have n4_ := Aside0.mk (blk_below (g := gb986) (o := .cells #[.int .i64 t981, .int .i64 t982, .slice Ao15 t983.length co15] 37 (0, 0)) (by (with_reducible repeat (first | refine blk_drewN ?_ _ | refine blk_drew ?_ | refine blk_alloc ?_ _)); exact BK986.out) hb)
                    have n5_ := Aside0.mk (blk_below (g := gb992) (o := .cells #[.int .i64 t987, .int .i64 t988, .slice Ao21 t989.length co21] 37 (0, 0)) (by (with_reducible repeat (first | refine blk_drewN ?_ _ | refine blk_drew ?_ | refine blk_alloc ?_ _)); exact BK992.out) hb)
                    have n6_ := Aside0.mk (below_step (by repeat (first | (with_reducible first | exact HB.out | apply below_alloc | apply pw_below_drewN | apply below_drew1 | refine below_set ?_ GE980.out | refine below_set ?_ GE986.out | refine below_set ?_ GE992.out) | exact HB.out)) hb)
                    clear HO_981002
                    clear HO_987002
                    clear HO_993002
                    clear BK980
                    clear BK986
                    clear BK992
                    clear HB
                    have HO_981002 := n0_
                    have HO_987002 := n1_
                    have HO_993002 := n2_
                    have BK980 := n3_
                    have BK986 := n4_
                    have BK992 := n5_
                    have HB := n6_
                    clear n0_ n1_ n2_ n3_ n4_ n5_ n6_
                    (try clear hb)
                    (try clear hb2)
                    (try clear hk)
                    (try clear hi)
                    refine hK.out _ _ ⟨(blk_cell BK986.out 0).trans rfl, (blk_cell BK986.out 1).trans rfl, (blk_cell BK986.out 2).trans rfl, (blk_cell BK980.out 0).trans rfl, (blk_cell BK980.out 1).trans rfl, (blk_cell BK980.out 2).trans rfl, (blk_cell BK992.out 0).trans rfl, (blk_cell BK992.out 1).trans rfl, (blk_cell BK992.out 2).trans rfl⟩ (fun hHeld => ?_)
                    clear hK K
                    refine norm_ (a' := ?_) ?_ ?_
                    rotate_left
                    · show Act.put _ (some 53) _ = _
                      simp only [Act.put, List.setIfInBounds_toArray, List.set_cons_zero, List.set_cons_succ, i64_w, i32_w]
                      rfl
                    refine one_ (i := 4) (N := some 56) #[true, true, true, true, true, false, false, false, false, false, false, false, false, false, false, false, false, false, false, false, false, false] rfl rfl (one_of HT_.out (by kernel_rfl)) (by decide) (fun K hK => ?_)
                    refine goes_ Try.func55 (by kernel_rfl) rfl #[.slice Ao10 t977.length co10] (by rfl) rfl rfl (by (try simp only [List.map_toArray, List.map_cons, List.map_nil]); first | done | rfl | (simp only [List.length_drop, List.length_take]; rfl)) ?_
                    with_reducible refine (laws_total.calls kj38 _ _ t977 t1032 _ ?side1 ?side2 A69.out).mono ?_
                    (case side1 => repeat (first | exact (Kd.R_reads' HO_981002.out).2.2 | (with_reducible refine Kd.C_alloc ?_ _) | (with_reducible refine Kd.C_drewN ?_ _) | (with_reducible refine Kd.C_drew ?_)))
                    (case side2 => exact (Kd.R_reads' HO_981002.out).2.1)
                    rintro e w' ⟨rfl, ⟨nd, rfl⟩⟩
                    refine ⟨_, rfl, ?_⟩
                    refine hK.out _ _ ⟨(blk_cell BK986.out 0).trans rfl, (blk_cell BK986.out 1).trans rfl, (blk_cell BK986.out 2).trans rfl, (blk_cell BK980.out 0).trans rfl, (blk_cell BK980.out 1).trans rfl, (blk_cell BK980.out 2).trans rfl, (blk_cell BK992.out 0).trans rfl, (blk_cell BK992.out 1).trans rfl, (blk_cell BK992.out 2).trans rfl⟩ (fun hHeld => ?_)
                    clear hK K
                    refine norm_ (a' := ?_) ?_ ?_
                    rotate_left
                    · show Act.put _ (some 56) _ = _
                      simp only [Act.put, List.setIfInBounds_toArray, List.set_cons_zero, List.set_cons_succ, i64_w, i32_w]
                      rfl
                    refine pure_ (i := 5) (N := some 57) (v := ?_) (a' := ?_) #[true, true, true, true, true, true, false, false, false, false, false, false, false, false, false, false, false, false, false, false, false, false] rfl rfl (any_of HT_.out (by kernel_rfl)) (fun _ _ _ h => h) (Or.inl ⟨by rfl, ?_⟩) ?_ ?_
                    rotate_left
                    · intro w'
                      go_simp
                      with_reducible rfl
                    rotate_left
                    · simp only [Act.put, List.setIfInBounds_toArray, List.set_cons_zero, List.set_cons_succ, i64_w, i32_w]
                      rfl
                    refine pure_ (i := 6) (N := some 58) (v := ?_) (a' := ?_) #[true, true, true, true, true, true, true, false, false, false, false, false, false, false, false, false, false, false, false, false, false, false] rfl rfl (any_of HT_.out (by kernel_rfl)) (fun _ _ _ h => h) (Or.inl ⟨by rfl, ?_⟩) ?_ ?_
                    rotate_left
                    · intro w'
                      go_simp
                      with_reducible rfl
                    rotate_left
                    · simp only [Act.put, List.setIfInBounds_toArray, List.set_cons_zero, List.set_cons_succ, i64_w, i32_w]
                      rfl
                    refine pure_ (i := 9) (N := some 61) (v := ?_) (a' := ?_) #[true, true, true, true, true, true, true, false, false, true, false, false, false, false, false, false, false, false, false, false, false, false] rfl rfl (any_of HT_.out (by kernel_rfl)) (fun _ _ _ h => h) (Or.inl ⟨by rfl, ?_⟩) ?_ ?_
                    rotate_left
                    · intro w'
                      go_simp
                      with_reducible rfl
                    rotate_left
                    · simp only [Act.put, List.setIfInBounds_toArray, List.set_cons_zero, List.set_cons_succ, i64_w, i32_w]
                      rfl
                    refine take_ (i := 7) (N := some 59) (v := ?_) (a' := ?_) #[true, true, true, true, true, true, true, true, false, true, false, false, false, false, false, false, false, false, false, false, false, false] rfl rfl (take_ofW HT_.out HW_.out (by kernel_rfl)) (fun _ _ _ h => h) (Or.inl ⟨by rfl, ?_⟩) hHeld ?_ ?_
                    rotate_left
                    · rintro w' ⟨s0, s1, s2, s3, s4, s5, s6, s7, s8⟩
                      go_simp
                      with_reducible rfl
                    rotate_left
                    · simp only [Act.put, List.setIfInBounds_toArray, List.set_cons_zero, List.set_cons_succ, i64_w, i32_w]
                      rfl
                    refine take_ (i := 10) (N := some 62) (v := ?_) (a' := ?_) #[true, true, true, true, true, true, true, true, false, true, true, false, false, false, false, false, false, false, false, false, false, false] rfl rfl (take_ofW HT_.out HW_.out (by kernel_rfl)) (fun _ _ _ h => h) (Or.inl ⟨by rfl, ?_⟩) hHeld ?_ ?_
                    rotate_left
                    · rintro w' ⟨s0, s1, s2, s3, s4, s5, s6, s7, s8⟩
                      go_simp
                      with_reducible rfl
                    rotate_left
                    · simp only [Act.put, List.setIfInBounds_toArray, List.set_cons_zero, List.set_cons_succ, i64_w, i32_w]
                      rfl
                    refine one_ (i := 8) (N := some 60) #[true, true, true, true, true, true, true, true, true, true, true, false, false, false, false, false, false, false, false, false, false, false] rfl rfl (one_of HT_.out (by kernel_rfl)) (by decide) (fun K hK => ?_)
                    refine goes_ Try.func76 (by kernel_rfl) rfl #[.agg #[.int .i64 t987, .int .i64 t988, .slice Ao21 t989.length co21]] (by rfl) rfl rfl (by (try simp only [List.map_toArray, List.map_cons, List.map_nil]); first | done | rfl | (simp only [List.length_drop, List.length_take]; rfl)) ?_
                    with_reducible refine (impl_SumInk.calls kj38 t987 t988 _ _ t989 t1033 _ ?side1 ?side2 A71.out).mono ?_
                    (case side1 => repeat (first | exact (Kd.R_reads' HO_993002.out).2.2 | (with_reducible refine Kd.C_alloc ?_ _) | (with_reducible refine Kd.C_drewN ?_ _) | (with_reducible refine Kd.C_drew ?_)))
                    (case side2 => exact (Kd.R_reads' HO_993002.out).2.1)
                    rintro e w78 ⟨rfl, hb⟩
                    refine ⟨_, rfl, ?_⟩
                    have n0_ := Aside0.mk (Kd.R_below (by (with_reducible repeat (first | apply Kd.R_alloc | apply Kd.R_drewN | apply Kd.R_drew)); exact HO_981002.out) hb)
                    have n1_ := Aside0.mk (Kd.R_below (by (with_reducible repeat (first | apply Kd.R_alloc | apply Kd.R_drewN | apply Kd.R_drew)); exact HO_987002.out) hb)
                    have n2_ := Aside0.mk (Kd.R_below (by (with_reducible repeat (first | apply Kd.R_alloc | apply Kd.R_drewN | apply Kd.R_drew)); exact HO_993002.out) hb)
                    have n3_ := Aside0.mk (blk_below (g := gb980) (o := .cells #[.int .i64 t975, .int .i64 t976, .slice Ao10 t977.length co10] 37 (0, 0)) (by (with_reducible repeat (first | refine blk_drewN ?_ _ | refine blk_drew ?_ | refine blk_alloc ?_ _)); exact BK980.out) hb)
                    have n4_ := Aside0.mk (blk_below (g := gb986) (o := .cells #[.int .i64 t981, .int .i64 t982, .slice Ao15 t983.length co15] 37 (0, 0)) (by (with_reducible repeat (first | refine blk_drewN ?_ _ | refine blk_drew ?_ | refine blk_alloc ?_ _)); exact BK986.out) hb)
                    have n5_ := Aside0.mk (blk_below (g := gb992) (o := .cells #[.int .i64 t987, .int .i64 t988, .slice Ao21 t989.length co21] 37 (0, 0)) (by (with_reducible repeat (first | refine blk_drewN ?_ _ | refine blk_drew ?_ | refine blk_alloc ?_ _)); exact BK992.out) hb)
                    have n6_ := Aside0.mk (below_step (by repeat (first | (with_reducible first | exact HB.out | apply below_alloc | apply pw_below_drewN | apply below_drew1 | refine below_set ?_ GE980.out | refine below_set ?_ GE986.out | refine below_set ?_ GE992.out) | exact HB.out)) hb)
                    clear HO_981002
                    clear HO_987002
                    clear HO_993002
                    clear BK980
                    clear BK986
                    clear BK992
                    clear HB
                    have HO_981002 := n0_
                    have HO_987002 := n1_
                    have HO_993002 := n2_
                    have BK980 := n3_
                    have BK986 := n4_
                    have BK992 := n5_
                    have HB := n6_
                    clear n0_ n1_ n2_ n3_ n4_ n5_ n6_
                    (try clear hb)
                    (try clear hb2)
                    (try clear hk)
                    (try clear hi)
                    refine hK.out _ _ ⟨(blk_cell BK986.out 0).trans rfl, (blk_cell BK986.out 1).trans rfl, (blk_cell BK986.out 2).trans rfl, (blk_cell BK980.out 0).trans rfl, (blk_cell BK980.out 1).trans rfl, (blk_cell BK980.out 2).trans rfl, (blk_cell BK992.out 0).trans rfl, (blk_cell BK992.out 1).trans rfl, (blk_cell BK992.out 2).trans rfl⟩ (fun hHeld => ?_)
                    clear hK K
                    refine norm_ (a' := ?_) ?_ ?_
                    rotate_left
                    · show Act.put _ (some 60) _ = _
                      simp only [Act.put, List.setIfInBounds_toArray, List.set_cons_zero, List.set_cons_succ, i64_w, i32_w]
                      rfl
                    refine one_ (i := 11) (N := some 63) #[true, true, true, true, true, true, true, true, true, true, true, true, false, false, false, false, false, false, false, false, false, false] rfl rfl (one_of HT_.out (by kernel_rfl)) (by decide) (fun K hK => ?_)
                    refine goes_ Try.func55 (by kernel_rfl) rfl #[.slice Ao10 t977.length co10] (by rfl) rfl rfl (by (try simp only [List.map_toArray, List.map_cons, List.map_nil]); first | done | rfl | (simp only [List.length_drop, List.length_take]; rfl)) ?_
                    with_reducible refine (laws_total.calls kj38 _ _ t977 t1034 _ ?side1 ?side2 A72.out).mono ?_
                    (case side1 => repeat (first | exact (Kd.R_reads' HO_981002.out).2.2 | (with_reducible refine Kd.C_alloc ?_ _) | (with_reducible refine Kd.C_drewN ?_ _) | (with_reducible refine Kd.C_drew ?_)))
                    (case side2 => exact (Kd.R_reads' HO_981002.out).2.1)
                    rintro e w' ⟨rfl, ⟨nd, rfl⟩⟩
                    refine ⟨_, rfl, ?_⟩
                    refine hK.out _ _ ⟨(blk_cell BK986.out 0).trans rfl, (blk_cell BK986.out 1).trans rfl, (blk_cell BK986.out 2).trans rfl, (blk_cell BK980.out 0).trans rfl, (blk_cell BK980.out 1).trans rfl, (blk_cell BK980.out 2).trans rfl, (blk_cell BK992.out 0).trans rfl, (blk_cell BK992.out 1).trans rfl, (blk_cell BK992.out 2).trans rfl⟩ (fun hHeld => ?_)
                    clear hK K
                    refine norm_ (a' := ?_) ?_ ?_
                    rotate_left
                    · show Act.put _ (some 63) _ = _
                      simp only [Act.put, List.setIfInBounds_toArray, List.set_cons_zero, List.set_cons_succ, i64_w, i32_w]
                      rfl
                    refine pure_ (i := 12) (N := some 64) (v := ?_) (a' := ?_) #[true, true, true, true, true, true, true, true, true, true, true, true, true, false, false, false, false, false, false, false, false, false] rfl rfl (any_of HT_.out (by kernel_rfl)) (fun _ _ _ h => h) (Or.inl ⟨by rfl, ?_⟩) ?_ ?_
                    rotate_left
                    · intro w'
                      go_simp
                      with_reducible rfl
                    rotate_left
                    · simp only [Act.put, List.setIfInBounds_toArray, List.set_cons_zero, List.set_cons_succ, i64_w, i32_w]
                      rfl
                    refine pure_ (i := 13) (N := some 65) (v := ?_) (a' := ?_) #[true, true, true, true, true, true, true, true, true, true, true, true, true, true, false, false, false, false, false, false, false, false] rfl rfl (any_of HT_.out (by kernel_rfl)) (fun _ _ _ h => h) (Or.inl ⟨by rfl, ?_⟩) ?_ ?_
                    rotate_left
                    · intro w'
                      go_simp
                      with_reducible rfl
                    rotate_left
                    · simp only [Act.put, List.setIfInBounds_toArray, List.set_cons_zero, List.set_cons_succ, i64_w, i32_w]
                      rfl
                    refine pure_ (i := 14) (N := some 66) (v := ?_) (a' := ?_) #[true, true, true, true, true, true, true, true, true, true, true, true, true, true, true, false, false, false, false, false, false, false] rfl rfl (any_of HT_.out (by kernel_rfl)) (fun _ _ _ h => h) (Or.inl ⟨by rfl, ?_⟩) ?_ ?_
                    rotate_left
                    · intro w'
                      go_simp
                      with_reducible rfl
                    rotate_left
                    · simp only [Act.put, List.setIfInBounds_toArray, List.set_cons_zero, List.set_cons_succ, i64_w, i32_w]
                      rfl
                    refine take_ (i := 15) (N := some 67) (v := ?_) (a' := ?_) #[true, true, true, true, true, true, true, true, true, true, true, true, true, true, true, true, false, false, false, false, false, false] rfl rfl (take_ofW HT_.out HW_.out (by kernel_rfl)) (fun _ _ _ h => h) (Or.inl ⟨by rfl, ?_⟩) hHeld ?_ ?_
                    rotate_left
                    · rintro w' ⟨s0, s1, s2, s3, s4, s5, s6, s7, s8⟩
                      go_simp
                      with_reducible rfl
                    rotate_left
                    · simp only [Act.put, List.setIfInBounds_toArray, List.set_cons_zero, List.set_cons_succ, i64_w, i32_w]
                      rfl
                    refine take_ (i := 17) (N := some 69) (v := ?_) (a' := ?_) #[true, true, true, true, true, true, true, true, true, true, true, true, true, true, true, true, false, true, false, false, false, false] rfl rfl (take_ofW HT_.out HW_.out (by kernel_rfl)) (fun _ _ _ h => h) (Or.inl ⟨by rfl, ?_⟩) hHeld ?_ ?_
                    rotate_left
                    · rintro w' ⟨s0, s1, s2, s3, s4, s5, s6, s7, s8⟩
                      go_simp
                      with_reducible rfl
                    rotate_left
                    · simp only [Act.put, List.setIfInBounds_toArray, List.set_cons_zero, List.set_cons_succ, i64_w, i32_w]
                      rfl
                    refine one_ (i := 16) (N := some 68) #[true, true, true, true, true, true, true, true, true, true, true, true, true, true, true, true, true, true, false, false, false, false] rfl rfl (one_of HT_.out (by kernel_rfl)) (by decide) (fun K hK => ?_)
                    refine goes_ Try.func70 (by kernel_rfl) rfl #[.agg #[.int .i64 t981, .int .i64 t982, .slice Ao15 t983.length co15], .int .i64 0] (by rfl) rfl rfl (by (try simp only [List.map_toArray, List.map_cons, List.map_nil]); first | done | rfl | (simp only [List.length_drop, List.length_take]; rfl)) ?_
                    with_reducible refine (impl_CountInk.calls kj38 t981 t982 _ _ t983 0 t1035 _ ?side1 ?side2 A74.out).mono ?_
                    (case side1 => repeat (first | exact (Kd.R_reads' HO_987002.out).2.2 | (with_reducible refine Kd.C_alloc ?_ _) | (with_reducible refine Kd.C_drewN ?_ _) | (with_reducible refine Kd.C_drew ?_)))
                    (case side2 => exact (Kd.R_reads' HO_987002.out).2.1)
                    rintro e w79 ⟨rfl, hb⟩
                    refine ⟨_, rfl, ?_⟩
                    have n0_ := Aside0.mk (Kd.R_below (by (with_reducible repeat (first | apply Kd.R_alloc | apply Kd.R_drewN | apply Kd.R_drew)); exact HO_981002.out) hb)
                    have n1_ := Aside0.mk (Kd.R_below (by (with_reducible repeat (first | apply Kd.R_alloc | apply Kd.R_drewN | apply Kd.R_drew)); exact HO_987002.out) hb)
                    have n2_ := Aside0.mk (Kd.R_below (by (with_reducible repeat (first | apply Kd.R_alloc | apply Kd.R_drewN | apply Kd.R_drew)); exact HO_993002.out) hb)
                    have n3_ := Aside0.mk (blk_below (g := gb980) (o := .cells #[.int .i64 t975, .int .i64 t976, .slice Ao10 t977.length co10] 37 (0, 0)) (by (with_reducible repeat (first | refine blk_drewN ?_ _ | refine blk_drew ?_ | refine blk_alloc ?_ _)); exact BK980.out) hb)
                    have n4_ := Aside0.mk (blk_below (g := gb986) (o := .cells #[.int .i64 t981, .int .i64 t982, .slice Ao15 t983.length co15] 37 (0, 0)) (by (with_reducible repeat (first | refine blk_drewN ?_ _ | refine blk_drew ?_ | refine blk_alloc ?_ _)); exact BK986.out) hb)
                    have n5_ := Aside0.mk (blk_below (g := gb992) (o := .cells #[.int .i64 t987, .int .i64 t988, .slice Ao21 t989.length co21] 37 (0, 0)) (by (with_reducible repeat (first | refine blk_drewN ?_ _ | refine blk_drew ?_ | refine blk_alloc ?_ _)); exact BK992.out) hb)
                    have n6_ := Aside0.mk (below_step (by repeat (first | (with_reducible first | exact HB.out | apply below_alloc | apply pw_below_drewN | apply below_drew1 | refine below_set ?_ GE980.out | refine below_set ?_ GE986.out | refine below_set ?_ GE992.out) | exact HB.out)) hb)
                    clear HO_981002
                    clear HO_987002
                    clear HO_993002
                    clear BK980
                    clear BK986
                    clear BK992
                    clear HB
                    have HO_981002 := n0_
                    have HO_987002 := n1_
                    have HO_993002 := n2_
                    have BK980 := n3_
                    have BK986 := n4_
                    have BK992 := n5_
                    have HB := n6_
                    clear n0_ n1_ n2_ n3_ n4_ n5_ n6_
                    (try clear hb)
                    (try clear hb2)
                    (try clear hk)
                    (try clear hi)
                    refine hK.out _ _ ⟨(blk_cell BK986.out 0).trans rfl, (blk_cell BK986.out 1).trans rfl, (blk_cell BK986.out 2).trans rfl, (blk_cell BK980.out 0).trans rfl, (blk_cell BK980.out 1).trans rfl, (blk_cell BK980.out 2).trans rfl, (blk_cell BK992.out 0).trans rfl, (blk_cell BK992.out 1).trans rfl, (blk_cell BK992.out 2).trans rfl⟩ (fun hHeld => ?_)
                    clear hK K
                    refine norm_ (a' := ?_) ?_ ?_
                    rotate_left
                    · show Act.put _ (some 68) _ = _
                      simp only [Act.put, List.setIfInBounds_toArray, List.set_cons_zero, List.set_cons_succ, i64_w, i32_w]
                      rfl
                    refine one_ (i := 18) (N := some 70) #[true, true, true, true, true, true, true, true, true, true, true, true, true, true, true, true, true, true, true, false, false, false] rfl rfl (one_of HT_.out (by kernel_rfl)) (by decide) (fun K hK => ?_)
                    refine goes_ Try.func70 (by kernel_rfl) rfl #[.agg #[.int .i64 t975, .int .i64 t976, .slice Ao10 t977.length co10], .int .i64 0] (by rfl) rfl rfl (by (try simp only [List.map_toArray, List.map_cons, List.map_nil]); first | done | rfl | (simp only [List.length_drop, List.length_take]; rfl)) ?_
                    with_reducible refine (impl_CountInk.calls kj38 t975 t976 _ _ t977 0 t1036 _ ?side1 ?side2 A75.out).mono ?_
                    (case side1 => repeat (first | exact (Kd.R_reads' HO_981002.out).2.2 | (with_reducible refine Kd.C_alloc ?_ _) | (with_reducible refine Kd.C_drewN ?_ _) | (with_reducible refine Kd.C_drew ?_)))
                    (case side2 => exact (Kd.R_reads' HO_981002.out).2.1)
                    rintro e w80 ⟨rfl, hb⟩
                    refine ⟨_, rfl, ?_⟩
                    have n0_ := Aside0.mk (Kd.R_below (by (with_reducible repeat (first | apply Kd.R_alloc | apply Kd.R_drewN | apply Kd.R_drew)); exact HO_981002.out) hb)
                    have n1_ := Aside0.mk (Kd.R_below (by (with_reducible repeat (first | apply Kd.R_alloc | apply Kd.R_drewN | apply Kd.R_drew)); exact HO_987002.out) hb)
                    have n2_ := Aside0.mk (Kd.R_below (by (with_reducible repeat (first | apply Kd.R_alloc | apply Kd.R_drewN | apply Kd.R_drew)); exact HO_993002.out) hb)
                    have n3_ := Aside0.mk (blk_below (g := gb980) (o := .cells #[.int .i64 t975, .int .i64 t976, .slice Ao10 t977.length co10] 37 (0, 0)) (by (with_reducible repeat (first | refine blk_drewN ?_ _ | refine blk_drew ?_ | refine blk_alloc ?_ _)); exact BK980.out) hb)
                    have n4_ := Aside0.mk (blk_below (g := gb986) (o := .cells #[.int .i64 t981, .int .i64 t982, .slice Ao15 t983.length co15] 37 (0, 0)) (by (with_reducible repeat (first | refine blk_drewN ?_ _ | refine blk_drew ?_ | refine blk_alloc ?_ _)); exact BK986.out) hb)
                    have n5_ := Aside0.mk (blk_below (g := gb992) (o := .cells #[.int .i64 t987, .int .i64 t988, .slice Ao21 t989.length co21] 37 (0, 0)) (by (with_reducible repeat (first | refine blk_drewN ?_ _ | refine blk_drew ?_ | refine blk_alloc ?_ _)); exact BK992.out) hb)
                    have n6_ := Aside0.mk (below_step (by repeat (first | (with_reducible first | exact HB.out | apply below_alloc | apply pw_below_drewN | apply below_drew1 | refine below_set ?_ GE980.out | refine below_set ?_ GE986.out | refine below_set ?_ GE992.out) | exact HB.out)) hb)
                    clear HO_981002
                    clear HO_987002
                    clear HO_993002
                    clear BK980
                    clear BK986
                    clear BK992
                    clear HB
                    have HO_981002 := n0_
                    have HO_987002 := n1_
                    have HO_993002 := n2_
                    have BK980 := n3_
                    have BK986 := n4_
                    have BK992 := n5_
                    have HB := n6_
                    clear n0_ n1_ n2_ n3_ n4_ n5_ n6_
                    (try clear hb)
                    (try clear hb2)
                    (try clear hk)
                    (try clear hi)
                    refine hK.out _ _ ⟨(blk_cell BK986.out 0).trans rfl, (blk_cell BK986.out 1).trans rfl, (blk_cell BK986.out 2).trans rfl, (blk_cell BK980.out 0).trans rfl, (blk_cell BK980.out 1).trans rfl, (blk_cell BK980.out 2).trans rfl, (blk_cell BK992.out 0).trans rfl, (blk_cell BK992.out 1).trans rfl, (blk_cell BK992.out 2).trans rfl⟩ (fun hHeld => ?_)
                    clear hK K
                    refine norm_ (a' := ?_) ?_ ?_
                    rotate_left
                    · show Act.put _ (some 70) _ = _
                      simp only [Act.put, List.setIfInBounds_toArray, List.set_cons_zero, List.set_cons_succ, i64_w, i32_w]
                      rfl
                    refine pure_ (i := 19) (N := some 71) (v := ?_) (a' := ?_) #[true, true, true, true, true, true, true, true, true, true, true, true, true, true, true, true, true, true, true, true, false, false] rfl rfl (any_of HT_.out (by kernel_rfl)) (fun _ _ _ h => h) (Or.inl ⟨by rfl, ?_⟩) ?_ ?_
                    rotate_left
                    · intro w'
                      go_simp
                      with_reducible rfl
                    rotate_left
                    · simp only [Act.put, List.setIfInBounds_toArray, List.set_cons_zero, List.set_cons_succ, i64_w, i32_w]
                      rfl
                    refine pure_ (i := 20) (N := some 72) (v := ?_) (a' := ?_) #[true, true, true, true, true, true, true, true, true, true, true, true, true, true, true, true, true, true, true, true, true, false] rfl rfl (any_of HT_.out (by kernel_rfl)) (fun _ _ _ h => h) (Or.inl ⟨by rfl, ?_⟩) ?_ ?_
                    rotate_left
                    · intro w'
                      go_simp
                      with_reducible rfl
                    rotate_left
                    · simp only [Act.put, List.setIfInBounds_toArray, List.set_cons_zero, List.set_cons_succ, i64_w, i32_w]
                      rfl
                    refine pure_ (i := 21) (N := some 2) (v := ?_) (a' := ?_) #[true, true, true, true, true, true, true, true, true, true, true, true, true, true, true, true, true, true, true, true, true, true] rfl rfl (any_of HT_.out (by kernel_rfl)) (fun _ _ _ h => h) (Or.inl ⟨by rfl, ?_⟩) ?_ ?_
                    rotate_left
                    · intro w'
                      go_simp
                      with_reducible rfl
                    rotate_left
                    · simp only [Act.put, List.setIfInBounds_toArray, List.set_cons_zero, List.set_cons_succ, i64_w, i32_w]
                      rfl
                    refine done_ (done_of HT_.out (by kernel_rfl)) ?_
                    try go_wp2
                    go_ret
                    exact ⟨by first | rfl | (simp [errW_none, errW_some] <;> rfl) | (simp [*, errW_none, errW_some] <;> rfl), by repeat (first | (with_reducible first | exact HB.out | apply below_alloc | apply pw_below_drewN | apply below_drew1 | refine below_set ?_ GE980.out | refine below_set ?_ GE986.out | refine below_set ?_ GE992.out) | exact HB.out)⟩
                  · rw [if_neg c73] at H
                    have c73b0 : (t1033 == t1034) = false := beq_eq_false_iff_ne.mpr c73
                    have c73b1 : (t1033 != t1034) = true := bne_iff_ne.mpr c73
                    exact absurd ((Option.some.inj H).trans hT.out) (by decide)
                · rw [if_neg c70] at H
                  have c70b0 : (t1031 == t1032) = false := beq_eq_false_iff_ne.mpr c70
                  have c70b1 : (t1031 != t1032) = true := bne_iff_ne.mpr c70
                  exact absurd ((Option.some.inj H).trans hT.out) (by decide)

end Go.Proofs.Ytbgbbfdmgpcgmaa.P
