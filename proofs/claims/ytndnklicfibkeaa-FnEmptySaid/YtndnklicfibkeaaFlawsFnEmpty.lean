-- Written by tools/seatprint.py (over the kit's print, changed in memory). Not trusted: Lean checks it.
import Derived.Test.YtndnklicfibkeaaP0
import Derived.Test.YtndnklicfibkeaaFspecMakeKernel
import Derived.Test.YtndnklicfibkeaaFspecMakePicture
import Derived.Test.YtndnklicfibkeaaFlawsat
import Derived.Test.YtndnklicfibkeaaFimplDiffusePicture
import Derived.Test.YtndnklicfibkeaaFimplCountInk
import Derived.Test.YtndnklicfibkeaaFimplFlatPicture
namespace Go.Proofs.Ytndnklicfibkeaa.P
open Go.RowKit Go.Proofs.YtndnklicfibkeaaW.PrintWords Go.Proofs.YtndnklicfibkeaaW.PrintLast Go.Proofs.YtndnklicfibkeaaW.PrintMore
attribute [local go_sem] max2_int min2_int max_two min_two max_three min_three max_four min_four   -- for this text's walks alone
set_option linter.unusedVariables false
set_option linter.unusedSimpArgs false

/-! ### laws_FnEmpty: function 6 -/
def laws_FnEmpty.j0 : Nat → List Int → List (S68) → Int → Int → Int → Int → List Int → Option (Bool)
  | 0, _, _, _, _, _, _, _ => none
  | k + 1, x0, x3, x6, x7, x544000, x544001, x544002 => (impl_FlatPicture.f x544000 x544001 x6).bind fun bt545 => ((laws_at.f x0 2).bind fun t552 => ((impl_DiffusePicture.f k x3 bt545.1 bt545.2.1 bt545.2.2.1 ((Int.tmod t552 2) == 1)).bind fun bt553 => (if bt545.2.2.2 = true then (if bt553.2.2.2.2 = true then (if bt553.2.2.2.1 = 0 then ((impl_CountInk.f k bt553.1 bt553.2.1 bt553.2.2.1 x7).bind fun t561 => (some (t561 == (x544002.length : Int)))) else (some false)) else (some false)) else (some false))))
def laws_FnEmpty.f (k : Nat) (l0 : List Int) : Option (Bool) := if (l0.length : Int) > 1048576 then (some true) else ((spec_MakeKernel.f k l0).bind fun t535 => ((spec_MakePicture.f k l0 9).bind fun bt538 => ((laws_at.f l0 1).bind fun t544 => (if (Int.tmod t544 2) = 1 then (laws_FnEmpty.j0 k l0 t535 255 1 bt538.1 bt538.2.1 bt538.2.2) else (laws_FnEmpty.j0 k l0 t535 0 0 bt538.1 bt538.2.1 bt538.2.2)))))
theorem laws_FnEmpty.mono_l : ∀ k, (∀ y0 y1 y2 y3 y4 y5 y6, LeO (laws_FnEmpty.j0 k y0 y1 y2 y3 y4 y5 y6) (laws_FnEmpty.j0 (k + 1) y0 y1 y2 y3 y4 y5 y6))
  | 0 => fun _ _ _ _ _ _ _ r h => by simp [laws_FnEmpty.j0] at h
  | k + 1 => by
    have ih0 := laws_FnEmpty.mono_l k
    · intro y0 y1 y2 y3 y4 y5 y6
      unfold laws_FnEmpty.j0
      repeat' first
      | (with_reducible exact ih0 _ _ _ _ _ _ _)
      | (with_reducible exact impl_CountInk.mono _ _ _ _ _)
      | (with_reducible exact impl_DiffusePicture.mono _ _ _ _ _ _)
      | (with_reducible exact spec_MakeKernel.mono _ _)
      | (with_reducible exact spec_MakePicture.mono _ _ _)
      | (with_reducible exact LeO.refl _)
      | (with_reducible exact LeO.none _)
      | (with_reducible refine LeO.ite ?_ ?_)
      | (with_reducible refine LeO.bind ?_ (fun _ => ?_))
      | exact ih0 _ _ _ _ _ _ _
      | exact impl_CountInk.mono _ _ _ _ _
      | exact impl_DiffusePicture.mono _ _ _ _ _ _
      | exact spec_MakeKernel.mono _ _
      | exact spec_MakePicture.mono _ _ _
      | exact LeO.none _
      | refine LeO.ite ?_ ?_
      | refine LeO.bind ?_ (fun _ => ?_)
theorem laws_FnEmpty.mono : ∀ a0 k, LeO (laws_FnEmpty.f k a0) (laws_FnEmpty.f (k + 1) a0) := by
  intro a0 k
  have ih0 := laws_FnEmpty.mono_l k
  unfold laws_FnEmpty.f
  repeat' first
      | (with_reducible exact ih0 _ _ _ _ _ _ _)
      | (with_reducible exact impl_CountInk.mono _ _ _ _ _)
      | (with_reducible exact impl_DiffusePicture.mono _ _ _ _ _ _)
      | (with_reducible exact spec_MakeKernel.mono _ _)
      | (with_reducible exact spec_MakePicture.mono _ _ _)
      | (with_reducible exact LeO.refl _)
      | (with_reducible exact LeO.none _)
      | (with_reducible refine LeO.ite ?_ ?_)
      | (with_reducible refine LeO.bind ?_ (fun _ => ?_))
      | exact ih0 _ _ _ _ _ _ _
      | exact impl_CountInk.mono _ _ _ _ _
      | exact impl_DiffusePicture.mono _ _ _ _ _ _
      | exact spec_MakeKernel.mono _ _
      | exact spec_MakePicture.mono _ _ _
      | exact LeO.none _
      | refine LeO.ite ?_ ?_
      | refine LeO.bind ?_ (fun _ => ?_)
def laws_FnEmpty.T12 : Bool × List (List Nat × List Nat) := (true, [([], []), ([], []), ([], []), ([2], [2]), ([3], [3]), ([4], [4]), ([0, 1, 5, 3], [0, 1, 5]), ([6], [6]), ([7], [7]), ([7], [7]), ([7], [7]), ([], []), ([11, 8, 6, 0, 1, 2, 3, 4, 5, 6, 7, 8, 11], [8, 11]), ([9, 12, 0, 1, 2, 3, 4, 5, 6, 7, 8, 9, 11, 12], [9]), ([10, 13, 0, 1, 2, 3, 4, 5, 6, 7, 8, 9, 10, 11, 12, 13], [10])])
def laws_FnEmpty.B12 : List Nat := [0, 0, 0, 4, 12, 28, 63, 127, 255, 255, 255, 0, 2559, 7167, 16383]
theorem laws_FnEmpty.tab12 : rtab .any (opsOf Try.f6 12) = laws_FnEmpty.T12 := by kernel_rfl
theorem laws_FnEmpty.bits12 : waitsOk laws_FnEmpty.T12.2 laws_FnEmpty.B12 = true := by kernel_rfl
def laws_FnEmpty.T13 : Bool × List (List Nat × List Nat) := (true, [([], []), ([0], [0]), ([1], [1]), ([1, 2], [1, 2]), ([3, 1], [3]), ([4], [4]), ([5, 4], [4, 5]), ([4, 6], [4, 6]), ([7, 4], [7]), ([8], [8]), ([8], [8]), ([9, 10, 8, 8], [8, 9, 10]), ([8], [8]), ([12, 8], [8, 12]), ([13, 8], [8, 13]), ([11, 14, 8], [8, 11, 14]), ([8, 15], [8, 15]), ([16, 11, 0, 1, 2, 3, 4, 5, 6, 7, 8, 9, 10, 11, 12, 13, 14, 15, 16], [16])])
def laws_FnEmpty.B13 : List Nat := [0, 1, 3, 7, 15, 31, 63, 127, 255, 511, 511, 2047, 511, 4607, 12799, 32767, 65535, 131071]
theorem laws_FnEmpty.tab13 : rtab .any (opsOf Try.f6 13) = laws_FnEmpty.T13 := by kernel_rfl
theorem laws_FnEmpty.bits13 : waitsOk laws_FnEmpty.T13.2 laws_FnEmpty.B13 = true := by kernel_rfl
set_option maxHeartbeats 8000000 in
set_option maxRecDepth 100000 in
theorem laws_FnEmpty.calls (k : Nat) (A0 : Option Addr) (c0 : Nat) (l0 : List Int) (r : Bool) (w : World) (hr0 : Kd.C (Kd.int .u8) w A0 l0.length l0) (hc0 : l0.length ≤ c0) (hT : Aside0 (r = true)) (h : laws_FnEmpty.f k l0 = some r) :
  Calls Try.prog 6 #[.slice A0 l0.length c0] w fun e w' => e = .returned (.bool r) ∧ Below w.heap.size w w' := by
 have hu27 := Try.underlying27
 have HR0 := Aside0.mk hr0
 have HC0 := Aside0.mk hc0
 clear hr0 hc0
 have HB := Aside0.mk (Below.refl w.heap.size w)
 have H : (if (l0.length : Int) > 1048576 then (some true) else ((spec_MakeKernel.f k l0).bind fun t535 => ((spec_MakePicture.f k l0 9).bind fun bt538 => ((laws_at.f l0 1).bind fun t544 => (if (Int.tmod t544 2) = 1 then (laws_FnEmpty.j0 k l0 t535 255 1 bt538.1 bt538.2.1 bt538.2.2) else (laws_FnEmpty.j0 k l0 t535 0 0 bt538.1 bt538.2.1 bt538.2.2)))))) = some r := h
 clear h
 by_cases c2 : (l0.length : Int) > 1048576
 ·rw [if_pos c2] at H
  have c2b0 : decide (1048576 < (l0.length : Int)) = true := decide_eq_true c2
  have c2b1 : decide (1048576 < l0.length) = true := decide_eq_true (by omega)
  clear c2
  obtain rfl := Option.some.inj H
  go_enter Try.func6, Try.ntmps6
  go_wp2
  go_ret
  exact ⟨by first | rfl | (simp [errW_none, errW_some] <;> rfl) | (simp [*, errW_none, errW_some] <;> rfl), by repeat (first | (with_reducible first | exact HB.out | apply below_alloc | apply pw_below_drewN | apply below_drew1) | exact HB.out)⟩
 rw [if_neg c2] at H
 have c2b0 : decide (1048576 < (l0.length : Int)) = false := decide_eq_false c2
 have c2b1 : decide (1048576 < l0.length) = false := decide_eq_false (by omega)
 clear c2
 replace H := Option.bind_eq_some_iff.mp H
 obtain ⟨t535, A30, H⟩ := H
 replace H : ((spec_MakePicture.f k l0 9).bind fun bt538 => ((laws_at.f l0 1).bind fun t544 => (if (Int.tmod t544 2) = 1 then (laws_FnEmpty.j0 k l0 t535 255 1 bt538.1 bt538.2.1 bt538.2.2) else (laws_FnEmpty.j0 k l0 t535 0 0 bt538.1 bt538.2.1 bt538.2.2)))) = some r := H
 have A3 := Aside0.mk A30
 clear A30
 replace H := Option.bind_eq_some_iff.mp H
 obtain ⟨⟨t538, t539, t540⟩, A40, H⟩ := H
 replace H : ((laws_at.f l0 1).bind fun t544 => (if (Int.tmod t544 2) = 1 then (laws_FnEmpty.j0 k l0 t535 255 1 t538 t539 t540) else (laws_FnEmpty.j0 k l0 t535 0 0 t538 t539 t540))) = some r := H
 have A4 := Aside0.mk A40
 clear A40
 replace H := Option.bind_eq_some_iff.mp H
 obtain ⟨t544, A50, H⟩ := H
 replace H : (if (Int.tmod t544 2) = 1 then (laws_FnEmpty.j0 k l0 t535 255 1 t538 t539 t540) else (laws_FnEmpty.j0 k l0 t535 0 0 t538 t539 t540)) = some r := H
 have A5 := Aside0.mk A50
 clear A50
 have HC6 := Aside0.mk H
 clear H
 go_enter Try.func6, Try.ntmps6
 go_upto_if 24 with (first | ((with_reducible refine gate_callee (f := 8) rfl ?_); refine goesL_ (some 17) rfl rfl Try.func8 (by kernel_rfl) rfl #[.slice A0 l0.length c0] rfl sL_ ?_; (with_reducible refine (spec_MakeKernel.calls k _ _ l0 t535 _ ?side1 ?side2 A3.out).mono ?_); (case side1 => repeat (first | exact HR0.out | (with_reducible refine Kd.C_alloc ?_ _) | (with_reducible refine Kd.C_drewN ?_ _) | (with_reducible refine Kd.C_drew ?_))); (case side2 => exact HC0.out); rintro e w7 ⟨v536, rfl, ho0, hb⟩; refine ⟨_, rfl, ?_⟩; have n0_ := Aside0.mk (Kd.R_lower ho0 (below_size (sW_ HB.out))); have n1_ := Aside0.mk (below_step (sW_ HB.out) hb); clear HB; have HO537 := n0_; have HB := n1_; clear n0_ n1_; (try clear hb); (try clear hb2); (try clear hk); (try clear hi); (try clear ho0)) | ((with_reducible refine gate_callee (f := 9) rfl ?_); refine goesL_ (some 19) rfl rfl Try.func9 (by kernel_rfl) rfl #[.slice A0 l0.length c0, .int .i64 9] rfl sL_ ?_; (with_reducible refine (spec_MakePicture.calls k _ _ l0 9 t538 t539 t540 _ ?side1 ?side2 A4.out).mono ?_); (case side1 => repeat (first | exact (Kd.C_below HR0.out HB.out) | (with_reducible refine Kd.C_alloc ?_ _) | (with_reducible refine Kd.C_drewN ?_ _) | (with_reducible refine Kd.C_drew ?_))); (case side2 => exact HC0.out); rintro e w8 ⟨v541, rfl, ho0, hb⟩; refine ⟨_, rfl, ?_⟩; have n0_ := Aside0.mk (Kd.R_below (sR_ HO537.out) hb); have n1_ := Aside0.mk (Kd.R_lower ho0 (below_size (sW_ HB.out))); have n2_ := Aside0.mk (below_step (sW_ HB.out) hb); clear HO537 HB; have HO537 := n0_; have HO542 := n1_; have HB := n2_; clear n0_ n1_ n2_; (try clear hb); (try clear hb2); (try clear hk); (try clear hi); (try clear ho0)) | ((with_reducible refine gate_dst (N := 4) rfl ?_); refine box_event ?hg (N := 4) ?hd (cs := #[.int .i64 0, .int .i64 0, .slice none 0 0]) (t := 27) ?hr ?_; (case hd => rfl); (case hg => rfl); (case hr => first | (go_simp; done) | (go_simp; rfl)); intro gb543 hg w9 hbox hb; have n0_ := Aside0.mk (Kd.R_below (sR_ HO537.out) hb); have n1_ := Aside0.mk (Kd.R_below (sR_ HO542.out) hb); have n2_ := Aside0.mk (below_step (sW_ HB.out) hb); have n3_ := Aside0.mk (hbox); have n4_ := Aside0.mk ((by rw [hg]; exact (below_size (sW_ HB.out)) : w.heap.size ≤ gb543)); have n5_ := n4_; clear HO537 HO542 HB; have HO537 := n0_; have HO542 := n1_; have HB := n2_; have BK543 := n3_; have GW543 := n4_; have GE543 := n5_; clear n0_ n1_ n2_ n3_ n4_ n5_; clear hb hbox hg; obtain ⟨hcz10_0, hcz10_1, hcz10_2, hfz10_0, hfz10_1, hfz10_2⟩ := sZ_ BK543.out; obtain ⟨Ao11, co11, eo11⟩ := Kd.R_slice HO542.out; subst eo11) | ((with_reducible refine gate_callee (f := 11) rfl ?_); refine goesL_ (some 21) rfl rfl Try.func11 (by kernel_rfl) rfl #[.slice A0 l0.length c0, .int .i64 1] rfl sL_ ?_; (with_reducible refine (laws_at.calls _ _ l0 1 t544 _ ?side1 ?side2 A5.out).mono ?_); (case side1 => exact Kd.C_below HR0.out (sW_ HB.out)); (case side2 => exact HC0.out); rintro e w' ⟨rfl, ⟨nd, rfl⟩⟩; refine ⟨_, rfl, ?_⟩))
 (try simp only [Act.put, List.setIfInBounds_toArray, List.set_cons_zero, List.set_cons_succ])
 go_cut [5, 6, 7] (fun v5 v6 v7 wc => ∃ (kq : Nat) (x6_5 : Int) (x7_5 : Int), v6 = .int .i64 x6_5 ∧ v7 = .int .i64 x7_5 ∧ Aside0 (laws_FnEmpty.j0 kq l0 t535 x6_5 x7_5 t538 t539 t540 = some r) ∧ Aside0 (kq ≤ k) ∧ Aside0 (Kd.R k68 68 wc w.heap.size (fun _ => True) v536 t535) ∧ Aside0 (Kd.R (Kd.int .i64) 3 wc w.heap.size (fun _ => True) (.slice Ao11 t540.length co11) t540) ∧ Aside0 (wc.heap[gb543]? = some (.cells #[.int .i64 t538, .int .i64 t539, (.slice Ao11 t540.length co11)] 27 (0, 0))) ∧ Aside0 (Below w.heap.size w wc))
 case first =>
  have H := HC6.out; clear HC6
  by_cases c12 : (Int.tmod t544 2) = 1
  ·rw [if_pos c12] at H
   have c12b0 : ((Int.tmod t544 2) == 1) = true := beq_iff_eq.mpr c12
   have c12b1 : ((Int.tmod t544 2) != 1) = false := bne_eq_false_iff_eq.mpr c12
   clear c12
   (first | rw [c12b0] | (simp only [i64_w, i32_w]; rw [c12b0]) | skip)
   have H' := Aside0.mk H
   clear H
   go_wp2
   go_meet
   case rel => exact ⟨_, (255), (1), (by first | rfl | (simp; done) | (simp [*]; done)), (by first | rfl | (simp; done) | (simp [*]; done)), H', ⟨by first | omega | exact Nat.le_refl _⟩, ⟨by (with_reducible repeat (first | apply Kd.R_alloc | apply Kd.R_drewN | apply Kd.R_drew)); exact Kd.R_mono (Kd.R_far (p := ⟨gb543, 2, none⟩) (Kd.R_far (p := ⟨gb543, 1, none⟩) (Kd.R_far (p := ⟨gb543, 0, none⟩) (Kd.R_types HO537.out BK543.out (by decide)) (fun _ hk => hk.2) (.int .i64 t538)) (fun _ hk => hk.2) (.int .i64 t539)) (fun _ hk => hk.2) (.slice Ao11 t540.length co11)) (fun _ hk => trivial)⟩, ⟨by (with_reducible repeat (first | apply Kd.R_alloc | apply Kd.R_drewN | apply Kd.R_drew)); exact Kd.R_mono (Kd.R_far (p := ⟨gb543, 2, none⟩) (Kd.R_far (p := ⟨gb543, 1, none⟩) (Kd.R_far (p := ⟨gb543, 0, none⟩) (Kd.R_types HO542.out BK543.out (by decide)) (fun _ hk => hk.2) (.int .i64 t538)) (fun _ hk => hk.2) (.int .i64 t539)) (fun _ hk => hk.2) (.slice Ao11 t540.length co11)) (fun _ hk => trivial)⟩, ⟨by refine sB_ ?_; refine blk_put (cs := #[.int .i64 t538, .int .i64 t539, .slice none 0 0]) ?_ 2 _ rfl; refine sB_ ?_; refine blk_put (cs := #[.int .i64 t538, .int .i64 0, .slice none 0 0]) ?_ 1 _ rfl; refine sB_ ?_; refine blk_put (cs := #[.int .i64 0, .int .i64 0, .slice none 0 0]) ?_ 0 _ rfl; refine sB_ ?_; exact BK543.out⟩, ⟨by repeat (first | (with_reducible first | exact HB.out | apply below_alloc | apply pw_below_drewN | apply below_drew1 | refine below_set ?_ GE543.out) | exact HB.out)⟩⟩
  rw [if_neg c12] at H
  have c12b0 : ((Int.tmod t544 2) == 1) = false := beq_eq_false_iff_ne.mpr c12
  have c12b1 : ((Int.tmod t544 2) != 1) = true := bne_iff_ne.mpr c12
  (first | rw [c12b0] | (simp only [i64_w, i32_w]; rw [c12b0]) | skip)
  have H' := Aside0.mk H
  clear H
  go_wp2
  go_meet
  case rel => exact ⟨_, (0), (0), (by first | rfl | (simp; done) | (simp [*]; done)), (by first | rfl | (simp; done) | (simp [*]; done)), H', ⟨by first | omega | exact Nat.le_refl _⟩, ⟨by (with_reducible repeat (first | apply Kd.R_alloc | apply Kd.R_drewN | apply Kd.R_drew)); exact Kd.R_mono (Kd.R_far (p := ⟨gb543, 2, none⟩) (Kd.R_far (p := ⟨gb543, 1, none⟩) (Kd.R_far (p := ⟨gb543, 0, none⟩) (Kd.R_types HO537.out BK543.out (by decide)) (fun _ hk => hk.2) (.int .i64 t538)) (fun _ hk => hk.2) (.int .i64 t539)) (fun _ hk => hk.2) (.slice Ao11 t540.length co11)) (fun _ hk => trivial)⟩, ⟨by (with_reducible repeat (first | apply Kd.R_alloc | apply Kd.R_drewN | apply Kd.R_drew)); exact Kd.R_mono (Kd.R_far (p := ⟨gb543, 2, none⟩) (Kd.R_far (p := ⟨gb543, 1, none⟩) (Kd.R_far (p := ⟨gb543, 0, none⟩) (Kd.R_types HO542.out BK543.out (by decide)) (fun _ hk => hk.2) (.int .i64 t538)) (fun _ hk => hk.2) (.int .i64 t539)) (fun _ hk => hk.2) (.slice Ao11 t540.length co11)) (fun _ hk => trivial)⟩, ⟨by refine sB_ ?_; refine blk_put (cs := #[.int .i64 t538, .int .i64 t539, .slice none 0 0]) ?_ 2 _ rfl; refine sB_ ?_; refine blk_put (cs := #[.int .i64 t538, .int .i64 0, .slice none 0 0]) ?_ 1 _ rfl; refine sB_ ?_; refine blk_put (cs := #[.int .i64 0, .int .i64 0, .slice none 0 0]) ?_ 0 _ rfl; refine sB_ ?_; exact BK543.out⟩, ⟨by repeat (first | (with_reducible first | exact HB.out | apply below_alloc | apply pw_below_drewN | apply below_drew1 | refine below_set ?_ GE543.out) | exact HB.out)⟩⟩
 case rest =>
  clear HC6
  try clear c1
  try clear c2
  try clear c2b0
  try clear c2b1
  try clear p2
  try clear c6
  try clear c8
  try clear c9
  try clear c11
  try clear c12
  try clear c12b0
  try clear c12b1
  try clear hcz10_0
  try clear hcz10_1
  try clear hcz10_2
  try clear hfz10_0
  try clear hfz10_1
  try clear hfz10_2
  obtain ⟨kq, x6_5, x7_5, rfl, rfl, HA, HJ5, HO_3, HO_544002, BK543, HB⟩ := hcut
  cases kq with
  | zero => exact absurd HA.out (by simp [laws_FnEmpty.j0])
  | succ kj5 =>
   have H := HA.out; clear HA
   simp only [laws_FnEmpty.j0] at H
   replace H := Option.bind_eq_some_iff.mp H
   obtain ⟨⟨t545, t546, t547, t550⟩, A130, H⟩ := H
   replace H : ((laws_at.f l0 2).bind fun t552 => ((impl_DiffusePicture.f kj5 t535 t545 t546 t547 ((Int.tmod t552 2) == 1)).bind fun bt553 => (if t550 = true then (if bt553.2.2.2.2 = true then (if bt553.2.2.2.1 = 0 then ((impl_CountInk.f kj5 bt553.1 bt553.2.1 bt553.2.2.1 x7_5).bind fun t561 => (some (t561 == (t540.length : Int)))) else (some false)) else (some false)) else (some false)))) = some r := H
   have A13 := Aside0.mk A130
   clear A130
   replace H := Option.bind_eq_some_iff.mp H
   obtain ⟨t552, A140, H⟩ := H
   replace H : ((impl_DiffusePicture.f kj5 t535 t545 t546 t547 ((Int.tmod t552 2) == 1)).bind fun bt553 => (if t550 = true then (if bt553.2.2.2.2 = true then (if bt553.2.2.2.1 = 0 then ((impl_CountInk.f kj5 bt553.1 bt553.2.1 bt553.2.2.1 x7_5).bind fun t561 => (some (t561 == (t540.length : Int)))) else (some false)) else (some false)) else (some false))) = some r := H
   have A14 := Aside0.mk A140
   clear A140
   replace H := Option.bind_eq_some_iff.mp H
   obtain ⟨⟨t553, t554, t555, t558, t559⟩, A150, H⟩ := H
   replace H : (if t550 = true then (if t559 = true then (if t558 = 0 then ((impl_CountInk.f kj5 t553 t554 t555 x7_5).bind fun t561 => (some (t561 == (t540.length : Int)))) else (some false)) else (some false)) else (some false)) = some r := H
   have A15 := Aside0.mk A150
   clear A150
   by_cases c16 : t550 = true
   ·subst c16
    have H1 : (if t559 = true then (if t558 = 0 then ((impl_CountInk.f kj5 t553 t554 t555 x7_5).bind fun t561 => (some (t561 == (t540.length : Int)))) else (some false)) else (some false)) = some r := by rw [if_pos rfl] at H; exact H
    clear H; have H := H1; clear H1
    by_cases c17 : t559 = true
    ·subst c17
     have H1 : (if t558 = 0 then ((impl_CountInk.f kj5 t553 t554 t555 x7_5).bind fun t561 => (some (t561 == (t540.length : Int)))) else (some false)) = some r := by rw [if_pos rfl] at H; exact H
     clear H; have H := H1; clear H1
     by_cases c18 : t558 = 0
     ·rw [if_pos c18] at H
      have c18b0 : (t558 == 0) = true := beq_iff_eq.mpr c18
      have c18b1 : (t558 != 0) = false := bne_eq_false_iff_eq.mpr c18
      clear c18
      replace H := Option.bind_eq_some_iff.mp H
      obtain ⟨t561, A190, H⟩ := H
      replace H : (some (t561 == (t540.length : Int))) = some r := H
      have A19 := Aside0.mk A190
      clear A190
      obtain rfl := Option.some.inj H
      obtain ⟨hcz20_0, hcz20_1, hcz20_2, hfz20_0, hfz20_1, hfz20_2⟩ := sZ_ BK543.out
      try go_wp2_with (first | ((with_reducible refine gate_callee (f := 25) rfl ?_); refine goesL_ (some 31) rfl rfl Try.func25 (by kernel_rfl) rfl #[.int .i64 t538, .int .i64 t539, .int .i64 x6_5] rfl sL_ ?_; (with_reducible refine (impl_FlatPicture.calls t538 t539 x6_5 t545 t546 t547 true _ A13.out).mono ?_); rintro e w21 ⟨v548, rfl, ho0, hb⟩; refine ⟨_, rfl, ?_⟩; have n0_ := Aside0.mk (Kd.R_below (sR_ HO_3.out) hb); have n1_ := Aside0.mk (Kd.R_elder' (sR_ HO_544002.out) (Kd.R_base ho0) hb); have n2_ := Aside0.mk (Kd.R_lower (Kd.R_new' ho0 (Kd.R_lt (sR_ HO_544002.out))) (below_size (sW_ HB.out))); have n3_ := Aside0.mk (blk_below (sB_ BK543.out) hb); have n4_ := Aside0.mk (below_step (sW_ HB.out) hb); clear HO_3 HO_544002 BK543 HB; have HO_3 := n0_; have HO_544002 := n1_; have HO549 := n2_; have BK543 := n3_; have HB := n4_; clear n0_ n1_ n2_ n3_ n4_; (try clear hb); (try clear hb2); (try clear hk); (try clear hi); (try clear ho0)) | ((with_reducible refine gate_dst (N := 8) rfl ?_); refine box_event ?hg (N := 8) ?hd (cs := #[.int .i64 0, .int .i64 0, .slice none 0 0]) (t := 27) ?hr ?_; (case hd => rfl); (case hg => rfl); (case hr => first | (go_simp; done) | (go_simp; rfl)); intro gb551 hg w22 hbox hb; have n0_ := Aside0.mk (Kd.R_below (sR_ HO_3.out) hb); have n1_ := Aside0.mk (Kd.R_below (sR_ HO_544002.out) hb); have n2_ := Aside0.mk (Kd.R_below (sR_ HO549.out) hb); have n3_ := Aside0.mk (blk_below (sB_ BK543.out) hb); have n4_ := Aside0.mk (below_step (sW_ HB.out) hb); have n5_ := Aside0.mk (hbox); have n6_ := Aside0.mk ((by rw [hg]; exact (below_size (sW_ HB.out)) : w.heap.size ≤ gb551)); have n7_ := n6_; have n8_ := Aside0.mk (sN_ hg (blk_lt (sB_ BK543.out))); have n9_ := Aside0.mk n8_.out.symm; clear HO_3 HO_544002 HO549 BK543 HB; have HO_3 := n0_; have HO_544002 := n1_; have HO549 := n2_; have BK543 := n3_; have HB := n4_; have BK551 := n5_; have GW551 := n6_; have GE551 := n7_; have NB543_551 := n8_; have NB551_543 := n9_; clear n0_ n1_ n2_ n3_ n4_ n5_ n6_ n7_ n8_ n9_; clear hb hbox hg; have hnb23 := NB551_543.out; have hnc23 := NB543_551.out; obtain ⟨hcz24_0, hcz24_1, hcz24_2, hfz24_0, hfz24_1, hfz24_2⟩ := sZ_ BK551.out; obtain ⟨Ao25, co25, eo25⟩ := Kd.R_slice HO549.out; subst eo25; obtain ⟨Ao26, co26, eo26⟩ := Kd.R_slice HO_3.out; subst eo26))
      have n0_ : Aside0 (Kd.R k68 68 (((w22.setCell ⟨gb551, 0, none⟩ (.int .i64 t545)).setCell ⟨gb551, 1, none⟩ (.int .i64 t546)).setCell ⟨gb551, 2, none⟩ (.slice Ao25 t547.length co25)) w.heap.size (fun _ => True) (.slice Ao26 t535.length co26) t535) := ⟨by (with_reducible repeat (first | apply Kd.R_alloc | apply Kd.R_drewN | apply Kd.R_drew)); exact Kd.R_mono (Kd.R_far (p := ⟨gb551, 2, none⟩) (Kd.R_far (p := ⟨gb551, 1, none⟩) (Kd.R_far (p := ⟨gb551, 0, none⟩) (Kd.R_types HO_3.out BK551.out (by decide)) (fun _ hk => hk.2) (.int .i64 t545)) (fun _ hk => hk.2) (.int .i64 t546)) (fun _ hk => hk.2) (.slice Ao25 t547.length co25)) (fun _ hk => trivial)⟩
      have n1_ : Aside0 (Kd.R (Kd.int .i64) 3 (((w22.setCell ⟨gb551, 0, none⟩ (.int .i64 t545)).setCell ⟨gb551, 1, none⟩ (.int .i64 t546)).setCell ⟨gb551, 2, none⟩ (.slice Ao25 t547.length co25)) w.heap.size (fun k_ => some k_ ≠ (.slice Ao25 t547.length co25 : Value).ownBlock) (.slice Ao11 t540.length co11) t540) := ⟨by (with_reducible repeat (first | apply Kd.R_alloc | apply Kd.R_drewN | apply Kd.R_drew)); exact Kd.R_mono (Kd.R_far (p := ⟨gb551, 2, none⟩) (Kd.R_far (p := ⟨gb551, 1, none⟩) (Kd.R_far (p := ⟨gb551, 0, none⟩) (Kd.R_types HO_544002.out BK551.out (by decide)) (fun _ hk => hk.2) (.int .i64 t545)) (fun _ hk => hk.2) (.int .i64 t546)) (fun _ hk => hk.2) (.slice Ao25 t547.length co25)) (fun _ hk => hk.1.2)⟩
      have n2_ : Aside0 (Kd.R (Kd.int .i64) 3 (((w22.setCell ⟨gb551, 0, none⟩ (.int .i64 t545)).setCell ⟨gb551, 1, none⟩ (.int .i64 t546)).setCell ⟨gb551, 2, none⟩ (.slice Ao25 t547.length co25)) w.heap.size (fun k_ => some k_ ≠ (.slice Ao11 t540.length co11 : Value).ownBlock) (.slice Ao25 t547.length co25) t547) := ⟨by (with_reducible repeat (first | apply Kd.R_alloc | apply Kd.R_drewN | apply Kd.R_drew)); exact Kd.R_mono (Kd.R_far (p := ⟨gb551, 2, none⟩) (Kd.R_far (p := ⟨gb551, 1, none⟩) (Kd.R_far (p := ⟨gb551, 0, none⟩) (Kd.R_types HO549.out BK551.out (by decide)) (fun _ hk => hk.2) (.int .i64 t545)) (fun _ hk => hk.2) (.int .i64 t546)) (fun _ hk => hk.2) (.slice Ao25 t547.length co25)) (fun _ hk => hk.1.2)⟩
      have n3_ : Aside0 ((((w22.setCell ⟨gb551, 0, none⟩ (.int .i64 t545)).setCell ⟨gb551, 1, none⟩ (.int .i64 t546)).setCell ⟨gb551, 2, none⟩ (.slice Ao25 t547.length co25)).heap[gb543]? = some (.cells #[.int .i64 t538, .int .i64 t539, .slice Ao11 t540.length co11] 27 (0, 0))) := ⟨by refine sB_ ?_; refine blk_far ?_ NB543_551.out _; refine sB_ ?_; refine blk_far ?_ NB543_551.out _; refine sB_ ?_; refine blk_far ?_ NB543_551.out _; refine sB_ ?_; exact BK543.out⟩
      have n4_ : Aside0 ((((w22.setCell ⟨gb551, 0, none⟩ (.int .i64 t545)).setCell ⟨gb551, 1, none⟩ (.int .i64 t546)).setCell ⟨gb551, 2, none⟩ (.slice Ao25 t547.length co25)).heap[gb551]? = some (.cells #[.int .i64 t545, .int .i64 t546, .slice Ao25 t547.length co25] 27 (0, 0))) := ⟨by refine sB_ ?_; refine blk_put (cs := #[.int .i64 t545, .int .i64 t546, .slice none 0 0]) ?_ 2 _ rfl; refine sB_ ?_; refine blk_put (cs := #[.int .i64 t545, .int .i64 0, .slice none 0 0]) ?_ 1 _ rfl; refine sB_ ?_; refine blk_put (cs := #[.int .i64 0, .int .i64 0, .slice none 0 0]) ?_ 0 _ rfl; refine sB_ ?_; exact BK551.out⟩
      have n5_ : Aside0 (Below w.heap.size w (((w22.setCell ⟨gb551, 0, none⟩ (.int .i64 t545)).setCell ⟨gb551, 1, none⟩ (.int .i64 t546)).setCell ⟨gb551, 2, none⟩ (.slice Ao25 t547.length co25))) := ⟨by repeat (first | (with_reducible first | exact HB.out | apply below_alloc | apply pw_below_drewN | apply below_drew1 | refine below_set ?_ GE543.out | refine below_set ?_ GE551.out) | exact HB.out)⟩
      (try clear HO_3)
      (try clear HO_544002)
      (try clear HO549)
      (try clear BK543)
      (try clear BK551)
      (try clear HB)
      generalize (((w22.setCell ⟨gb551, 0, none⟩ (.int .i64 t545)).setCell ⟨gb551, 1, none⟩ (.int .i64 t546)).setCell ⟨gb551, 2, none⟩ (.slice Ao25 t547.length co25)) = w27 at n0_ n1_ n2_ n3_ n4_ n5_ ⊢
      have HO_3 := n0_; have HO_544002 := n1_; have HO549 := n2_; have BK543 := n3_; have BK551 := n4_; have HB := n5_; clear n0_ n1_ n2_ n3_ n4_ n5_
      have n0_ := Aside0.mk (Kd.R_drew HO_3.out)
      have n1_ := Aside0.mk (Kd.R_drew HO_544002.out)
      have n2_ := Aside0.mk (Kd.R_drew HO549.out)
      have n3_ := Aside0.mk (blk_drew BK543.out)
      have n4_ := Aside0.mk (blk_drew BK551.out)
      have n5_ := Aside0.mk (below_drew1 HB.out)
      clear HO_3 HO_544002 HO549 BK543 BK551 HB; have HO_3 := n0_; have HO_544002 := n1_; have HO549 := n2_; have BK543 := n3_; have BK551 := n4_; have HB := n5_; clear n0_ n1_ n2_ n3_ n4_ n5_
      refine start_ (n := 15) (S := fun w' => w'.cell? ⟨gb551, 0, none⟩ = some (.int .i64 t545) ∧ w'.cell? ⟨gb551, 1, none⟩ = some (.int .i64 t546) ∧ w'.cell? ⟨gb551, 2, none⟩ = some (.slice Ao25 t547.length co25)) (ds := []) #[false, false, false, false, false, false, false, false, false, false, false, false, false, false, false] (by kernel_rfl) rfl rfl ⟨(blk_cell BK551.out 0).trans rfl, (blk_cell BK551.out 1).trans rfl, (blk_cell BK551.out 2).trans rfl⟩ (fun hHeld => ?_); refine with_tabW laws_FnEmpty.tab12 laws_FnEmpty.bits12 (fun HT_ HW_ => ?_)
      generalize w27.drew = w28 at HO_3 HO_544002 HO549 BK543 BK551 HB hHeld ⊢
      refine pure_ (i := 0) (N := some 35) (v := ?_) (a' := ?_) #[true, false, false, false, false, false, false, false, false, false, false, false, false, false, false] rfl rfl (any_of HT_.out (by kernel_rfl)) (fun _ _ _ h => h) (Or.inl ⟨by rfl, ?_⟩) ?_ ?_
      rotate_left
      ·intro w'
       go_simp
       with_reducible rfl
      rotate_left
      ·simp only [Act.put, List.setIfInBounds_toArray, List.set_cons_zero, List.set_cons_succ, i64_w, i32_w]
       rfl
      refine pure_ (i := 2) (N := some 37) (v := ?_) (a' := ?_) #[true, false, true, false, false, false, false, false, false, false, false, false, false, false, false] rfl rfl (any_of HT_.out (by kernel_rfl)) (fun _ _ _ h => h) (Or.inl ⟨by rfl, ?_⟩) ?_ ?_
      rotate_left
      ·intro w'
       go_simp
       with_reducible rfl
      rotate_left
      ·simp only [Act.put, List.setIfInBounds_toArray, List.set_cons_zero, List.set_cons_succ, i64_w, i32_w]
       rfl
      refine take_ (i := 1) (N := some 36) (v := ?_) (a' := ?_) #[true, true, true, false, false, false, false, false, false, false, false, false, false, false, false] rfl rfl (take_ofW HT_.out HW_.out (by kernel_rfl)) (fun _ _ _ h => h) (Or.inl ⟨by rfl, ?_⟩) hHeld ?_ ?_
      rotate_left
      ·rintro w' ⟨s0, s1, s2⟩
       go_simp
       with_reducible rfl
      rotate_left
      ·simp only [Act.put, List.setIfInBounds_toArray, List.set_cons_zero, List.set_cons_succ, i64_w, i32_w]
       rfl
      refine join_ (σ := Value × Nat) 3 #[true, true, true, true, true, true, true, true, true, true, true, true, false, false, false] (fun s_ => [(38, .int .i64 t552), (41, .tuple #[.agg #[.int .i64 t553, .int .i64 t554, s_.1], .int .i64 t558, .bool true]), (10, .pointer (some ⟨s_.2, 0, none⟩)), (39, .int .i64 (Int.tmod t552 2)), (40, .bool ((Int.tmod t552 2) == 1)), (34, .tuple #[.agg #[.int .i64 t553, .int .i64 t554, s_.1], .int .i64 t558, .bool true]), (42, .agg #[.int .i64 t553, .int .i64 t554, s_.1]), (43, .int .i64 t558), (44, .bool true)]) (fun s_ w' => (w'.cell? ⟨gb551, 0, none⟩ = some (.int .i64 t545) ∧ w'.cell? ⟨gb551, 1, none⟩ = some (.int .i64 t546) ∧ w'.cell? ⟨gb551, 2, none⟩ = some (.slice Ao25 t547.length co25)) ∧ (Kd.R (Kd.int .i64) 3 w' w.heap.size (fun k_ => some k_ ≠ (s_.1 : Value).ownBlock ∧ some k_ ≠ (.slice Ao11 t540.length co11 : Value).ownBlock) (.slice Ao25 t547.length co25) t547) ∧ (Kd.R (Kd.int .i64) 3 w' w.heap.size (fun k_ => some k_ ≠ (.slice Ao25 t547.length co25 : Value).ownBlock ∧ some k_ ≠ (.slice Ao11 t540.length co11 : Value).ownBlock) s_.1 t555) ∧ (Kd.R k68 68 w' w.heap.size (fun _ => True) (.slice Ao26 t535.length co26) t535) ∧ (Kd.R (Kd.int .i64) 3 w' w.heap.size (fun k_ => some k_ ≠ (.slice Ao25 t547.length co25 : Value).ownBlock ∧ some k_ ≠ (s_.1 : Value).ownBlock) (.slice Ao11 t540.length co11) t540) ∧ (w'.heap[gb543]? = some (.cells #[.int .i64 t538, .int .i64 t539, .slice Ao11 t540.length co11] 27 (0, 0))) ∧ (w'.heap[gb551]? = some (.cells #[.int .i64 t545, .int .i64 t546, .slice Ao25 t547.length co25] 27 (0, 0))) ∧ (w'.heap[s_.2]? = some (.cells #[.int .i64 0, .int .i64 0, .slice none 0 0] 27 (0, 0))) ∧ (w.heap.size ≤ s_.2) ∧ (w.heap.size ≤ s_.2) ∧ (gb543 ≠ s_.2) ∧ (s_.2 ≠ gb543) ∧ (gb551 ≠ s_.2) ∧ (s_.2 ≠ gb551) ∧ (Below w.heap.size w w')) ?_ ?_
      rotate_left
      ·intro hCont
       refine two_ (i := 3) (j := 11) (Ni := some 38) (Nj := some 10) #[true, true, true, true, false, false, false, false, false, false, false, false, false, false, false] #[true, true, true, false, false, false, false, false, false, false, false, true, false, false, false] rfl rfl rfl rfl (two_of HT_.out (by kernel_rfl)) (by decide) (by decide) (fun K hK => ?_) (fun K hK => ?_)
       ·skip
        refine goes_ Try.func11 (by kernel_rfl) rfl #[.slice A0 l0.length c0, .int .i64 2] (by rfl) rfl rfl sL_ ?_
        with_reducible refine (laws_at.calls _ _ l0 2 t552 _ ?side1 ?side2 A14.out).mono ?_
        (case side1 => repeat (first | exact (Kd.C_below HR0.out HB.out) | (with_reducible refine Kd.C_alloc ?_ _) | (with_reducible refine Kd.C_drewN ?_ _) | (with_reducible refine Kd.C_drew ?_)))
        (case side2 => exact HC0.out)
        rintro e w' ⟨rfl, ⟨nd, rfl⟩⟩
        refine ⟨_, rfl, ?_⟩
        refine hK.out _ _ ⟨(blk_cell BK551.out 0).trans rfl, (blk_cell BK551.out 1).trans rfl, (blk_cell BK551.out 2).trans rfl⟩ (fun hHeld => ?_)
        clear hK K
        refine norm_ (a' := ?_) ?_ ?_
        rotate_left
        ·show Act.put _ (some 38) _ = _
         simp only [Act.put, List.setIfInBounds_toArray, List.set_cons_zero, List.set_cons_succ, i64_w, i32_w]
         rfl
        refine pure_ (i := 4) (N := some 39) (v := ?_) (a' := ?_) #[true, true, true, true, true, false, false, false, false, false, false, false, false, false, false] rfl rfl (any_of HT_.out (by kernel_rfl)) (fun _ _ _ h => h) (Or.inl ⟨by rfl, ?_⟩) ?_ ?_
        rotate_left
        ·intro w'
         go_simp
         with_reducible rfl
        rotate_left
        ·simp only [Act.put, List.setIfInBounds_toArray, List.set_cons_zero, List.set_cons_succ, i64_w, i32_w]
         rfl
        refine pure_ (i := 5) (N := some 40) (v := ?_) (a' := ?_) #[true, true, true, true, true, true, false, false, false, false, false, false, false, false, false] rfl rfl (any_of HT_.out (by kernel_rfl)) (fun _ _ _ h => h) (Or.inl ⟨by rfl, ?_⟩) ?_ ?_
        rotate_left
        ·intro w'
         go_simp
         with_reducible rfl
        rotate_left
        ·simp only [Act.put, List.setIfInBounds_toArray, List.set_cons_zero, List.set_cons_succ, i64_w, i32_w]
         rfl
        refine two_ (i := 6) (j := 11) (Ni := some 41) (Nj := some 10) #[true, true, true, true, true, true, true, false, false, false, false, false, false, false, false] #[true, true, true, true, true, true, false, false, false, false, false, true, false, false, false] rfl rfl rfl rfl (two_of HT_.out (by kernel_rfl)) (by decide) (by decide) (fun K hK => ?_) (fun K hK => ?_)
        ·skip
         refine goes_ Try.func12 (by kernel_rfl) rfl #[.slice Ao26 t535.length co26, .agg #[.int .i64 t545, .int .i64 t546, .slice Ao25 t547.length co25], .bool ((Int.tmod t552 2) == 1)] (by rfl) rfl rfl sL_ ?_
         with_reducible refine (impl_DiffusePicture.calls kj5 _ _ t535 t545 t546 _ _ t547 ((Int.tmod t552 2) == 1) t553 t554 t555 t558 true _ ?side1 ?side2 ?side3 ?side4 A15.out).mono ?_
         (case side1 => repeat (first | exact (Kd.R_reads' HO_3.out).2.2 | (with_reducible refine Kd.C_alloc ?_ _) | (with_reducible refine Kd.C_drewN ?_ _) | (with_reducible refine Kd.C_drew ?_)))
         (case side2 => exact (Kd.R_reads' HO_3.out).2.1)
         (case side3 => repeat (first | exact (Kd.R_reads' HO549.out).2.2 | (with_reducible refine Kd.C_alloc ?_ _) | (with_reducible refine Kd.C_drewN ?_ _) | (with_reducible refine Kd.C_drew ?_)))
         (case side4 => exact (Kd.R_reads' HO549.out).2.1)
         rintro e w29 ⟨v556, rfl, ho0, hb⟩
         refine ⟨_, rfl, ?_⟩
         have n0_ := Aside0.mk (Kd.R_below (sR_ HO_3.out) hb)
         have n1_ := Aside0.mk (Kd.R_elder' (sR_ HO_544002.out) (Kd.R_base ho0) hb)
         have n2_ := Aside0.mk (Kd.R_elder' (sR_ HO549.out) (Kd.R_base ho0) hb)
         have n3_ := Aside0.mk (Kd.R_lower (Kd.R_new' (Kd.R_new' ho0 (Kd.R_lt (sR_ HO_544002.out))) (Kd.R_lt (sR_ HO549.out))) (below_size (sW_ HB.out)))
         have n4_ := Aside0.mk (blk_below (sB_ BK543.out) hb)
         have n5_ := Aside0.mk (blk_below (sB_ BK551.out) hb)
         have n6_ := Aside0.mk (below_step (sW_ HB.out) hb)
         clear HO_3 HO_544002 HO549 BK543 BK551 HB; have HO_3 := n0_; have HO_544002 := n1_; have HO549 := n2_; have HO557 := n3_; have BK543 := n4_; have BK551 := n5_; have HB := n6_; clear n0_ n1_ n2_ n3_ n4_ n5_ n6_
         (try clear hb)
         (try clear hb2)
         (try clear hk)
         (try clear hi)
         (try clear ho0)
         refine hK.out _ _ ⟨(blk_cell BK551.out 0).trans rfl, (blk_cell BK551.out 1).trans rfl, (blk_cell BK551.out 2).trans rfl⟩ (fun hHeld => ?_)
         clear hK K
         refine norm_ (a' := ?_) ?_ ?_
         rotate_left
         ·show Act.put _ (some 41) _ = _
          simp only [Act.put, List.setIfInBounds_toArray, List.set_cons_zero, List.set_cons_succ, i64_w, i32_w]
          rfl
         refine pure_ (i := 7) (N := some 34) (v := ?_) (a' := ?_) #[true, true, true, true, true, true, true, true, false, false, false, false, false, false, false] rfl rfl (any_of HT_.out (by kernel_rfl)) (fun _ _ _ h => h) (Or.inl ⟨by rfl, ?_⟩) ?_ ?_
         rotate_left
         ·intro w'
          go_simp
          with_reducible rfl
         rotate_left
         ·simp only [Act.put, List.setIfInBounds_toArray, List.set_cons_zero, List.set_cons_succ, i64_w, i32_w]
          rfl
         refine pure_ (i := 8) (N := some 42) (v := ?_) (a' := ?_) #[true, true, true, true, true, true, true, true, true, false, false, false, false, false, false] rfl rfl (any_of HT_.out (by kernel_rfl)) (fun _ _ _ h => h) (Or.inl ⟨by rfl, ?_⟩) ?_ ?_
         rotate_left
         ·intro w'
          go_simp
          with_reducible rfl
         rotate_left
         ·simp only [Act.put, List.setIfInBounds_toArray, List.set_cons_zero, List.set_cons_succ, i64_w, i32_w]
          rfl
         refine pure_ (i := 9) (N := some 43) (v := ?_) (a' := ?_) #[true, true, true, true, true, true, true, true, true, true, false, false, false, false, false] rfl rfl (any_of HT_.out (by kernel_rfl)) (fun _ _ _ h => h) (Or.inl ⟨by rfl, ?_⟩) ?_ ?_
         rotate_left
         ·intro w'
          go_simp
          with_reducible rfl
         rotate_left
         ·simp only [Act.put, List.setIfInBounds_toArray, List.set_cons_zero, List.set_cons_succ, i64_w, i32_w]
          rfl
         refine pure_ (i := 10) (N := some 44) (v := ?_) (a' := ?_) #[true, true, true, true, true, true, true, true, true, true, true, false, false, false, false] rfl rfl (any_of HT_.out (by kernel_rfl)) (fun _ _ _ h => h) (Or.inl ⟨by rfl, ?_⟩) ?_ ?_
         rotate_left
         ·intro w'
          go_simp
          with_reducible rfl
         rotate_left
         ·simp only [Act.put, List.setIfInBounds_toArray, List.set_cons_zero, List.set_cons_succ, i64_w, i32_w]
          rfl
         refine one_ (i := 11) (N := some 10) #[true, true, true, true, true, true, true, true, true, true, true, true, false, false, false] rfl rfl (one_of HT_.out (by kernel_rfl)) (by decide) (fun K hK => ?_)
         refine box_step ?hg (N := 10) ?hd (cs := #[.int .i64 0, .int .i64 0, .slice none 0 0]) (t := 27) ?hr ?_; (case hd => rfl); (case hg => rfl); (case hr => first | (go_simp; done) | (go_simp; rfl))
         intro gb560 hg w30 hbox hb
         have n0_ := Aside0.mk (Kd.R_below (sR_ HO_3.out) hb)
         have n1_ := Aside0.mk (Kd.R_below (sR_ HO_544002.out) hb)
         have n2_ := Aside0.mk (Kd.R_below (sR_ HO549.out) hb)
         have n3_ := Aside0.mk (Kd.R_below (sR_ HO557.out) hb)
         have n4_ := Aside0.mk (blk_below (sB_ BK543.out) hb)
         have n5_ := Aside0.mk (blk_below (sB_ BK551.out) hb)
         have n6_ := Aside0.mk (below_step (sW_ HB.out) hb)
         have n7_ := Aside0.mk (hbox)
         have n8_ := Aside0.mk ((by rw [hg]; exact (below_size (sW_ HB.out)) : w.heap.size ≤ gb560))
         have n9_ := n8_
         have n10_ := Aside0.mk (sN_ hg (blk_lt (sB_ BK543.out)))
         have n11_ := Aside0.mk n10_.out.symm
         have n12_ := Aside0.mk (sN_ hg (blk_lt (sB_ BK551.out)))
         have n13_ := Aside0.mk n12_.out.symm
         clear HO_3 HO_544002 HO549 HO557 BK543 BK551 HB; have HO_3 := n0_; have HO_544002 := n1_; have HO549 := n2_; have HO557 := n3_; have BK543 := n4_; have BK551 := n5_; have HB := n6_; have BK560 := n7_; have GW560 := n8_; have GE560 := n9_; have NB543_560 := n10_; have NB560_543 := n11_; have NB551_560 := n12_; have NB560_551 := n13_; clear n0_ n1_ n2_ n3_ n4_ n5_ n6_ n7_ n8_ n9_ n10_ n11_ n12_ n13_ hb hbox hg
         refine hK.out _ _ ⟨(blk_cell BK551.out 0).trans rfl, (blk_cell BK551.out 1).trans rfl, (blk_cell BK551.out 2).trans rfl⟩ (fun hHeld => ?_)
         clear hK K
         refine norm_ (a' := ?_) ?_ ?_
         rotate_left
         ·show Act.put _ (some 10) _ = _
          simp only [Act.put, List.setIfInBounds_toArray, List.set_cons_zero, List.set_cons_succ, i64_w, i32_w]
          rfl
         exact norm_ sP_ (hCont (v556, gb560) _ ⟨hHeld, (by (with_reducible repeat (first | apply Kd.R_alloc | apply Kd.R_drewN | apply Kd.R_drew)); exact Kd.R_mono HO549.out (fun _ hk => ⟨hk.2, hk.1⟩)), (by (with_reducible repeat (first | apply Kd.R_alloc | apply Kd.R_drewN | apply Kd.R_drew)); exact Kd.R_mono HO557.out (fun _ hk => ⟨hk.2, hk.1.2⟩)), (sR_ HO_3.out), (sR_ HO_544002.out), (sB_ BK543.out), (sB_ BK551.out), (sB_ BK560.out), GW560.out, GE560.out, NB543_560.out, NB560_543.out, NB551_560.out, NB560_551.out, (sW_ HB.out)⟩)
        skip
        refine box_step ?hg (N := 10) ?hd (cs := #[.int .i64 0, .int .i64 0, .slice none 0 0]) (t := 27) ?hr ?_; (case hd => rfl); (case hg => rfl); (case hr => first | (go_simp; done) | (go_simp; rfl))
        intro gb560 hg w29 hbox hb
        have n0_ := Aside0.mk (Kd.R_below (sR_ HO_3.out) hb)
        have n1_ := Aside0.mk (Kd.R_below (sR_ HO_544002.out) hb)
        have n2_ := Aside0.mk (Kd.R_below (sR_ HO549.out) hb)
        have n3_ := Aside0.mk (blk_below (sB_ BK543.out) hb)
        have n4_ := Aside0.mk (blk_below (sB_ BK551.out) hb)
        have n5_ := Aside0.mk (below_step (sW_ HB.out) hb)
        have n6_ := Aside0.mk (hbox)
        have n7_ := Aside0.mk ((by rw [hg]; exact (below_size (sW_ HB.out)) : w.heap.size ≤ gb560))
        have n8_ := n7_
        have n9_ := Aside0.mk (sN_ hg (blk_lt (sB_ BK543.out)))
        have n10_ := Aside0.mk n9_.out.symm
        have n11_ := Aside0.mk (sN_ hg (blk_lt (sB_ BK551.out)))
        have n12_ := Aside0.mk n11_.out.symm
        clear HO_3 HO_544002 HO549 BK543 BK551 HB; have HO_3 := n0_; have HO_544002 := n1_; have HO549 := n2_; have BK543 := n3_; have BK551 := n4_; have HB := n5_; have BK560 := n6_; have GW560 := n7_; have GE560 := n8_; have NB543_560 := n9_; have NB560_543 := n10_; have NB551_560 := n11_; have NB560_551 := n12_; clear n0_ n1_ n2_ n3_ n4_ n5_ n6_ n7_ n8_ n9_ n10_ n11_ n12_ hb hbox hg
        refine hK.out _ _ ⟨(blk_cell BK551.out 0).trans rfl, (blk_cell BK551.out 1).trans rfl, (blk_cell BK551.out 2).trans rfl⟩ (fun hHeld => ?_)
        clear hK K
        refine norm_ (a' := ?_) ?_ ?_
        rotate_left
        ·show Act.put _ (some 10) _ = _
         simp only [Act.put, List.setIfInBounds_toArray, List.set_cons_zero, List.set_cons_succ, i64_w, i32_w]
         rfl
        refine one_ (i := 6) (N := some 41) #[true, true, true, true, true, true, true, false, false, false, false, true, false, false, false] rfl rfl (one_of HT_.out (by kernel_rfl)) (by decide) (fun K hK => ?_)
        refine goes_ Try.func12 (by kernel_rfl) rfl #[.slice Ao26 t535.length co26, .agg #[.int .i64 t545, .int .i64 t546, .slice Ao25 t547.length co25], .bool ((Int.tmod t552 2) == 1)] (by rfl) rfl rfl sL_ ?_
        with_reducible refine (impl_DiffusePicture.calls kj5 _ _ t535 t545 t546 _ _ t547 ((Int.tmod t552 2) == 1) t553 t554 t555 t558 true _ ?side1 ?side2 ?side3 ?side4 A15.out).mono ?_
        (case side1 => repeat (first | exact (Kd.R_reads' HO_3.out).2.2 | (with_reducible refine Kd.C_alloc ?_ _) | (with_reducible refine Kd.C_drewN ?_ _) | (with_reducible refine Kd.C_drew ?_)))
        (case side2 => exact (Kd.R_reads' HO_3.out).2.1)
        (case side3 => repeat (first | exact (Kd.R_reads' HO549.out).2.2 | (with_reducible refine Kd.C_alloc ?_ _) | (with_reducible refine Kd.C_drewN ?_ _) | (with_reducible refine Kd.C_drew ?_)))
        (case side4 => exact (Kd.R_reads' HO549.out).2.1)
        rintro e w30 ⟨v556, rfl, ho0, hb⟩
        refine ⟨_, rfl, ?_⟩
        have n0_ := Aside0.mk (Kd.R_below (sR_ HO_3.out) hb)
        have n1_ := Aside0.mk (Kd.R_elder' (sR_ HO_544002.out) (Kd.R_base ho0) hb)
        have n2_ := Aside0.mk (Kd.R_elder' (sR_ HO549.out) (Kd.R_base ho0) hb)
        have n3_ := Aside0.mk (Kd.R_lower (Kd.R_new' (Kd.R_new' ho0 (Kd.R_lt (sR_ HO_544002.out))) (Kd.R_lt (sR_ HO549.out))) (below_size (sW_ HB.out)))
        have n4_ := Aside0.mk (blk_below (sB_ BK543.out) hb)
        have n5_ := Aside0.mk (blk_below (sB_ BK551.out) hb)
        have n6_ := Aside0.mk (blk_below (sB_ BK560.out) hb)
        have n7_ := Aside0.mk (below_step (sW_ HB.out) hb)
        clear HO_3 HO_544002 HO549 BK543 BK551 BK560 HB; have HO_3 := n0_; have HO_544002 := n1_; have HO549 := n2_; have HO557 := n3_; have BK543 := n4_; have BK551 := n5_; have BK560 := n6_; have HB := n7_; clear n0_ n1_ n2_ n3_ n4_ n5_ n6_ n7_
        (try clear hb)
        (try clear hb2)
        (try clear hk)
        (try clear hi)
        (try clear ho0)
        refine hK.out _ _ ⟨(blk_cell BK551.out 0).trans rfl, (blk_cell BK551.out 1).trans rfl, (blk_cell BK551.out 2).trans rfl⟩ (fun hHeld => ?_)
        clear hK K
        refine norm_ (a' := ?_) ?_ ?_
        rotate_left
        ·show Act.put _ (some 41) _ = _
         simp only [Act.put, List.setIfInBounds_toArray, List.set_cons_zero, List.set_cons_succ, i64_w, i32_w]
         rfl
        refine pure_ (i := 7) (N := some 34) (v := ?_) (a' := ?_) #[true, true, true, true, true, true, true, true, false, false, false, true, false, false, false] rfl rfl (any_of HT_.out (by kernel_rfl)) (fun _ _ _ h => h) (Or.inl ⟨by rfl, ?_⟩) ?_ ?_
        rotate_left
        ·intro w'
         go_simp
         with_reducible rfl
        rotate_left
        ·simp only [Act.put, List.setIfInBounds_toArray, List.set_cons_zero, List.set_cons_succ, i64_w, i32_w]
         rfl
        refine pure_ (i := 8) (N := some 42) (v := ?_) (a' := ?_) #[true, true, true, true, true, true, true, true, true, false, false, true, false, false, false] rfl rfl (any_of HT_.out (by kernel_rfl)) (fun _ _ _ h => h) (Or.inl ⟨by rfl, ?_⟩) ?_ ?_
        rotate_left
        ·intro w'
         go_simp
         with_reducible rfl
        rotate_left
        ·simp only [Act.put, List.setIfInBounds_toArray, List.set_cons_zero, List.set_cons_succ, i64_w, i32_w]
         rfl
        refine pure_ (i := 9) (N := some 43) (v := ?_) (a' := ?_) #[true, true, true, true, true, true, true, true, true, true, false, true, false, false, false] rfl rfl (any_of HT_.out (by kernel_rfl)) (fun _ _ _ h => h) (Or.inl ⟨by rfl, ?_⟩) ?_ ?_
        rotate_left
        ·intro w'
         go_simp
         with_reducible rfl
        rotate_left
        ·simp only [Act.put, List.setIfInBounds_toArray, List.set_cons_zero, List.set_cons_succ, i64_w, i32_w]
         rfl
        refine pure_ (i := 10) (N := some 44) (v := ?_) (a' := ?_) #[true, true, true, true, true, true, true, true, true, true, true, true, false, false, false] rfl rfl (any_of HT_.out (by kernel_rfl)) (fun _ _ _ h => h) (Or.inl ⟨by rfl, ?_⟩) ?_ ?_
        rotate_left
        ·intro w'
         go_simp
         with_reducible rfl
        rotate_left
        ·simp only [Act.put, List.setIfInBounds_toArray, List.set_cons_zero, List.set_cons_succ, i64_w, i32_w]
         rfl
        exact norm_ sP_ (hCont (v556, gb560) _ ⟨hHeld, (by (with_reducible repeat (first | apply Kd.R_alloc | apply Kd.R_drewN | apply Kd.R_drew)); exact Kd.R_mono HO549.out (fun _ hk => ⟨hk.2, hk.1⟩)), (by (with_reducible repeat (first | apply Kd.R_alloc | apply Kd.R_drewN | apply Kd.R_drew)); exact Kd.R_mono HO557.out (fun _ hk => ⟨hk.2, hk.1.2⟩)), (sR_ HO_3.out), (sR_ HO_544002.out), (sB_ BK543.out), (sB_ BK551.out), (sB_ BK560.out), GW560.out, GE560.out, NB543_560.out, NB560_543.out, NB551_560.out, NB560_551.out, (sW_ HB.out)⟩)
       skip
       refine box_step ?hg (N := 10) ?hd (cs := #[.int .i64 0, .int .i64 0, .slice none 0 0]) (t := 27) ?hr ?_; (case hd => rfl); (case hg => rfl); (case hr => first | (go_simp; done) | (go_simp; rfl))
       intro gb560 hg w29 hbox hb
       have n0_ := Aside0.mk (Kd.R_below (sR_ HO_3.out) hb)
       have n1_ := Aside0.mk (Kd.R_below (sR_ HO_544002.out) hb)
       have n2_ := Aside0.mk (Kd.R_below (sR_ HO549.out) hb)
       have n3_ := Aside0.mk (blk_below (sB_ BK543.out) hb)
       have n4_ := Aside0.mk (blk_below (sB_ BK551.out) hb)
       have n5_ := Aside0.mk (below_step (sW_ HB.out) hb)
       have n6_ := Aside0.mk (hbox)
       have n7_ := Aside0.mk ((by rw [hg]; exact (below_size (sW_ HB.out)) : w.heap.size ≤ gb560))
       have n8_ := n7_
       have n9_ := Aside0.mk (sN_ hg (blk_lt (sB_ BK543.out)))
       have n10_ := Aside0.mk n9_.out.symm
       have n11_ := Aside0.mk (sN_ hg (blk_lt (sB_ BK551.out)))
       have n12_ := Aside0.mk n11_.out.symm
       clear HO_3 HO_544002 HO549 BK543 BK551 HB; have HO_3 := n0_; have HO_544002 := n1_; have HO549 := n2_; have BK543 := n3_; have BK551 := n4_; have HB := n5_; have BK560 := n6_; have GW560 := n7_; have GE560 := n8_; have NB543_560 := n9_; have NB560_543 := n10_; have NB551_560 := n11_; have NB560_551 := n12_; clear n0_ n1_ n2_ n3_ n4_ n5_ n6_ n7_ n8_ n9_ n10_ n11_ n12_ hb hbox hg
       refine hK.out _ _ ⟨(blk_cell BK551.out 0).trans rfl, (blk_cell BK551.out 1).trans rfl, (blk_cell BK551.out 2).trans rfl⟩ (fun hHeld => ?_)
       clear hK K
       refine norm_ (a' := ?_) ?_ ?_
       rotate_left
       ·show Act.put _ (some 10) _ = _
        simp only [Act.put, List.setIfInBounds_toArray, List.set_cons_zero, List.set_cons_succ, i64_w, i32_w]
        rfl
       refine one_ (i := 3) (N := some 38) #[true, true, true, true, false, false, false, false, false, false, false, true, false, false, false] rfl rfl (one_of HT_.out (by kernel_rfl)) (by decide) (fun K hK => ?_)
       refine goes_ Try.func11 (by kernel_rfl) rfl #[.slice A0 l0.length c0, .int .i64 2] (by rfl) rfl rfl sL_ ?_
       with_reducible refine (laws_at.calls _ _ l0 2 t552 _ ?side1 ?side2 A14.out).mono ?_
       (case side1 => repeat (first | exact (Kd.C_below HR0.out HB.out) | (with_reducible refine Kd.C_alloc ?_ _) | (with_reducible refine Kd.C_drewN ?_ _) | (with_reducible refine Kd.C_drew ?_)))
       (case side2 => exact HC0.out)
       rintro e w' ⟨rfl, ⟨nd, rfl⟩⟩
       refine ⟨_, rfl, ?_⟩
       refine hK.out _ _ ⟨(blk_cell BK551.out 0).trans rfl, (blk_cell BK551.out 1).trans rfl, (blk_cell BK551.out 2).trans rfl⟩ (fun hHeld => ?_)
       clear hK K
       refine norm_ (a' := ?_) ?_ ?_
       rotate_left
       ·show Act.put _ (some 38) _ = _
        simp only [Act.put, List.setIfInBounds_toArray, List.set_cons_zero, List.set_cons_succ, i64_w, i32_w]
        rfl
       refine pure_ (i := 4) (N := some 39) (v := ?_) (a' := ?_) #[true, true, true, true, true, false, false, false, false, false, false, true, false, false, false] rfl rfl (any_of HT_.out (by kernel_rfl)) (fun _ _ _ h => h) (Or.inl ⟨by rfl, ?_⟩) ?_ ?_
       rotate_left
       ·intro w'
        go_simp
        with_reducible rfl
       rotate_left
       ·simp only [Act.put, List.setIfInBounds_toArray, List.set_cons_zero, List.set_cons_succ, i64_w, i32_w]
        rfl
       refine pure_ (i := 5) (N := some 40) (v := ?_) (a' := ?_) #[true, true, true, true, true, true, false, false, false, false, false, true, false, false, false] rfl rfl (any_of HT_.out (by kernel_rfl)) (fun _ _ _ h => h) (Or.inl ⟨by rfl, ?_⟩) ?_ ?_
       rotate_left
       ·intro w'
        go_simp
        with_reducible rfl
       rotate_left
       ·simp only [Act.put, List.setIfInBounds_toArray, List.set_cons_zero, List.set_cons_succ, i64_w, i32_w]
        rfl
       refine one_ (i := 6) (N := some 41) #[true, true, true, true, true, true, true, false, false, false, false, true, false, false, false] rfl rfl (one_of HT_.out (by kernel_rfl)) (by decide) (fun K hK => ?_)
       refine goes_ Try.func12 (by kernel_rfl) rfl #[.slice Ao26 t535.length co26, .agg #[.int .i64 t545, .int .i64 t546, .slice Ao25 t547.length co25], .bool ((Int.tmod t552 2) == 1)] (by rfl) rfl rfl sL_ ?_
       with_reducible refine (impl_DiffusePicture.calls kj5 _ _ t535 t545 t546 _ _ t547 ((Int.tmod t552 2) == 1) t553 t554 t555 t558 true _ ?side1 ?side2 ?side3 ?side4 A15.out).mono ?_
       (case side1 => repeat (first | exact (Kd.R_reads' HO_3.out).2.2 | (with_reducible refine Kd.C_alloc ?_ _) | (with_reducible refine Kd.C_drewN ?_ _) | (with_reducible refine Kd.C_drew ?_)))
       (case side2 => exact (Kd.R_reads' HO_3.out).2.1)
       (case side3 => repeat (first | exact (Kd.R_reads' HO549.out).2.2 | (with_reducible refine Kd.C_alloc ?_ _) | (with_reducible refine Kd.C_drewN ?_ _) | (with_reducible refine Kd.C_drew ?_)))
       (case side4 => exact (Kd.R_reads' HO549.out).2.1)
       rintro e w30 ⟨v556, rfl, ho0, hb⟩
       refine ⟨_, rfl, ?_⟩
       have n0_ := Aside0.mk (Kd.R_below (sR_ HO_3.out) hb)
       have n1_ := Aside0.mk (Kd.R_elder' (sR_ HO_544002.out) (Kd.R_base ho0) hb)
       have n2_ := Aside0.mk (Kd.R_elder' (sR_ HO549.out) (Kd.R_base ho0) hb)
       have n3_ := Aside0.mk (Kd.R_lower (Kd.R_new' (Kd.R_new' ho0 (Kd.R_lt (sR_ HO_544002.out))) (Kd.R_lt (sR_ HO549.out))) (below_size (sW_ HB.out)))
       have n4_ := Aside0.mk (blk_below (sB_ BK543.out) hb)
       have n5_ := Aside0.mk (blk_below (sB_ BK551.out) hb)
       have n6_ := Aside0.mk (blk_below (sB_ BK560.out) hb)
       have n7_ := Aside0.mk (below_step (sW_ HB.out) hb)
       clear HO_3 HO_544002 HO549 BK543 BK551 BK560 HB; have HO_3 := n0_; have HO_544002 := n1_; have HO549 := n2_; have HO557 := n3_; have BK543 := n4_; have BK551 := n5_; have BK560 := n6_; have HB := n7_; clear n0_ n1_ n2_ n3_ n4_ n5_ n6_ n7_
       (try clear hb)
       (try clear hb2)
       (try clear hk)
       (try clear hi)
       (try clear ho0)
       refine hK.out _ _ ⟨(blk_cell BK551.out 0).trans rfl, (blk_cell BK551.out 1).trans rfl, (blk_cell BK551.out 2).trans rfl⟩ (fun hHeld => ?_)
       clear hK K
       refine norm_ (a' := ?_) ?_ ?_
       rotate_left
       ·show Act.put _ (some 41) _ = _
        simp only [Act.put, List.setIfInBounds_toArray, List.set_cons_zero, List.set_cons_succ, i64_w, i32_w]
        rfl
       refine pure_ (i := 7) (N := some 34) (v := ?_) (a' := ?_) #[true, true, true, true, true, true, true, true, false, false, false, true, false, false, false] rfl rfl (any_of HT_.out (by kernel_rfl)) (fun _ _ _ h => h) (Or.inl ⟨by rfl, ?_⟩) ?_ ?_
       rotate_left
       ·intro w'
        go_simp
        with_reducible rfl
       rotate_left
       ·simp only [Act.put, List.setIfInBounds_toArray, List.set_cons_zero, List.set_cons_succ, i64_w, i32_w]
        rfl
       refine pure_ (i := 8) (N := some 42) (v := ?_) (a' := ?_) #[true, true, true, true, true, true, true, true, true, false, false, true, false, false, false] rfl rfl (any_of HT_.out (by kernel_rfl)) (fun _ _ _ h => h) (Or.inl ⟨by rfl, ?_⟩) ?_ ?_
       rotate_left
       ·intro w'
        go_simp
        with_reducible rfl
       rotate_left
       ·simp only [Act.put, List.setIfInBounds_toArray, List.set_cons_zero, List.set_cons_succ, i64_w, i32_w]
        rfl
       refine pure_ (i := 9) (N := some 43) (v := ?_) (a' := ?_) #[true, true, true, true, true, true, true, true, true, true, false, true, false, false, false] rfl rfl (any_of HT_.out (by kernel_rfl)) (fun _ _ _ h => h) (Or.inl ⟨by rfl, ?_⟩) ?_ ?_
       rotate_left
       ·intro w'
        go_simp
        with_reducible rfl
       rotate_left
       ·simp only [Act.put, List.setIfInBounds_toArray, List.set_cons_zero, List.set_cons_succ, i64_w, i32_w]
        rfl
       refine pure_ (i := 10) (N := some 44) (v := ?_) (a' := ?_) #[true, true, true, true, true, true, true, true, true, true, true, true, false, false, false] rfl rfl (any_of HT_.out (by kernel_rfl)) (fun _ _ _ h => h) (Or.inl ⟨by rfl, ?_⟩) ?_ ?_
       rotate_left
       ·intro w'
        go_simp
        with_reducible rfl
       rotate_left
       ·simp only [Act.put, List.setIfInBounds_toArray, List.set_cons_zero, List.set_cons_succ, i64_w, i32_w]
        rfl
       exact norm_ sP_ (hCont (v556, gb560) _ ⟨hHeld, (by (with_reducible repeat (first | apply Kd.R_alloc | apply Kd.R_drewN | apply Kd.R_drew)); exact Kd.R_mono HO549.out (fun _ hk => ⟨hk.2, hk.1⟩)), (by (with_reducible repeat (first | apply Kd.R_alloc | apply Kd.R_drewN | apply Kd.R_drew)); exact Kd.R_mono HO557.out (fun _ hk => ⟨hk.2, hk.1.2⟩)), (sR_ HO_3.out), (sR_ HO_544002.out), (sB_ BK543.out), (sB_ BK551.out), (sB_ BK560.out), GW560.out, GE560.out, NB543_560.out, NB560_543.out, NB551_560.out, NB560_551.out, (sW_ HB.out)⟩)
      rintro ⟨v556, gb560⟩ w31 ⟨hS_, h0_, h1_, h2_, h3_, h4_, h5_, h6_, h7_, h8_, h9_, h10_, h11_, h12_, h13_⟩
      have n0_ : Aside0 (Kd.R (Kd.int .i64) 3 w31 w.heap.size (fun k_ => some k_ ≠ (v556 : Value).ownBlock ∧ some k_ ≠ (.slice Ao11 t540.length co11 : Value).ownBlock) (.slice Ao25 t547.length co25) t547) := ⟨h0_⟩
      have n1_ : Aside0 (Kd.R (Kd.int .i64) 3 w31 w.heap.size (fun k_ => some k_ ≠ (.slice Ao25 t547.length co25 : Value).ownBlock ∧ some k_ ≠ (.slice Ao11 t540.length co11 : Value).ownBlock) v556 t555) := ⟨h1_⟩
      have n2_ : Aside0 (Kd.R k68 68 w31 w.heap.size (fun _ => True) (.slice Ao26 t535.length co26) t535) := ⟨h2_⟩
      have n3_ : Aside0 (Kd.R (Kd.int .i64) 3 w31 w.heap.size (fun k_ => some k_ ≠ (.slice Ao25 t547.length co25 : Value).ownBlock ∧ some k_ ≠ (v556 : Value).ownBlock) (.slice Ao11 t540.length co11) t540) := ⟨h3_⟩
      have n4_ : Aside0 (w31.heap[gb543]? = some (.cells #[.int .i64 t538, .int .i64 t539, .slice Ao11 t540.length co11] 27 (0, 0))) := ⟨h4_⟩
      have n5_ : Aside0 (w31.heap[gb551]? = some (.cells #[.int .i64 t545, .int .i64 t546, .slice Ao25 t547.length co25] 27 (0, 0))) := ⟨h5_⟩
      have n6_ : Aside0 (w31.heap[gb560]? = some (.cells #[.int .i64 0, .int .i64 0, .slice none 0 0] 27 (0, 0))) := ⟨h6_⟩
      have n7_ : Aside0 (w.heap.size ≤ gb560) := ⟨h7_⟩
      have n8_ : Aside0 (w.heap.size ≤ gb560) := ⟨h8_⟩
      have n9_ : Aside0 (gb543 ≠ gb560) := ⟨h9_⟩
      have n10_ : Aside0 (gb560 ≠ gb543) := ⟨h10_⟩
      have n11_ : Aside0 (gb551 ≠ gb560) := ⟨h11_⟩
      have n12_ : Aside0 (gb560 ≠ gb551) := ⟨h12_⟩
      have n13_ : Aside0 (Below w.heap.size w w31) := ⟨h13_⟩
      clear HO_3 HO_544002 HO549 BK543 BK551 HB h0_ h1_ h2_ h3_ h4_ h5_ h6_ h7_ h8_ h9_ h10_ h11_ h12_ h13_; have HO549 := n0_; have HO557 := n1_; have HO_3 := n2_; have HO_544002 := n3_; have BK543 := n4_; have BK551 := n5_; have BK560 := n6_; have GW560 := n7_; have GE560 := n8_; have NB543_560 := n9_; have NB560_543 := n10_; have NB551_560 := n11_; have NB560_551 := n12_; have HB := n13_; clear n0_ n1_ n2_ n3_ n4_ n5_ n6_ n7_ n8_ n9_ n10_ n11_ n12_ n13_
      have hHeld : w31.cell? ⟨gb551, 0, none⟩ = some (.int .i64 t545) ∧ w31.cell? ⟨gb551, 1, none⟩ = some (.int .i64 t546) ∧ w31.cell? ⟨gb551, 2, none⟩ = some (.slice Ao25 t547.length co25) := hS_
      obtain ⟨Ao34, co34, eo34⟩ := Kd.R_slice HO557.out
      (first | subst eo34 | (injection eo34 with f1_ f2_ f3_; have f4_ := f1_.symm; have f5_ := f3_.symm; clear f1_ f2_ f3_; subst f4_; subst f5_))
      refine norm_ (a' := ?_) ?_ ?_
      rotate_left
      ·simp only [putAll, Act.put, List.setIfInBounds_toArray, List.set_cons_zero, List.set_cons_succ]
       rfl
      refine one_ (i := 12) (N := none) #[true, true, true, true, true, true, true, true, true, true, true, true, true, false, false] rfl rfl (one_of HT_.out (by kernel_rfl)) (by decide) (fun K hK => ?_)
      have hs32 : w31.cell? ⟨gb560, 0, none⟩ = some (.int .i64 0) := (blk_cell BK560.out 0).trans rfl
      have hfs32 := blk_frozen BK560.out 0
      have hns32_0 := NB543_560.out; have hns32_1 := NB551_560.out; have hms32_0 := NB560_543.out; have hms32_1 := NB560_551.out
      have hs33 : w31.cell? ⟨gb560, 1, none⟩ = some (.int .i64 0) := (blk_cell BK560.out 1).trans rfl
      have hfs33 := blk_frozen BK560.out 1
      have hns33_0 := NB543_560.out; have hns33_1 := NB551_560.out; have hms33_0 := NB560_543.out; have hms33_1 := NB560_551.out
      have hs35 : w31.cell? ⟨gb560, 2, none⟩ = some (.slice none 0 0) := (blk_cell BK560.out 2).trans rfl
      have hfs35 := blk_frozen BK560.out 2
      have hns35_0 := NB543_560.out; have hns35_1 := NB551_560.out; have hms35_0 := NB560_543.out; have hms35_1 := NB560_551.out
      refine skip_ (w1 := ?_) (by rfl) rfl ?_ ?_
      rotate_left
      ·go_simp
       rfl
      refine hK.out _ _ ⟨((cell_far (p := ⟨gb560, _, none⟩) NB551_560.out _).trans (((cell_far (p := ⟨gb560, _, none⟩) NB551_560.out _).trans (((cell_far (p := ⟨gb560, _, none⟩) NB551_560.out _).trans (hHeld.1)))))), ((cell_far (p := ⟨gb560, _, none⟩) NB551_560.out _).trans (((cell_far (p := ⟨gb560, _, none⟩) NB551_560.out _).trans (((cell_far (p := ⟨gb560, _, none⟩) NB551_560.out _).trans (hHeld.2.1)))))), ((cell_far (p := ⟨gb560, _, none⟩) NB551_560.out _).trans (((cell_far (p := ⟨gb560, _, none⟩) NB551_560.out _).trans (((cell_far (p := ⟨gb560, _, none⟩) NB551_560.out _).trans (hHeld.2.2))))))⟩ (fun hHeld => ?_)
      clear hK K
      refine pure_ (i := 13) (N := some 11) (v := ?_) (a' := ?_) #[true, true, true, true, true, true, true, true, true, true, true, true, true, true, false] rfl rfl (any_of HT_.out (by kernel_rfl)) (fun _ _ _ h => h) (Or.inl ⟨by rfl, ?_⟩) ?_ ?_
      rotate_left
      ·intro w'
       go_simp
       with_reducible rfl
      rotate_left
      ·simp only [Act.put, List.setIfInBounds_toArray, List.set_cons_zero, List.set_cons_succ, i64_w, i32_w]
       rfl
      refine pure_ (i := 14) (N := some 12) (v := ?_) (a' := ?_) #[true, true, true, true, true, true, true, true, true, true, true, true, true, true, true] rfl rfl (any_of HT_.out (by kernel_rfl)) (fun _ _ _ h => h) (Or.inl ⟨by rfl, ?_⟩) ?_ ?_
      rotate_left
      ·intro w'
       go_simp
       with_reducible rfl
      rotate_left
      ·simp only [Act.put, List.setIfInBounds_toArray, List.set_cons_zero, List.set_cons_succ, i64_w, i32_w]
       rfl
      refine done_ (done_of HT_.out (by kernel_rfl)) ?_
      try go_wp2
      have n0_ : Aside0 (Kd.R k68 68 (((w31.setCell ⟨gb560, 0, none⟩ (.int .i64 t553)).setCell ⟨gb560, 1, none⟩ (.int .i64 t554)).setCell ⟨gb560, 2, none⟩ (.slice Ao34 t555.length co34)) w.heap.size (fun _ => True) (.slice Ao26 t535.length co26) t535) := ⟨by (with_reducible repeat (first | apply Kd.R_alloc | apply Kd.R_drewN | apply Kd.R_drew)); exact Kd.R_mono (Kd.R_far (p := ⟨gb560, 2, none⟩) (Kd.R_far (p := ⟨gb560, 1, none⟩) (Kd.R_far (p := ⟨gb560, 0, none⟩) (Kd.R_types HO_3.out BK560.out (by decide)) (fun _ hk => hk.2) (.int .i64 t553)) (fun _ hk => hk.2) (.int .i64 t554)) (fun _ hk => hk.2) (.slice Ao34 t555.length co34)) (fun _ hk => trivial)⟩
      have n1_ : Aside0 (Kd.R (Kd.int .i64) 3 (((w31.setCell ⟨gb560, 0, none⟩ (.int .i64 t553)).setCell ⟨gb560, 1, none⟩ (.int .i64 t554)).setCell ⟨gb560, 2, none⟩ (.slice Ao34 t555.length co34)) w.heap.size (fun k_ => some k_ ≠ (.slice Ao25 t547.length co25 : Value).ownBlock ∧ some k_ ≠ (.slice Ao34 t555.length co34 : Value).ownBlock) (.slice Ao11 t540.length co11) t540) := ⟨by (with_reducible repeat (first | apply Kd.R_alloc | apply Kd.R_drewN | apply Kd.R_drew)); exact Kd.R_mono (Kd.R_far (p := ⟨gb560, 2, none⟩) (Kd.R_far (p := ⟨gb560, 1, none⟩) (Kd.R_far (p := ⟨gb560, 0, none⟩) (Kd.R_types HO_544002.out BK560.out (by decide)) (fun _ hk => hk.2) (.int .i64 t553)) (fun _ hk => hk.2) (.int .i64 t554)) (fun _ hk => hk.2) (.slice Ao34 t555.length co34)) (fun _ hk => ⟨hk.1.1, hk.1.2⟩)⟩
      have n2_ : Aside0 (Kd.R (Kd.int .i64) 3 (((w31.setCell ⟨gb560, 0, none⟩ (.int .i64 t553)).setCell ⟨gb560, 1, none⟩ (.int .i64 t554)).setCell ⟨gb560, 2, none⟩ (.slice Ao34 t555.length co34)) w.heap.size (fun k_ => some k_ ≠ (.slice Ao11 t540.length co11 : Value).ownBlock ∧ some k_ ≠ (.slice Ao34 t555.length co34 : Value).ownBlock) (.slice Ao25 t547.length co25) t547) := ⟨by (with_reducible repeat (first | apply Kd.R_alloc | apply Kd.R_drewN | apply Kd.R_drew)); exact Kd.R_mono (Kd.R_far (p := ⟨gb560, 2, none⟩) (Kd.R_far (p := ⟨gb560, 1, none⟩) (Kd.R_far (p := ⟨gb560, 0, none⟩) (Kd.R_types HO549.out BK560.out (by decide)) (fun _ hk => hk.2) (.int .i64 t553)) (fun _ hk => hk.2) (.int .i64 t554)) (fun _ hk => hk.2) (.slice Ao34 t555.length co34)) (fun _ hk => ⟨hk.1.2, hk.1.1⟩)⟩
      have n3_ : Aside0 (Kd.R (Kd.int .i64) 3 (((w31.setCell ⟨gb560, 0, none⟩ (.int .i64 t553)).setCell ⟨gb560, 1, none⟩ (.int .i64 t554)).setCell ⟨gb560, 2, none⟩ (.slice Ao34 t555.length co34)) w.heap.size (fun k_ => some k_ ≠ (.slice Ao11 t540.length co11 : Value).ownBlock ∧ some k_ ≠ (.slice Ao25 t547.length co25 : Value).ownBlock) (.slice Ao34 t555.length co34) t555) := ⟨by (with_reducible repeat (first | apply Kd.R_alloc | apply Kd.R_drewN | apply Kd.R_drew)); exact Kd.R_mono (Kd.R_far (p := ⟨gb560, 2, none⟩) (Kd.R_far (p := ⟨gb560, 1, none⟩) (Kd.R_far (p := ⟨gb560, 0, none⟩) (Kd.R_types HO557.out BK560.out (by decide)) (fun _ hk => hk.2) (.int .i64 t553)) (fun _ hk => hk.2) (.int .i64 t554)) (fun _ hk => hk.2) (.slice Ao34 t555.length co34)) (fun _ hk => ⟨hk.1.2, hk.1.1⟩)⟩
      have n4_ : Aside0 ((((w31.setCell ⟨gb560, 0, none⟩ (.int .i64 t553)).setCell ⟨gb560, 1, none⟩ (.int .i64 t554)).setCell ⟨gb560, 2, none⟩ (.slice Ao34 t555.length co34)).heap[gb543]? = some (.cells #[.int .i64 t538, .int .i64 t539, .slice Ao11 t540.length co11] 27 (0, 0))) := ⟨by refine sB_ ?_; refine blk_far ?_ NB543_560.out _; refine sB_ ?_; refine blk_far ?_ NB543_560.out _; refine sB_ ?_; refine blk_far ?_ NB543_560.out _; refine sB_ ?_; exact BK543.out⟩
      have n5_ : Aside0 ((((w31.setCell ⟨gb560, 0, none⟩ (.int .i64 t553)).setCell ⟨gb560, 1, none⟩ (.int .i64 t554)).setCell ⟨gb560, 2, none⟩ (.slice Ao34 t555.length co34)).heap[gb551]? = some (.cells #[.int .i64 t545, .int .i64 t546, .slice Ao25 t547.length co25] 27 (0, 0))) := ⟨by refine sB_ ?_; refine blk_far ?_ NB551_560.out _; refine sB_ ?_; refine blk_far ?_ NB551_560.out _; refine sB_ ?_; refine blk_far ?_ NB551_560.out _; refine sB_ ?_; exact BK551.out⟩
      have n6_ : Aside0 ((((w31.setCell ⟨gb560, 0, none⟩ (.int .i64 t553)).setCell ⟨gb560, 1, none⟩ (.int .i64 t554)).setCell ⟨gb560, 2, none⟩ (.slice Ao34 t555.length co34)).heap[gb560]? = some (.cells #[.int .i64 t553, .int .i64 t554, .slice Ao34 t555.length co34] 27 (0, 0))) := ⟨by refine sB_ ?_; refine blk_put (cs := #[.int .i64 t553, .int .i64 t554, .slice none 0 0]) ?_ 2 _ rfl; refine sB_ ?_; refine blk_put (cs := #[.int .i64 t553, .int .i64 0, .slice none 0 0]) ?_ 1 _ rfl; refine sB_ ?_; refine blk_put (cs := #[.int .i64 0, .int .i64 0, .slice none 0 0]) ?_ 0 _ rfl; refine sB_ ?_; exact BK560.out⟩
      have n7_ : Aside0 (Below w.heap.size w (((w31.setCell ⟨gb560, 0, none⟩ (.int .i64 t553)).setCell ⟨gb560, 1, none⟩ (.int .i64 t554)).setCell ⟨gb560, 2, none⟩ (.slice Ao34 t555.length co34))) := ⟨by repeat (first | (with_reducible first | exact HB.out | apply below_alloc | apply pw_below_drewN | apply below_drew1 | refine below_set ?_ GE543.out | refine below_set ?_ GE551.out | refine below_set ?_ GE560.out) | exact HB.out)⟩
      (try clear HO_3)
      (try clear HO_544002)
      (try clear HO549)
      (try clear HO557)
      (try clear BK543)
      (try clear BK551)
      (try clear BK560)
      (try clear HB)
      generalize (((w31.setCell ⟨gb560, 0, none⟩ (.int .i64 t553)).setCell ⟨gb560, 1, none⟩ (.int .i64 t554)).setCell ⟨gb560, 2, none⟩ (.slice Ao34 t555.length co34)) = w36 at n0_ n1_ n2_ n3_ n4_ n5_ n6_ n7_ ⊢
      have HO_3 := n0_; have HO_544002 := n1_; have HO549 := n2_; have HO557 := n3_; have BK543 := n4_; have BK551 := n5_; have BK560 := n6_; have HB := n7_; clear n0_ n1_ n2_ n3_ n4_ n5_ n6_ n7_
      have n0_ := Aside0.mk (Kd.R_drew HO_3.out)
      have n1_ := Aside0.mk (Kd.R_drew HO_544002.out)
      have n2_ := Aside0.mk (Kd.R_drew HO549.out)
      have n3_ := Aside0.mk (Kd.R_drew HO557.out)
      have n4_ := Aside0.mk (blk_drew BK543.out)
      have n5_ := Aside0.mk (blk_drew BK551.out)
      have n6_ := Aside0.mk (blk_drew BK560.out)
      have n7_ := Aside0.mk (below_drew1 HB.out)
      clear HO_3 HO_544002 HO549 HO557 BK543 BK551 BK560 HB; have HO_3 := n0_; have HO_544002 := n1_; have HO549 := n2_; have HO557 := n3_; have BK543 := n4_; have BK551 := n5_; have BK560 := n6_; have HB := n7_; clear n0_ n1_ n2_ n3_ n4_ n5_ n6_ n7_
      refine start_ (n := 18) (S := fun w' => w'.cell? ⟨gb560, 0, none⟩ = some (.int .i64 t553) ∧ w'.cell? ⟨gb560, 1, none⟩ = some (.int .i64 t554) ∧ w'.cell? ⟨gb560, 2, none⟩ = some (.slice Ao34 t555.length co34) ∧ w'.cell? ⟨gb543, 0, none⟩ = some (.int .i64 t538) ∧ w'.cell? ⟨gb543, 1, none⟩ = some (.int .i64 t539) ∧ w'.cell? ⟨gb543, 2, none⟩ = some (.slice Ao11 t540.length co11)) (ds := []) #[false, false, false, false, false, false, false, false, false, false, false, false, false, false, false, false, false, false] (by kernel_rfl) rfl rfl ⟨(blk_cell BK560.out 0).trans rfl, (blk_cell BK560.out 1).trans rfl, (blk_cell BK560.out 2).trans rfl, (blk_cell BK543.out 0).trans rfl, (blk_cell BK543.out 1).trans rfl, (blk_cell BK543.out 2).trans rfl⟩ (fun hHeld => ?_); refine with_tabW laws_FnEmpty.tab13 laws_FnEmpty.bits13 (fun HT_ HW_ => ?_)
      generalize w36.drew = w37 at HO_3 HO_544002 HO549 HO557 BK543 BK551 BK560 HB hHeld ⊢
      refine pure_ (i := 0) (N := some 45) (v := ?_) (a' := ?_) #[true, false, false, false, false, false, false, false, false, false, false, false, false, false, false, false, false, false] rfl rfl (any_of HT_.out (by kernel_rfl)) (fun _ _ _ h => h) (Or.inl ⟨by rfl, ?_⟩) ?_ ?_
      rotate_left
      ·intro w'
       go_simp
       with_reducible rfl
      rotate_left
      ·simp only [Act.put, List.setIfInBounds_toArray, List.set_cons_zero, List.set_cons_succ, i64_w, i32_w]
       rfl
      refine pure_ (i := 1) (N := some 46) (v := ?_) (a' := ?_) #[true, true, false, false, false, false, false, false, false, false, false, false, false, false, false, false, false, false] rfl rfl (any_of HT_.out (by kernel_rfl)) (fun _ _ _ h => h) (Or.inl ⟨by rfl, ?_⟩) ?_ ?_
      rotate_left
      ·intro w'
       go_simp
       with_reducible rfl
      rotate_left
      ·simp only [Act.put, List.setIfInBounds_toArray, List.set_cons_zero, List.set_cons_succ, i64_w, i32_w]
       rfl
      refine pure_ (i := 2) (N := some 47) (v := ?_) (a' := ?_) #[true, true, true, false, false, false, false, false, false, false, false, false, false, false, false, false, false, false] rfl rfl (any_of HT_.out (by kernel_rfl)) (fun _ _ _ h => h) (Or.inl ⟨by rfl, ?_⟩) ?_ ?_
      rotate_left
      ·intro w'
       go_simp
       with_reducible rfl
      rotate_left
      ·simp only [Act.put, List.setIfInBounds_toArray, List.set_cons_zero, List.set_cons_succ, i64_w, i32_w]
       rfl
      refine pure_ (i := 3) (N := some 48) (v := ?_) (a' := ?_) #[true, true, true, true, false, false, false, false, false, false, false, false, false, false, false, false, false, false] rfl rfl (any_of HT_.out (by kernel_rfl)) (fun _ _ _ h => h) (Or.inl ⟨by rfl, ?_⟩) ?_ ?_
      rotate_left
      ·intro w'
       go_simp
       with_reducible rfl
      rotate_left
      ·simp only [Act.put, List.setIfInBounds_toArray, List.set_cons_zero, List.set_cons_succ, i64_w, i32_w]
       rfl
      refine pure_ (i := 4) (N := some 49) (v := ?_) (a' := ?_) #[true, true, true, true, true, false, false, false, false, false, false, false, false, false, false, false, false, false] rfl rfl (any_of HT_.out (by kernel_rfl)) (fun _ _ _ h => h) (Or.inl ⟨by rfl, ?_⟩) ?_ ?_
      rotate_left
      ·intro w'
       go_simp
       with_reducible rfl
      rotate_left
      ·simp only [Act.put, List.setIfInBounds_toArray, List.set_cons_zero, List.set_cons_succ, i64_w, i32_w]
       rfl
      refine pure_ (i := 5) (N := some 50) (v := ?_) (a' := ?_) #[true, true, true, true, true, true, false, false, false, false, false, false, false, false, false, false, false, false] rfl rfl (any_of HT_.out (by kernel_rfl)) (fun _ _ _ h => h) (Or.inl ⟨by rfl, ?_⟩) ?_ ?_
      rotate_left
      ·intro w'
       go_simp
       with_reducible rfl
      rotate_left
      ·simp only [Act.put, List.setIfInBounds_toArray, List.set_cons_zero, List.set_cons_succ, i64_w, i32_w]
       rfl
      refine pure_ (i := 6) (N := some 51) (v := ?_) (a' := ?_) #[true, true, true, true, true, true, true, false, false, false, false, false, false, false, false, false, false, false] rfl rfl (any_of HT_.out (by kernel_rfl)) (fun _ _ _ h => h) (Or.inl ⟨by rfl, ?_⟩) ?_ ?_
      rotate_left
      ·intro w'
       go_simp
       with_reducible rfl
      rotate_left
      ·simp only [Act.put, List.setIfInBounds_toArray, List.set_cons_zero, List.set_cons_succ, i64_w, i32_w]
       rfl
      refine pure_ (i := 7) (N := some 52) (v := ?_) (a' := ?_) #[true, true, true, true, true, true, true, true, false, false, false, false, false, false, false, false, false, false] rfl rfl (any_of HT_.out (by kernel_rfl)) (fun _ _ _ h => h) (Or.inl ⟨by rfl, ?_⟩) ?_ ?_
      rotate_left
      ·intro w'
       go_simp
       with_reducible rfl
      rotate_left
      ·simp only [Act.put, List.setIfInBounds_toArray, List.set_cons_zero, List.set_cons_succ, i64_w, i32_w]
       rfl
      refine pure_ (i := 8) (N := some 53) (v := ?_) (a' := ?_) #[true, true, true, true, true, true, true, true, true, false, false, false, false, false, false, false, false, false] rfl rfl (any_of HT_.out (by kernel_rfl)) (fun _ _ _ h => h) (Or.inl ⟨by rfl, ?_⟩) ?_ ?_
      rotate_left
      ·intro w'
       go_simp
       with_reducible rfl
      rotate_left
      ·simp only [Act.put, List.setIfInBounds_toArray, List.set_cons_zero, List.set_cons_succ, i64_w, i32_w]
       rfl
      refine pure_ (i := 10) (N := some 55) (v := ?_) (a' := ?_) #[true, true, true, true, true, true, true, true, true, false, true, false, false, false, false, false, false, false] rfl rfl (any_of HT_.out (by kernel_rfl)) (fun _ _ _ h => h) (Or.inl ⟨by rfl, ?_⟩) ?_ ?_
      rotate_left
      ·intro w'
       go_simp
       with_reducible rfl
      rotate_left
      ·simp only [Act.put, List.setIfInBounds_toArray, List.set_cons_zero, List.set_cons_succ, i64_w, i32_w]
       rfl
      refine pure_ (i := 12) (N := some 57) (v := ?_) (a' := ?_) #[true, true, true, true, true, true, true, true, true, false, true, false, true, false, false, false, false, false] rfl rfl (any_of HT_.out (by kernel_rfl)) (fun _ _ _ h => h) (Or.inl ⟨by rfl, ?_⟩) ?_ ?_
      rotate_left
      ·intro w'
       go_simp
       with_reducible rfl
      rotate_left
      ·simp only [Act.put, List.setIfInBounds_toArray, List.set_cons_zero, List.set_cons_succ, i64_w, i32_w]
       rfl
      refine take_ (i := 9) (N := some 54) (v := ?_) (a' := ?_) #[true, true, true, true, true, true, true, true, true, true, true, false, true, false, false, false, false, false] rfl rfl (take_ofW HT_.out HW_.out (by kernel_rfl)) (fun _ _ _ h => h) (Or.inl ⟨by rfl, ?_⟩) hHeld ?_ ?_
      rotate_left
      ·rintro w' ⟨s0, s1, s2, s3, s4, s5⟩
       go_simp
       with_reducible rfl
      rotate_left
      ·simp only [Act.put, List.setIfInBounds_toArray, List.set_cons_zero, List.set_cons_succ, i64_w, i32_w]
       rfl
      refine take_ (i := 13) (N := some 58) (v := ?_) (a' := ?_) #[true, true, true, true, true, true, true, true, true, true, true, false, true, true, false, false, false, false] rfl rfl (take_ofW HT_.out HW_.out (by kernel_rfl)) (fun _ _ _ h => h) (Or.inl ⟨by rfl, ?_⟩) hHeld ?_ ?_
      rotate_left
      ·rintro w' ⟨s0, s1, s2, s3, s4, s5⟩
       go_simp
       with_reducible rfl
      rotate_left
      ·simp only [Act.put, List.setIfInBounds_toArray, List.set_cons_zero, List.set_cons_succ, i64_w, i32_w]
       rfl
      refine pure_ (i := 14) (N := some 59) (v := ?_) (a' := ?_) #[true, true, true, true, true, true, true, true, true, true, true, false, true, true, true, false, false, false] rfl rfl (any_of HT_.out (by kernel_rfl)) (fun _ _ _ h => h) (Or.inl ⟨by rfl, ?_⟩) ?_ ?_
      rotate_left
      ·intro w'
       go_simp
       with_reducible rfl
      rotate_left
      ·simp only [Act.put, List.setIfInBounds_toArray, List.set_cons_zero, List.set_cons_succ, i64_w, i32_w]
       rfl
      refine one_ (i := 11) (N := some 56) #[true, true, true, true, true, true, true, true, true, true, true, true, true, true, true, false, false, false] rfl rfl (one_of HT_.out (by kernel_rfl)) (by decide) (fun K hK => ?_)
      refine goes_ Try.func14 (by kernel_rfl) rfl #[.agg #[.int .i64 t553, .int .i64 t554, .slice Ao34 t555.length co34], .int .i64 x7_5] (by rfl) rfl rfl sL_ ?_
      with_reducible refine (impl_CountInk.calls kj5 t553 t554 _ _ t555 x7_5 t561 _ ?side1 ?side2 A19.out).mono ?_
      (case side1 => repeat (first | exact (Kd.R_reads' HO557.out).2.2 | (with_reducible refine Kd.C_alloc ?_ _) | (with_reducible refine Kd.C_drewN ?_ _) | (with_reducible refine Kd.C_drew ?_)))
      (case side2 => exact (Kd.R_reads' HO557.out).2.1)
      rintro e w38 ⟨rfl, hb⟩
      refine ⟨_, rfl, ?_⟩
      have n0_ := Aside0.mk (Kd.R_below (sR_ HO_3.out) hb)
      have n1_ := Aside0.mk (Kd.R_below (sR_ HO_544002.out) hb)
      have n2_ := Aside0.mk (Kd.R_below (sR_ HO549.out) hb)
      have n3_ := Aside0.mk (Kd.R_below (sR_ HO557.out) hb)
      have n4_ := Aside0.mk (blk_below (sB_ BK543.out) hb)
      have n5_ := Aside0.mk (blk_below (sB_ BK551.out) hb)
      have n6_ := Aside0.mk (blk_below (sB_ BK560.out) hb)
      have n7_ := Aside0.mk (below_step (sW_ HB.out) hb)
      clear HO_3 HO_544002 HO549 HO557 BK543 BK551 BK560 HB; have HO_3 := n0_; have HO_544002 := n1_; have HO549 := n2_; have HO557 := n3_; have BK543 := n4_; have BK551 := n5_; have BK560 := n6_; have HB := n7_; clear n0_ n1_ n2_ n3_ n4_ n5_ n6_ n7_
      (try clear hb)
      (try clear hb2)
      (try clear hk)
      (try clear hi)
      refine hK.out _ _ ⟨(blk_cell BK560.out 0).trans rfl, (blk_cell BK560.out 1).trans rfl, (blk_cell BK560.out 2).trans rfl, (blk_cell BK543.out 0).trans rfl, (blk_cell BK543.out 1).trans rfl, (blk_cell BK543.out 2).trans rfl⟩ (fun hHeld => ?_)
      clear hK K
      refine norm_ (a' := ?_) ?_ ?_
      rotate_left
      ·show Act.put _ (some 56) _ = _
       simp only [Act.put, List.setIfInBounds_toArray, List.set_cons_zero, List.set_cons_succ, i64_w, i32_w]
       rfl
      refine pure_ (i := 15) (N := some 60) (v := ?_) (a' := ?_) #[true, true, true, true, true, true, true, true, true, true, true, true, true, true, true, true, false, false] rfl rfl (any_of HT_.out (by kernel_rfl)) (fun _ _ _ h => h) (Or.inl ⟨by rfl, ?_⟩) ?_ ?_
      rotate_left
      ·intro w'
       go_simp
       with_reducible rfl
      rotate_left
      ·simp only [Act.put, List.setIfInBounds_toArray, List.set_cons_zero, List.set_cons_succ, i64_w, i32_w]
       rfl
      refine pure_ (i := 16) (N := some 61) (v := ?_) (a' := ?_) #[true, true, true, true, true, true, true, true, true, true, true, true, true, true, true, true, true, false] rfl rfl (any_of HT_.out (by kernel_rfl)) (fun _ _ _ h => h) (Or.inl ⟨by rfl, ?_⟩) ?_ ?_
      rotate_left
      ·intro w'
       go_simp
       with_reducible rfl
      rotate_left
      ·simp only [Act.put, List.setIfInBounds_toArray, List.set_cons_zero, List.set_cons_succ, i64_w, i32_w]
       rfl
      refine pure_ (i := 17) (N := some 2) (v := ?_) (a' := ?_) #[true, true, true, true, true, true, true, true, true, true, true, true, true, true, true, true, true, true] rfl rfl (any_of HT_.out (by kernel_rfl)) (fun _ _ _ h => h) (Or.inl ⟨by rfl, ?_⟩) ?_ ?_
      rotate_left
      ·intro w'
       go_simp
       with_reducible rfl
      rotate_left
      ·simp only [Act.put, List.setIfInBounds_toArray, List.set_cons_zero, List.set_cons_succ, i64_w, i32_w]
       rfl
      refine done_ (done_of HT_.out (by kernel_rfl)) ?_
      try go_wp2
      go_ret
      exact ⟨by first | rfl | (simp [errW_none, errW_some] <;> rfl) | (simp [*, errW_none, errW_some] <;> rfl), by repeat (first | (with_reducible first | exact HB.out | apply below_alloc | apply pw_below_drewN | apply below_drew1 | refine below_set ?_ GE543.out | refine below_set ?_ GE551.out | refine below_set ?_ GE560.out) | exact HB.out)⟩
     rw [if_neg c18] at H
     have c18b0 : (t558 == 0) = false := beq_eq_false_iff_ne.mpr c18
     have c18b1 : (t558 != 0) = true := bne_iff_ne.mpr c18
     exact absurd ((Option.some.inj H).trans hT.out) (by decide)
    replace c17 := Bool.eq_false_iff.mpr c17
    subst c17
    have H1 : (some false) = some r := by rw [if_neg (show ¬ (false = true) by decide)] at H; exact H
    clear H; have H := H1; clear H1
    exact absurd ((Option.some.inj H).trans hT.out) (by decide)
   replace c16 := Bool.eq_false_iff.mpr c16
   subst c16
   have H1 : (some false) = some r := by rw [if_neg (show ¬ (false = true) by decide)] at H; exact H
   clear H; have H := H1; clear H1
   exact absurd ((Option.some.inj H).trans hT.out) (by decide)

end Go.Proofs.Ytndnklicfibkeaa.P
