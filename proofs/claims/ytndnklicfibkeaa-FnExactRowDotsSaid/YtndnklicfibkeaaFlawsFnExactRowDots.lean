-- Written by tools/seatprint.py (over the kit's print, changed in memory). Not trusted: Lean checks it.
import Derived.Test.YtndnklicfibkeaaP0
import Derived.Test.YtndnklicfibkeaaFimplRowDots
import Derived.Test.YtndnklicfibkeaaFlawstoIntS
import Derived.Test.YtndnklicfibkeaaFlawseqIntS
import Derived.Test.YtndnklicfibkeaaFlawsmarkIntS
import Derived.Test.YtndnklicfibkeaaFlawsheldIntS
import Derived.Test.YtndnklicfibkeaaFspecRowDots
namespace Go.Proofs.Ytndnklicfibkeaa.P
open Go.RowKit Go.Proofs.YtndnklicfibkeaaW.PrintWords Go.Proofs.YtndnklicfibkeaaW.PrintLast Go.Proofs.YtndnklicfibkeaaW.PrintMore
attribute [local go_sem] max2_int min2_int max_two min_two max_three min_three max_four min_four   -- for this text's walks alone
set_option linter.unusedVariables false
set_option linter.unusedSimpArgs false

/-! ### laws_FnExactRowDots: function 7 -/
def laws_FnExactRowDots.j0 : Nat → List Int → List Int → List Int → Bool → Option (Bool)
  | 0, _, _, _, _ => none
  | k + 1, x0, x3, x5, x39 => if x39 = true then (some false) else ((laws_markIntS.f k x5 1).bind fun bt634 => ((laws_heldIntS.f k bt634.2 1).bind fun t636 => (if t636 < 0 then (some false) else (if t636 = bt634.1 then ((laws_toIntS.f k x0).bind fun t637 => ((impl_RowDots.f k t637).bind fun t640 => ((laws_eqIntS.f k t640 x3).bind fun t643 => (if t643 = true then ((laws_heldIntS.f k bt634.2 1).bind fun t644 => (if t644 < 0 then (some false) else (if t644 = bt634.1 then (some true) else (some false)))) else (some false))))) else (some false)))))
def laws_FnExactRowDots.f (k : Nat) (l0 : List Int) : Option (Bool) := if (l0.length : Int) > 1048576 then (some true) else ((laws_toIntS.f k l0).bind fun t614 => ((spec_RowDots.f k t614).bind fun t617 => ((laws_toIntS.f k l0).bind fun t620 => ((impl_RowDots.f k t620).bind fun t623 => ((laws_eqIntS.f k t623 t617).bind fun t626 => (if t626 = true then ((laws_toIntS.f k l0).bind fun t627 => ((laws_eqIntS.f k t620 t627).bind fun t630 => (if t630 = true then ((laws_markIntS.f k t620 1).bind fun bt631 => (if bt631.1 < 0 then (laws_FnExactRowDots.j0 k l0 t617 t623 true) else ((laws_eqIntS.f k t623 t617).bind fun t633 => (laws_FnExactRowDots.j0 k l0 t617 t623 (!t633))))) else (some false)))) else (some false)))))))
theorem laws_FnExactRowDots.mono_l : ∀ k, (∀ y0 y1 y2 y3, LeO (laws_FnExactRowDots.j0 k y0 y1 y2 y3) (laws_FnExactRowDots.j0 (k + 1) y0 y1 y2 y3))
  | 0 => fun _ _ _ _ r h => by simp [laws_FnExactRowDots.j0] at h
  | k + 1 => by
    have ih0 := laws_FnExactRowDots.mono_l k
    · intro y0 y1 y2 y3
      unfold laws_FnExactRowDots.j0
      repeat' first
      | (with_reducible exact ih0 _ _ _ _)
      | (with_reducible exact impl_RowDots.mono _ _)
      | (with_reducible exact laws_eqIntS.mono _ _ _)
      | (with_reducible exact laws_heldIntS.mono _ _ _)
      | (with_reducible exact laws_markIntS.mono _ _ _)
      | (with_reducible exact laws_toIntS.mono _ _)
      | (with_reducible exact spec_RowDots.mono _ _)
      | (with_reducible exact LeO.refl _)
      | (with_reducible exact LeO.none _)
      | (with_reducible refine LeO.ite ?_ ?_)
      | (with_reducible refine LeO.bind ?_ (fun _ => ?_))
      | exact ih0 _ _ _ _
      | exact impl_RowDots.mono _ _
      | exact laws_eqIntS.mono _ _ _
      | exact laws_heldIntS.mono _ _ _
      | exact laws_markIntS.mono _ _ _
      | exact laws_toIntS.mono _ _
      | exact spec_RowDots.mono _ _
      | exact LeO.none _
      | refine LeO.ite ?_ ?_
      | refine LeO.bind ?_ (fun _ => ?_)
theorem laws_FnExactRowDots.mono : ∀ a0 k, LeO (laws_FnExactRowDots.f k a0) (laws_FnExactRowDots.f (k + 1) a0) := by
  intro a0 k
  have ih0 := laws_FnExactRowDots.mono_l k
  unfold laws_FnExactRowDots.f
  repeat' first
      | (with_reducible exact ih0 _ _ _ _)
      | (with_reducible exact impl_RowDots.mono _ _)
      | (with_reducible exact laws_eqIntS.mono _ _ _)
      | (with_reducible exact laws_heldIntS.mono _ _ _)
      | (with_reducible exact laws_markIntS.mono _ _ _)
      | (with_reducible exact laws_toIntS.mono _ _)
      | (with_reducible exact spec_RowDots.mono _ _)
      | (with_reducible exact LeO.refl _)
      | (with_reducible exact LeO.none _)
      | (with_reducible refine LeO.ite ?_ ?_)
      | (with_reducible refine LeO.bind ?_ (fun _ => ?_))
      | exact ih0 _ _ _ _
      | exact impl_RowDots.mono _ _
      | exact laws_eqIntS.mono _ _ _
      | exact laws_heldIntS.mono _ _ _
      | exact laws_markIntS.mono _ _ _
      | exact laws_toIntS.mono _ _
      | exact spec_RowDots.mono _ _
      | exact LeO.none _
      | refine LeO.ite ?_ ?_
      | refine LeO.bind ?_ (fun _ => ?_)
set_option maxHeartbeats 8000000 in
set_option maxRecDepth 100000 in
theorem laws_FnExactRowDots.calls (k : Nat) (A0 : Option Addr) (c0 : Nat) (l0 : List Int) (r : Bool) (w : World) (hr0 : Kd.C (Kd.int .i64) w A0 l0.length l0) (hc0 : l0.length ≤ c0) (hT : Aside0 (r = true)) (h : laws_FnExactRowDots.f k l0 = some r) :
  Calls Try.prog 7 #[.slice A0 l0.length c0] w fun e w' => e = .returned (.bool r) ∧ Below w.heap.size w w' := by
 have HR0 := Aside0.mk hr0
 have HC0 := Aside0.mk hc0
 clear hr0 hc0
 have HB := Aside0.mk (Below.refl w.heap.size w)
 have H : (if (l0.length : Int) > 1048576 then (some true) else ((laws_toIntS.f k l0).bind fun t614 => ((spec_RowDots.f k t614).bind fun t617 => ((laws_toIntS.f k l0).bind fun t620 => ((impl_RowDots.f k t620).bind fun t623 => ((laws_eqIntS.f k t623 t617).bind fun t626 => (if t626 = true then ((laws_toIntS.f k l0).bind fun t627 => ((laws_eqIntS.f k t620 t627).bind fun t630 => (if t630 = true then ((laws_markIntS.f k t620 1).bind fun bt631 => (if bt631.1 < 0 then (laws_FnExactRowDots.j0 k l0 t617 t623 true) else ((laws_eqIntS.f k t623 t617).bind fun t633 => (laws_FnExactRowDots.j0 k l0 t617 t623 (!t633))))) else (some false)))) else (some false)))))))) = some r := h
 clear h
 by_cases c2 : (l0.length : Int) > 1048576
 ·rw [if_pos c2] at H
  have c2b0 : decide (1048576 < (l0.length : Int)) = true := decide_eq_true c2
  have c2b1 : decide (1048576 < l0.length) = true := decide_eq_true (by omega)
  clear c2
  obtain rfl := Option.some.inj H
  go_enter Try.func7, Try.ntmps7
  go_wp2
  go_ret
  exact ⟨by first | rfl | (simp [errW_none, errW_some] <;> rfl) | (simp [*, errW_none, errW_some] <;> rfl), by repeat (first | (with_reducible first | exact HB.out | apply below_alloc | apply pw_below_drewN | apply below_drew1) | exact HB.out)⟩
 rw [if_neg c2] at H
 have c2b0 : decide (1048576 < (l0.length : Int)) = false := decide_eq_false c2
 have c2b1 : decide (1048576 < l0.length) = false := decide_eq_false (by omega)
 clear c2
 replace H := Option.bind_eq_some_iff.mp H
 obtain ⟨t614, A30, H⟩ := H
 replace H : ((spec_RowDots.f k t614).bind fun t617 => ((laws_toIntS.f k l0).bind fun t620 => ((impl_RowDots.f k t620).bind fun t623 => ((laws_eqIntS.f k t623 t617).bind fun t626 => (if t626 = true then ((laws_toIntS.f k l0).bind fun t627 => ((laws_eqIntS.f k t620 t627).bind fun t630 => (if t630 = true then ((laws_markIntS.f k t620 1).bind fun bt631 => (if bt631.1 < 0 then (laws_FnExactRowDots.j0 k l0 t617 t623 true) else ((laws_eqIntS.f k t623 t617).bind fun t633 => (laws_FnExactRowDots.j0 k l0 t617 t623 (!t633))))) else (some false)))) else (some false)))))) = some r := H
 have A3 := Aside0.mk A30
 clear A30
 replace H := Option.bind_eq_some_iff.mp H
 obtain ⟨t617, A40, H⟩ := H
 replace H : ((laws_toIntS.f k l0).bind fun t620 => ((impl_RowDots.f k t620).bind fun t623 => ((laws_eqIntS.f k t623 t617).bind fun t626 => (if t626 = true then ((laws_toIntS.f k l0).bind fun t627 => ((laws_eqIntS.f k t620 t627).bind fun t630 => (if t630 = true then ((laws_markIntS.f k t620 1).bind fun bt631 => (if bt631.1 < 0 then (laws_FnExactRowDots.j0 k l0 t617 t623 true) else ((laws_eqIntS.f k t623 t617).bind fun t633 => (laws_FnExactRowDots.j0 k l0 t617 t623 (!t633))))) else (some false)))) else (some false))))) = some r := H
 have A4 := Aside0.mk A40
 clear A40
 replace H := Option.bind_eq_some_iff.mp H
 obtain ⟨t620, A50, H⟩ := H
 replace H : ((impl_RowDots.f k t620).bind fun t623 => ((laws_eqIntS.f k t623 t617).bind fun t626 => (if t626 = true then ((laws_toIntS.f k l0).bind fun t627 => ((laws_eqIntS.f k t620 t627).bind fun t630 => (if t630 = true then ((laws_markIntS.f k t620 1).bind fun bt631 => (if bt631.1 < 0 then (laws_FnExactRowDots.j0 k l0 t617 t623 true) else ((laws_eqIntS.f k t623 t617).bind fun t633 => (laws_FnExactRowDots.j0 k l0 t617 t623 (!t633))))) else (some false)))) else (some false)))) = some r := H
 have A5 := Aside0.mk A50
 clear A50
 replace H := Option.bind_eq_some_iff.mp H
 obtain ⟨t623, A60, H⟩ := H
 replace H : ((laws_eqIntS.f k t623 t617).bind fun t626 => (if t626 = true then ((laws_toIntS.f k l0).bind fun t627 => ((laws_eqIntS.f k t620 t627).bind fun t630 => (if t630 = true then ((laws_markIntS.f k t620 1).bind fun bt631 => (if bt631.1 < 0 then (laws_FnExactRowDots.j0 k l0 t617 t623 true) else ((laws_eqIntS.f k t623 t617).bind fun t633 => (laws_FnExactRowDots.j0 k l0 t617 t623 (!t633))))) else (some false)))) else (some false))) = some r := H
 have A6 := Aside0.mk A60
 clear A60
 replace H := Option.bind_eq_some_iff.mp H
 obtain ⟨t626, A70, H⟩ := H
 replace H : (if t626 = true then ((laws_toIntS.f k l0).bind fun t627 => ((laws_eqIntS.f k t620 t627).bind fun t630 => (if t630 = true then ((laws_markIntS.f k t620 1).bind fun bt631 => (if bt631.1 < 0 then (laws_FnExactRowDots.j0 k l0 t617 t623 true) else ((laws_eqIntS.f k t623 t617).bind fun t633 => (laws_FnExactRowDots.j0 k l0 t617 t623 (!t633))))) else (some false)))) else (some false)) = some r := H
 have A7 := Aside0.mk A70
 clear A70
 by_cases c8 : t626 = true
 ·subst c8
  have H1 : ((laws_toIntS.f k l0).bind fun t627 => ((laws_eqIntS.f k t620 t627).bind fun t630 => (if t630 = true then ((laws_markIntS.f k t620 1).bind fun bt631 => (if bt631.1 < 0 then (laws_FnExactRowDots.j0 k l0 t617 t623 true) else ((laws_eqIntS.f k t623 t617).bind fun t633 => (laws_FnExactRowDots.j0 k l0 t617 t623 (!t633))))) else (some false)))) = some r := by rw [if_pos rfl] at H; exact H
  clear H; have H := H1; clear H1
  replace H := Option.bind_eq_some_iff.mp H
  obtain ⟨t627, A90, H⟩ := H
  replace H : ((laws_eqIntS.f k t620 t627).bind fun t630 => (if t630 = true then ((laws_markIntS.f k t620 1).bind fun bt631 => (if bt631.1 < 0 then (laws_FnExactRowDots.j0 k l0 t617 t623 true) else ((laws_eqIntS.f k t623 t617).bind fun t633 => (laws_FnExactRowDots.j0 k l0 t617 t623 (!t633))))) else (some false))) = some r := H
  have A9 := Aside0.mk A90
  clear A90
  replace H := Option.bind_eq_some_iff.mp H
  obtain ⟨t630, A100, H⟩ := H
  replace H : (if t630 = true then ((laws_markIntS.f k t620 1).bind fun bt631 => (if bt631.1 < 0 then (laws_FnExactRowDots.j0 k l0 t617 t623 true) else ((laws_eqIntS.f k t623 t617).bind fun t633 => (laws_FnExactRowDots.j0 k l0 t617 t623 (!t633))))) else (some false)) = some r := H
  have A10 := Aside0.mk A100
  clear A100
  by_cases c11 : t630 = true
  ·subst c11
   have H1 : ((laws_markIntS.f k t620 1).bind fun bt631 => (if bt631.1 < 0 then (laws_FnExactRowDots.j0 k l0 t617 t623 true) else ((laws_eqIntS.f k t623 t617).bind fun t633 => (laws_FnExactRowDots.j0 k l0 t617 t623 (!t633))))) = some r := by rw [if_pos rfl] at H; exact H
   clear H; have H := H1; clear H1
   replace H := Option.bind_eq_some_iff.mp H
   obtain ⟨⟨t631, t632⟩, A120, H⟩ := H
   replace H : (if t631 < 0 then (laws_FnExactRowDots.j0 k l0 t617 t623 true) else ((laws_eqIntS.f k t623 t617).bind fun t633 => (laws_FnExactRowDots.j0 k l0 t617 t623 (!t633)))) = some r := H
   have A12 := Aside0.mk A120
   clear A120
   have HC13 := Aside0.mk H
   clear H
   go_enter Try.func7, Try.ntmps7
   go_upto_region 12 with (first | ((with_reducible refine gate_callee (f := 27) rfl ?_); refine goesL_ (some 14) rfl rfl Try.func27 (by kernel_rfl) rfl #[.slice A0 l0.length c0] rfl sL_ ?_; (with_reducible refine (laws_toIntS.calls k _ _ l0 t614 _ ?side1 ?side2 A3.out).mono ?_); (case side1 => repeat (first | exact HR0.out | (with_reducible refine Kd.C_alloc ?_ _) | (with_reducible refine Kd.C_drewN ?_ _) | (with_reducible refine Kd.C_drew ?_))); (case side2 => exact HC0.out); rintro e w14 ⟨v615, rfl, ho0, hb⟩; refine ⟨_, rfl, ?_⟩; have n0_ := Aside0.mk (Kd.R_lower ho0 (below_size (sW_ HB.out))); have n1_ := Aside0.mk (below_step (sW_ HB.out) hb); clear HB; have HO616 := n0_; have HB := n1_; clear n0_ n1_; (try clear hb); (try clear hb2); (try clear hk); (try clear hi); (try clear ho0); obtain ⟨Ao15, co15, eo15⟩ := Kd.R_slice HO616.out; subst eo15) | ((with_reducible refine gate_callee (f := 26) rfl ?_); refine goesL_ (some 15) rfl rfl Try.func26 (by kernel_rfl) rfl #[.slice Ao15 t614.length co15] rfl sL_ ?_; (with_reducible refine (spec_RowDots.calls k _ _ t614 t617 _ ?side1 ?side2 A4.out).mono ?_); (case side1 => repeat (first | exact (Kd.R_reads' HO616.out).2.2 | (with_reducible refine Kd.C_alloc ?_ _) | (with_reducible refine Kd.C_drewN ?_ _) | (with_reducible refine Kd.C_drew ?_))); (case side2 => exact (Kd.R_reads' HO616.out).2.1); rintro e w16 ⟨v618, rfl, ho0, hb⟩; refine ⟨_, rfl, ?_⟩; have n0_ := Aside0.mk (Kd.R_elder' (sR_ HO616.out) (Kd.R_base ho0) hb); have n1_ := Aside0.mk (Kd.R_lower (Kd.R_new' ho0 (Kd.R_lt (sR_ HO616.out))) (below_size (sW_ HB.out))); have n2_ := Aside0.mk (below_step (sW_ HB.out) hb); clear HO616 HB; have HO616 := n0_; have HO619 := n1_; have HB := n2_; clear n0_ n1_ n2_; (try clear hb); (try clear hb2); (try clear hk); (try clear hi); (try clear ho0)) | ((with_reducible refine gate_callee (f := 27) rfl ?_); refine goesL_ (some 17) rfl rfl Try.func27 (by kernel_rfl) rfl #[.slice A0 l0.length c0] rfl sL_ ?_; (with_reducible refine (laws_toIntS.calls k _ _ l0 t620 _ ?side1 ?side2 A5.out).mono ?_); (case side1 => repeat (first | exact (Kd.C_below HR0.out HB.out) | (with_reducible refine Kd.C_alloc ?_ _) | (with_reducible refine Kd.C_drewN ?_ _) | (with_reducible refine Kd.C_drew ?_))); (case side2 => exact HC0.out); rintro e w17 ⟨v621, rfl, ho0, hb⟩; refine ⟨_, rfl, ?_⟩; have n0_ := Aside0.mk (Kd.R_elder' (sR_ HO616.out) (Kd.R_base ho0) hb); have n1_ := Aside0.mk (Kd.R_elder' (sR_ HO619.out) (Kd.R_base ho0) hb); have n2_ := Aside0.mk (Kd.R_lower (Kd.R_new' (Kd.R_new' ho0 (Kd.R_lt (sR_ HO616.out))) (Kd.R_lt (sR_ HO619.out))) (below_size (sW_ HB.out))); have n3_ := Aside0.mk (below_step (sW_ HB.out) hb); clear HO616 HO619 HB; have HO616 := n0_; have HO619 := n1_; have HO622 := n2_; have HB := n3_; clear n0_ n1_ n2_ n3_; (try clear hb); (try clear hb2); (try clear hk); (try clear hi); (try clear ho0); obtain ⟨Ao18, co18, eo18⟩ := Kd.R_slice HO622.out; subst eo18) | ((with_reducible refine gate_callee (f := 17) rfl ?_); refine goesL_ (some 19) rfl rfl Try.func17 (by kernel_rfl) rfl #[.slice Ao18 t620.length co18] rfl sL_ ?_; (with_reducible refine (impl_RowDots.calls k _ _ t620 t623 _ ?side1 ?side2 A6.out).mono ?_); (case side1 => repeat (first | exact (Kd.R_reads' HO622.out).2.2 | (with_reducible refine Kd.C_alloc ?_ _) | (with_reducible refine Kd.C_drewN ?_ _) | (with_reducible refine Kd.C_drew ?_))); (case side2 => exact (Kd.R_reads' HO622.out).2.1); rintro e w19 ⟨v624, rfl, ho0, hb⟩; refine ⟨_, rfl, ?_⟩; have n0_ := Aside0.mk (Kd.R_elder' (sR_ HO616.out) (Kd.R_base ho0) hb); have n1_ := Aside0.mk (Kd.R_elder' (sR_ HO619.out) (Kd.R_base ho0) hb); have n2_ := Aside0.mk (Kd.R_elder' (sR_ HO622.out) (Kd.R_base ho0) hb); have n3_ := Aside0.mk (Kd.R_lower (Kd.R_new' (Kd.R_new' (Kd.R_new' ho0 (Kd.R_lt (sR_ HO616.out))) (Kd.R_lt (sR_ HO619.out))) (Kd.R_lt (sR_ HO622.out))) (below_size (sW_ HB.out))); have n4_ := Aside0.mk (below_step (sW_ HB.out) hb); clear HO616 HO619 HO622 HB; have HO616 := n0_; have HO619 := n1_; have HO622 := n2_; have HO625 := n3_; have HB := n4_; clear n0_ n1_ n2_ n3_ n4_; (try clear hb); (try clear hb2); (try clear hk); (try clear hi); (try clear ho0); obtain ⟨Ao20, co20, eo20⟩ := Kd.R_slice HO625.out; subst eo20; obtain ⟨Ao21, co21, eo21⟩ := Kd.R_slice HO619.out; subst eo21) | ((with_reducible refine gate_callee (f := 28) rfl ?_); refine goesL_ (some 22) rfl rfl Try.func28 (by kernel_rfl) rfl #[.slice Ao20 t623.length co20, .slice Ao21 t617.length co21] rfl sL_ ?_; (with_reducible refine (laws_eqIntS.calls k _ _ t623 _ _ t617 true _ ?side1 ?side2 ?side3 ?side4 A7.out).mono ?_); (case side1 => repeat (first | exact (Kd.R_reads' HO625.out).2.2 | (with_reducible refine Kd.C_alloc ?_ _) | (with_reducible refine Kd.C_drewN ?_ _) | (with_reducible refine Kd.C_drew ?_))); (case side2 => exact (Kd.R_reads' HO625.out).2.1); (case side3 => repeat (first | exact (Kd.R_reads' HO619.out).2.2 | (with_reducible refine Kd.C_alloc ?_ _) | (with_reducible refine Kd.C_drewN ?_ _) | (with_reducible refine Kd.C_drew ?_))); (case side4 => exact (Kd.R_reads' HO619.out).2.1); rintro e w' ⟨rfl, ⟨nd, rfl⟩⟩; refine ⟨_, rfl, ?_⟩) | ((with_reducible refine gate_callee (f := 27) rfl ?_); refine goesL_ (some 26) rfl rfl Try.func27 (by kernel_rfl) rfl #[.slice A0 l0.length c0] rfl sL_ ?_; (with_reducible refine (laws_toIntS.calls k _ _ l0 t627 _ ?side1 ?side2 A9.out).mono ?_); (case side1 => repeat (first | exact (Kd.C_below HR0.out (sW_ HB.out)) | (with_reducible refine Kd.C_alloc ?_ _) | (with_reducible refine Kd.C_drewN ?_ _) | (with_reducible refine Kd.C_drew ?_))); (case side2 => exact HC0.out); rintro e w22 ⟨v628, rfl, ho0, hb⟩; refine ⟨_, rfl, ?_⟩; have n0_ := Aside0.mk (Kd.R_elder' (sR_ HO616.out) (Kd.R_base ho0) hb); have n1_ := Aside0.mk (Kd.R_elder' (sR_ HO619.out) (Kd.R_base ho0) hb); have n2_ := Aside0.mk (Kd.R_elder' (sR_ HO622.out) (Kd.R_base ho0) hb); have n3_ := Aside0.mk (Kd.R_elder' (sR_ HO625.out) (Kd.R_base ho0) hb); have n4_ := Aside0.mk (Kd.R_lower (Kd.R_new' (Kd.R_new' (Kd.R_new' (Kd.R_new' ho0 (Kd.R_lt (sR_ HO616.out))) (Kd.R_lt (sR_ HO619.out))) (Kd.R_lt (sR_ HO622.out))) (Kd.R_lt (sR_ HO625.out))) (below_size (sW_ HB.out))); have n5_ := Aside0.mk (below_step (sW_ HB.out) hb); clear HO616 HO619 HO622 HO625 HB; have HO616 := n0_; have HO619 := n1_; have HO622 := n2_; have HO625 := n3_; have HO629 := n4_; have HB := n5_; clear n0_ n1_ n2_ n3_ n4_ n5_; (try clear hb); (try clear hb2); (try clear hk); (try clear hi); (try clear ho0); obtain ⟨Ao23, co23, eo23⟩ := Kd.R_slice HO629.out; subst eo23) | ((with_reducible refine gate_callee (f := 28) rfl ?_); refine goesL_ (some 27) rfl rfl Try.func28 (by kernel_rfl) rfl #[.slice Ao18 t620.length co18, .slice Ao23 t627.length co23] rfl sL_ ?_; (with_reducible refine (laws_eqIntS.calls k _ _ t620 _ _ t627 true _ ?side1 ?side2 ?side3 ?side4 A10.out).mono ?_); (case side1 => repeat (first | exact (Kd.R_reads' HO622.out).2.2 | (with_reducible refine Kd.C_alloc ?_ _) | (with_reducible refine Kd.C_drewN ?_ _) | (with_reducible refine Kd.C_drew ?_))); (case side2 => exact (Kd.R_reads' HO622.out).2.1); (case side3 => repeat (first | exact (Kd.R_reads' HO629.out).2.2 | (with_reducible refine Kd.C_alloc ?_ _) | (with_reducible refine Kd.C_drewN ?_ _) | (with_reducible refine Kd.C_drew ?_))); (case side4 => exact (Kd.R_reads' HO629.out).2.1); rintro e w' ⟨rfl, ⟨nd, rfl⟩⟩; refine ⟨_, rfl, ?_⟩) | ((with_reducible refine gate_callee (f := 29) rfl ?_); refine goesL_ (some 31) rfl rfl Try.func29 (by kernel_rfl) rfl #[.slice Ao18 t620.length co18, .int .i64 1] rfl sL_ ?_; (with_reducible refine (laws_markIntS.calls k (fun k_ => some k_ = (.slice Ao18 t620.length co18 : Value).ownBlock) (.slice Ao18 t620.length co18) t620 1 t631 t632 w _ ?side1 ?side2 A12.out).mono ?_); (case side1 => repeat (first | (with_reducible first | exact HB.out | apply below_alloc | apply pw_below_drewN | apply below_drew1) | exact HB.out)); (case side2 => exact Kd.R_tight rfl HO622.out); rintro e w24 ⟨rfl, hy0, hb, hkp⟩; refine ⟨_, rfl, ?_⟩; have n0_ := Aside0.mk (Kd.R_mono (ok' := fun k_ => some k_ ≠ (.slice Ao21 t617.length co21 : Value).ownBlock ∧ some k_ ≠ (.slice Ao18 t620.length co18 : Value).ownBlock ∧ some k_ ≠ (.slice Ao20 t623.length co20 : Value).ownBlock ∧ some k_ ≠ (.slice Ao23 t627.length co23 : Value).ownBlock) (Kd.R_keptB (HO616.out) hkp (fun k_ hk_ hs_ => (hk_.1.1.2) hs_)) (fun k_ hk_ => ⟨hk_.1.1.1.1.2, hk_.1.1.1.2, hk_.1.1.2, hk_.1.2⟩)); have n1_ := Aside0.mk (Kd.R_mono (ok' := fun k_ => some k_ ≠ (.slice Ao15 t614.length co15 : Value).ownBlock ∧ some k_ ≠ (.slice Ao18 t620.length co18 : Value).ownBlock ∧ some k_ ≠ (.slice Ao20 t623.length co20 : Value).ownBlock ∧ some k_ ≠ (.slice Ao23 t627.length co23 : Value).ownBlock) (Kd.R_keptB (HO619.out) hkp (fun k_ hk_ hs_ => (hk_.1.1.2) hs_)) (fun k_ hk_ => ⟨hk_.1.1.1.1.2, hk_.1.1.1.2, hk_.1.1.2, hk_.1.2⟩)); have n2_ := Aside0.mk (Kd.R_reok rfl hy0 (fun k_ e_ => HO622.out.1 k_ e_)); have n3_ := Aside0.mk (Kd.R_mono (ok' := fun k_ => some k_ ≠ (.slice Ao15 t614.length co15 : Value).ownBlock ∧ some k_ ≠ (.slice Ao21 t617.length co21 : Value).ownBlock ∧ some k_ ≠ (.slice Ao18 t620.length co18 : Value).ownBlock ∧ some k_ ≠ (.slice Ao23 t627.length co23 : Value).ownBlock) (Kd.R_keptB (HO625.out) hkp (fun k_ hk_ hs_ => (hk_.1.2) hs_)) (fun k_ hk_ => ⟨hk_.1.1.1.1.2, hk_.1.1.1.2, hk_.1.1.2, hk_.1.2⟩)); have n4_ := Aside0.mk (Kd.R_mono (ok' := fun k_ => some k_ ≠ (.slice Ao15 t614.length co15 : Value).ownBlock ∧ some k_ ≠ (.slice Ao21 t617.length co21 : Value).ownBlock ∧ some k_ ≠ (.slice Ao18 t620.length co18 : Value).ownBlock ∧ some k_ ≠ (.slice Ao20 t623.length co20 : Value).ownBlock) (Kd.R_keptB (HO629.out) hkp (fun k_ hk_ hs_ => (hk_.1.2) hs_)) (fun k_ hk_ => ⟨hk_.1.1.1.1.2, hk_.1.1.1.2, hk_.1.1.2, hk_.1.2⟩)); have n5_ := Aside0.mk (hb); clear HO616 HO619 HO622 HO625 HO629 HB; have HO616 := n0_; have HO619 := n1_; have HO622 := n2_; have HO625 := n3_; have HO629 := n4_; have HB := n5_; clear n0_ n1_ n2_ n3_ n4_ n5_; (try clear hb); (try clear hkp); (try clear hy0)))
   (try simp only [Act.put, List.setIfInBounds_toArray, List.set_cons_zero, List.set_cons_succ])
   go_cut [39] (fun v39 wc => ∃ (kq : Nat) (x39_12 : Bool), v39 = .bool x39_12 ∧ Aside0 (laws_FnExactRowDots.j0 kq l0 t617 t623 x39_12 = some r) ∧ Aside0 (kq ≤ k) ∧ Aside0 (Kd.R (Kd.int .i64) 3 wc w.heap.size (fun k_ => some k_ ≠ ((.slice Ao20 t623.length co20) : Value).ownBlock) (.slice Ao21 t617.length co21) t617) ∧ Aside0 (Kd.R (Kd.int .i64) 3 wc w.heap.size (fun k_ => some k_ ≠ ((.slice Ao21 t617.length co21) : Value).ownBlock) (.slice Ao20 t623.length co20) t623) ∧ Aside0 (Below w.heap.size w wc))
   case first =>
    have H := HC13.out; clear HC13
    by_cases c25 : t631 < 0
    ·rw [if_pos c25] at H
     have c25b0 : decide (t631 < 0) = true := decide_eq_true c25
     clear c25
     (first | rw [c25b0] | (simp only [i64_w, i32_w]; rw [c25b0]) | skip)
     have H' := Aside0.mk H
     clear H
     go_wp2
     go_meet
     case rel => exact ⟨_, (true), (by first | rfl | (simp; done) | (simp [*]; done)), H', ⟨by first | omega | exact Nat.le_refl _⟩, ⟨by (with_reducible repeat (first | apply Kd.R_alloc | apply Kd.R_drewN | apply Kd.R_drew)); exact Kd.R_mono HO619.out (fun _ hk => hk.2.2.1)⟩, ⟨by (with_reducible repeat (first | apply Kd.R_alloc | apply Kd.R_drewN | apply Kd.R_drew)); exact Kd.R_mono HO625.out (fun _ hk => hk.2.1)⟩, ⟨by repeat (first | (with_reducible first | exact HB.out | apply below_alloc | apply pw_below_drewN | apply below_drew1) | exact HB.out)⟩⟩
    rw [if_neg c25] at H
    have c25b0 : decide (t631 < 0) = false := decide_eq_false c25
    clear c25
    (first | rw [c25b0] | (simp only [i64_w, i32_w]; rw [c25b0]) | skip)
    replace H := Option.bind_eq_some_iff.mp H
    obtain ⟨t633, A260, H⟩ := H
    replace H : (laws_FnExactRowDots.j0 k l0 t617 t623 (!t633)) = some r := H
    have A26 := Aside0.mk A260
    clear A260
    have H' := Aside0.mk H
    clear H
    go_wp2_with (first | (go_at_call 28; (with_reducible refine (laws_eqIntS.calls k _ _ t623 _ _ t617 t633 _ ?side1 ?side2 ?side3 ?side4 A26.out).mono ?_); (case side1 => repeat (first | exact (Kd.R_reads' HO625.out).2.2 | (with_reducible refine Kd.C_alloc ?_ _) | (with_reducible refine Kd.C_drewN ?_ _) | (with_reducible refine Kd.C_drew ?_))); (case side2 => exact (Kd.R_reads' HO625.out).2.1); (case side3 => repeat (first | exact (Kd.R_reads' HO619.out).2.2 | (with_reducible refine Kd.C_alloc ?_ _) | (with_reducible refine Kd.C_drewN ?_ _) | (with_reducible refine Kd.C_drew ?_))); (case side4 => exact (Kd.R_reads' HO619.out).2.1); rintro e w' ⟨rfl, ⟨nd, rfl⟩⟩))
    go_meet
    case rel => exact ⟨_, (!t633), (by first | rfl | (simp; done) | (simp [*]; done)), H', ⟨by first | omega | exact Nat.le_refl _⟩, ⟨by (with_reducible repeat (first | apply Kd.R_alloc | apply Kd.R_drewN | apply Kd.R_drew)); exact Kd.R_mono HO619.out (fun _ hk => hk.2.2.1)⟩, ⟨by (with_reducible repeat (first | apply Kd.R_alloc | apply Kd.R_drewN | apply Kd.R_drew)); exact Kd.R_mono HO625.out (fun _ hk => hk.2.1)⟩, ⟨by repeat (first | (with_reducible first | exact HB.out | apply below_alloc | apply pw_below_drewN | apply below_drew1) | exact HB.out)⟩⟩
   case rest =>
    clear HC13
    try clear c1
    try clear c2
    try clear c2b0
    try clear c2b1
    try clear p2
    try clear c7
    try clear c8
    try clear c11
    try clear c17
    try clear c25
    try clear c25b0
    try clear c26
    obtain ⟨kq, x39_12, rfl, HA, HJ12, HO_3, HO_5, HB⟩ := hcut
    cases kq with
    | zero => exact absurd HA.out (by simp [laws_FnExactRowDots.j0])
    | succ kj12 =>
     have H := HA.out; clear HA
     simp only [laws_FnExactRowDots.j0] at H
     by_cases c27 : x39_12 = true
     ·subst c27
      have H1 : (some false) = some r := by rw [if_pos rfl] at H; exact H
      clear H; have H := H1; clear H1
      exact absurd ((Option.some.inj H).trans hT.out) (by decide)
     replace c27 := Bool.eq_false_iff.mpr c27
     subst c27
     have H1 : ((laws_markIntS.f kj12 t623 1).bind fun bt634 => ((laws_heldIntS.f kj12 bt634.2 1).bind fun t636 => (if t636 < 0 then (some false) else (if t636 = bt634.1 then ((laws_toIntS.f kj12 l0).bind fun t637 => ((impl_RowDots.f kj12 t637).bind fun t640 => ((laws_eqIntS.f kj12 t640 t617).bind fun t643 => (if t643 = true then ((laws_heldIntS.f kj12 bt634.2 1).bind fun t644 => (if t644 < 0 then (some false) else (if t644 = bt634.1 then (some true) else (some false)))) else (some false))))) else (some false))))) = some r := by rw [if_neg (show ¬ (false = true) by decide)] at H; exact H
     clear H; have H := H1; clear H1
     replace H := Option.bind_eq_some_iff.mp H
     obtain ⟨⟨t634, t635⟩, A280, H⟩ := H
     replace H : ((laws_heldIntS.f kj12 t635 1).bind fun t636 => (if t636 < 0 then (some false) else (if t636 = t634 then ((laws_toIntS.f kj12 l0).bind fun t637 => ((impl_RowDots.f kj12 t637).bind fun t640 => ((laws_eqIntS.f kj12 t640 t617).bind fun t643 => (if t643 = true then ((laws_heldIntS.f kj12 t635 1).bind fun t644 => (if t644 < 0 then (some false) else (if t644 = t634 then (some true) else (some false)))) else (some false))))) else (some false)))) = some r := H
     have A28 := Aside0.mk A280
     clear A280
     replace H := Option.bind_eq_some_iff.mp H
     obtain ⟨t636, A290, H⟩ := H
     replace H : (if t636 < 0 then (some false) else (if t636 = t634 then ((laws_toIntS.f kj12 l0).bind fun t637 => ((impl_RowDots.f kj12 t637).bind fun t640 => ((laws_eqIntS.f kj12 t640 t617).bind fun t643 => (if t643 = true then ((laws_heldIntS.f kj12 t635 1).bind fun t644 => (if t644 < 0 then (some false) else (if t644 = t634 then (some true) else (some false)))) else (some false))))) else (some false))) = some r := H
     have A29 := Aside0.mk A290
     clear A290
     by_cases c30 : t636 < 0
     ·rw [if_pos c30] at H
      have c30b0 : decide (t636 < 0) = true := decide_eq_true c30
      clear c30
      exact absurd ((Option.some.inj H).trans hT.out) (by decide)
     rw [if_neg c30] at H
     have c30b0 : decide (t636 < 0) = false := decide_eq_false c30
     clear c30
     by_cases c31 : t636 = t634
     ·rw [if_pos c31] at H
      have c31b0 : (t636 == t634) = true := beq_iff_eq.mpr c31
      have c31b1 : (t636 != t634) = false := bne_eq_false_iff_eq.mpr c31
      clear c31
      replace H := Option.bind_eq_some_iff.mp H
      obtain ⟨t637, A320, H⟩ := H
      replace H : ((impl_RowDots.f kj12 t637).bind fun t640 => ((laws_eqIntS.f kj12 t640 t617).bind fun t643 => (if t643 = true then ((laws_heldIntS.f kj12 t635 1).bind fun t644 => (if t644 < 0 then (some false) else (if t644 = t634 then (some true) else (some false)))) else (some false)))) = some r := H
      have A32 := Aside0.mk A320
      clear A320
      replace H := Option.bind_eq_some_iff.mp H
      obtain ⟨t640, A330, H⟩ := H
      replace H : ((laws_eqIntS.f kj12 t640 t617).bind fun t643 => (if t643 = true then ((laws_heldIntS.f kj12 t635 1).bind fun t644 => (if t644 < 0 then (some false) else (if t644 = t634 then (some true) else (some false)))) else (some false))) = some r := H
      have A33 := Aside0.mk A330
      clear A330
      replace H := Option.bind_eq_some_iff.mp H
      obtain ⟨t643, A340, H⟩ := H
      replace H : (if t643 = true then ((laws_heldIntS.f kj12 t635 1).bind fun t644 => (if t644 < 0 then (some false) else (if t644 = t634 then (some true) else (some false)))) else (some false)) = some r := H
      have A34 := Aside0.mk A340
      clear A340
      by_cases c35 : t643 = true
      ·subst c35
       have H1 : ((laws_heldIntS.f kj12 t635 1).bind fun t644 => (if t644 < 0 then (some false) else (if t644 = t634 then (some true) else (some false)))) = some r := by rw [if_pos rfl] at H; exact H
       clear H; have H := H1; clear H1
       replace H := Option.bind_eq_some_iff.mp H
       obtain ⟨t644, A360, H⟩ := H
       replace H : (if t644 < 0 then (some false) else (if t644 = t634 then (some true) else (some false))) = some r := H
       have A36 := Aside0.mk A360
       clear A360
       by_cases c37 : t644 < 0
       ·rw [if_pos c37] at H
        have c37b0 : decide (t644 < 0) = true := decide_eq_true c37
        clear c37
        exact absurd ((Option.some.inj H).trans hT.out) (by decide)
       rw [if_neg c37] at H
       have c37b0 : decide (t644 < 0) = false := decide_eq_false c37
       clear c37
       by_cases c38 : t644 = t634
       ·rw [if_pos c38] at H
        have c38b0 : (t644 == t634) = true := beq_iff_eq.mpr c38
        have c38b1 : (t644 != t634) = false := bne_eq_false_iff_eq.mpr c38
        clear c38
        obtain rfl := Option.some.inj H
        go_wp2_with (first | ((with_reducible refine gate_callee (f := 29) rfl ?_); refine goesL_ (some 42) rfl rfl Try.func29 (by kernel_rfl) rfl #[.slice Ao20 t623.length co20, .int .i64 1] rfl sL_ ?_; (with_reducible refine (laws_markIntS.calls kj12 (fun k_ => some k_ = (.slice Ao20 t623.length co20 : Value).ownBlock) (.slice Ao20 t623.length co20) t623 1 t634 t635 w _ ?side1 ?side2 A28.out).mono ?_); (case side1 => repeat (first | (with_reducible first | exact HB.out | apply below_alloc | apply pw_below_drewN | apply below_drew1) | exact HB.out)); (case side2 => exact Kd.R_tight rfl HO_5.out); rintro e w39 ⟨rfl, hy0, hb, hkp⟩; refine ⟨_, rfl, ?_⟩; have n0_ := Aside0.mk (Kd.R_mono (ok' := fun k_ => some k_ ≠ (.slice Ao20 t623.length co20 : Value).ownBlock) (Kd.R_keptB (HO_3.out) hkp (fun k_ hk_ hs_ => (hk_) hs_)) (fun k_ hk_ => hk_.1)); have n1_ := Aside0.mk (Kd.R_reok rfl hy0 (fun k_ e_ => HO_5.out.1 k_ e_)); have n2_ := Aside0.mk (hb); clear HO_3 HO_5 HB; have HO_3 := n0_; have HO_5 := n1_; have HB := n2_; clear n0_ n1_ n2_; (try clear hb); (try clear hkp); (try clear hy0)) | ((with_reducible refine gate_callee (f := 30) rfl ?_); refine goesL_ (some 45) rfl rfl Try.func30 (by kernel_rfl) rfl #[.slice Ao20 t635.length co20, .int .i64 1] rfl (by (try simp only [List.map_toArray, List.map_cons, List.map_nil]); first | done | (rw [show t635.length = t623.length from (Kd.R_reads' HO_5.out).1.symm] <;> rfl) | rfl | (simp only [List.length_drop, List.length_take]; rfl)) ?_; (with_reducible refine (laws_heldIntS.calls kj12 _ _ t635 1 t636 _ ?side1 ?side2 A29.out).mono ?_); (case side1 => repeat (first | exact (Kd.R_reads' HO_5.out).2.2 | (with_reducible refine Kd.C_alloc ?_ _) | (with_reducible refine Kd.C_drewN ?_ _) | (with_reducible refine Kd.C_drew ?_))); (case side2 => rw [show t635.length = t623.length from (Kd.R_reads' HO_5.out).1.symm]; exact (Kd.R_reads' HO_5.out).2.1); rintro e w' ⟨rfl, ⟨nd, rfl⟩⟩; refine ⟨_, rfl, ?_⟩) | ((with_reducible refine gate_callee (f := 27) rfl ?_); refine goesL_ (some 52) rfl rfl Try.func27 (by kernel_rfl) rfl #[.slice A0 l0.length c0] rfl sL_ ?_; (with_reducible refine (laws_toIntS.calls kj12 _ _ l0 t637 _ ?side1 ?side2 A32.out).mono ?_); (case side1 => repeat (first | exact (Kd.C_below HR0.out (sW_ HB.out)) | (with_reducible refine Kd.C_alloc ?_ _) | (with_reducible refine Kd.C_drewN ?_ _) | (with_reducible refine Kd.C_drew ?_))); (case side2 => exact HC0.out); rintro e w40 ⟨v638, rfl, ho0, hb⟩; refine ⟨_, rfl, ?_⟩; have n0_ := Aside0.mk (Kd.R_elder' (sR_ HO_3.out) (Kd.R_base ho0) hb); have n1_ := Aside0.mk (Kd.R_elder' (sR_ HO_5.out) (Kd.R_base ho0) hb); have n2_ := Aside0.mk (Kd.R_lower (Kd.R_new' (Kd.R_new' ho0 (Kd.R_lt (sR_ HO_3.out))) (Kd.R_lt (sR_ HO_5.out))) (below_size (sW_ HB.out))); have n3_ := Aside0.mk (below_step (sW_ HB.out) hb); clear HO_3 HO_5 HB; have HO_3 := n0_; have HO_5 := n1_; have HO639 := n2_; have HB := n3_; clear n0_ n1_ n2_ n3_; (try clear hb); (try clear hb2); (try clear hk); (try clear hi); (try clear ho0); obtain ⟨Ao41, co41, eo41⟩ := Kd.R_slice HO639.out; subst eo41) | ((with_reducible refine gate_callee (f := 17) rfl ?_); refine goesL_ (some 53) rfl rfl Try.func17 (by kernel_rfl) rfl #[.slice Ao41 t637.length co41] rfl sL_ ?_; (with_reducible refine (impl_RowDots.calls kj12 _ _ t637 t640 _ ?side1 ?side2 A33.out).mono ?_); (case side1 => repeat (first | exact (Kd.R_reads' HO639.out).2.2 | (with_reducible refine Kd.C_alloc ?_ _) | (with_reducible refine Kd.C_drewN ?_ _) | (with_reducible refine Kd.C_drew ?_))); (case side2 => exact (Kd.R_reads' HO639.out).2.1); rintro e w42 ⟨v641, rfl, ho0, hb⟩; refine ⟨_, rfl, ?_⟩; have n0_ := Aside0.mk (Kd.R_elder' (sR_ HO_3.out) (Kd.R_base ho0) hb); have n1_ := Aside0.mk (Kd.R_elder' (sR_ HO_5.out) (Kd.R_base ho0) hb); have n2_ := Aside0.mk (Kd.R_elder' (sR_ HO639.out) (Kd.R_base ho0) hb); have n3_ := Aside0.mk (Kd.R_lower (Kd.R_new' (Kd.R_new' (Kd.R_new' ho0 (Kd.R_lt (sR_ HO_3.out))) (Kd.R_lt (sR_ HO_5.out))) (Kd.R_lt (sR_ HO639.out))) (below_size (sW_ HB.out))); have n4_ := Aside0.mk (below_step (sW_ HB.out) hb); clear HO_3 HO_5 HO639 HB; have HO_3 := n0_; have HO_5 := n1_; have HO639 := n2_; have HO642 := n3_; have HB := n4_; clear n0_ n1_ n2_ n3_ n4_; (try clear hb); (try clear hb2); (try clear hk); (try clear hi); (try clear ho0); obtain ⟨Ao43, co43, eo43⟩ := Kd.R_slice HO642.out; subst eo43) | ((with_reducible refine gate_callee (f := 28) rfl ?_); refine goesL_ (some 56) rfl rfl Try.func28 (by kernel_rfl) rfl #[.slice Ao43 t640.length co43, .slice Ao21 t617.length co21] rfl sL_ ?_; (with_reducible refine (laws_eqIntS.calls kj12 _ _ t640 _ _ t617 true _ ?side1 ?side2 ?side3 ?side4 A34.out).mono ?_); (case side1 => repeat (first | exact (Kd.R_reads' HO642.out).2.2 | (with_reducible refine Kd.C_alloc ?_ _) | (with_reducible refine Kd.C_drewN ?_ _) | (with_reducible refine Kd.C_drew ?_))); (case side2 => exact (Kd.R_reads' HO642.out).2.1); (case side3 => repeat (first | exact (Kd.R_reads' HO_3.out).2.2 | (with_reducible refine Kd.C_alloc ?_ _) | (with_reducible refine Kd.C_drewN ?_ _) | (with_reducible refine Kd.C_drew ?_))); (case side4 => exact (Kd.R_reads' HO_3.out).2.1); rintro e w' ⟨rfl, ⟨nd, rfl⟩⟩; refine ⟨_, rfl, ?_⟩) | ((with_reducible refine gate_callee (f := 30) rfl ?_); refine goesL_ (some 60) rfl rfl Try.func30 (by kernel_rfl) rfl #[.slice Ao20 t635.length co20, .int .i64 1] rfl (by (try simp only [List.map_toArray, List.map_cons, List.map_nil]); first | done | (rw [show t635.length = t623.length from (Kd.R_reads' HO_5.out).1.symm] <;> rfl) | rfl | (simp only [List.length_drop, List.length_take]; rfl)) ?_; (with_reducible refine (laws_heldIntS.calls kj12 _ _ t635 1 t644 _ ?side1 ?side2 A36.out).mono ?_); (case side1 => repeat (first | exact (Kd.R_reads' HO_5.out).2.2 | (with_reducible refine Kd.C_alloc ?_ _) | (with_reducible refine Kd.C_drewN ?_ _) | (with_reducible refine Kd.C_drew ?_))); (case side2 => rw [show t635.length = t623.length from (Kd.R_reads' HO_5.out).1.symm]; exact (Kd.R_reads' HO_5.out).2.1); rintro e w' ⟨rfl, ⟨nd, rfl⟩⟩; refine ⟨_, rfl, ?_⟩))
        go_ret
        exact ⟨by first | rfl | (simp [errW_none, errW_some] <;> rfl) | (simp [*, errW_none, errW_some] <;> rfl), by repeat (first | (with_reducible first | exact HB.out | apply below_alloc | apply pw_below_drewN | apply below_drew1) | exact HB.out)⟩
       rw [if_neg c38] at H
       have c38b0 : (t644 == t634) = false := beq_eq_false_iff_ne.mpr c38
       have c38b1 : (t644 != t634) = true := bne_iff_ne.mpr c38
       exact absurd ((Option.some.inj H).trans hT.out) (by decide)
      replace c35 := Bool.eq_false_iff.mpr c35
      subst c35
      have H1 : (some false) = some r := by rw [if_neg (show ¬ (false = true) by decide)] at H; exact H
      clear H; have H := H1; clear H1
      exact absurd ((Option.some.inj H).trans hT.out) (by decide)
     rw [if_neg c31] at H
     have c31b0 : (t636 == t634) = false := beq_eq_false_iff_ne.mpr c31
     have c31b1 : (t636 != t634) = true := bne_iff_ne.mpr c31
     exact absurd ((Option.some.inj H).trans hT.out) (by decide)
  replace c11 := Bool.eq_false_iff.mpr c11
  subst c11
  have H1 : (some false) = some r := by rw [if_neg (show ¬ (false = true) by decide)] at H; exact H
  clear H; have H := H1; clear H1
  exact absurd ((Option.some.inj H).trans hT.out) (by decide)
 replace c8 := Bool.eq_false_iff.mpr c8
 subst c8
 have H1 : (some false) = some r := by rw [if_neg (show ¬ (false = true) by decide)] at H; exact H
 clear H; have H := H1; clear H1
 exact absurd ((Option.some.inj H).trans hT.out) (by decide)

end Go.Proofs.Ytndnklicfibkeaa.P
