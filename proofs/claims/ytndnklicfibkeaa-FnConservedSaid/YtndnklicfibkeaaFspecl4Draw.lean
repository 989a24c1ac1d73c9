-- Written by tools/seatprint.py (over the kit's print, changed in memory). Not trusted: Lean checks it.
import Derived.Test.YtndnklicfibkeaaP0
import Derived.Test.YtndnklicfibkeaaFspecPlainKernel
import Derived.Test.YtndnklicfibkeaaFspecl01Byte
import Derived.Test.YtndnklicfibkeaaFspecl01Below
import Derived.Test.YtndnklicfibkeaaFspecSteinKernel
import Derived.Test.YtndnklicfibkeaaFspecIsKernel
namespace Go.Proofs.Ytndnklicfibkeaa.P
open Go.RowKit Go.Proofs.YtndnklicfibkeaaW.PrintWords Go.Proofs.YtndnklicfibkeaaW.PrintLast Go.Proofs.YtndnklicfibkeaaW.PrintMore
attribute [local go_sem] max2_int min2_int max_two min_two max_three min_three max_four min_four   -- for this text's walks alone
set_option linter.unusedVariables false
set_option linter.unusedSimpArgs false

/-! ### spec_l4Draw: function 31 -/
def spec_l4Draw.l0 : Nat → List (S68) → Int → List Int → Int → Int → Option ((List (S68)) × Int × Int)
  | 0, _, _, _, _, _ => none
  | k + 1, x3, x4, x1000, x1001, x1002 => if x4 > 0 then ((spec_l01Below.f x1000 x1001 x1002 9).bind fun bt157 => ((spec_l01Below.f x1000 bt157.2.1 bt157.2.2 5).bind fun bt160 => ((spec_l01Below.f x1000 bt160.2.1 bt160.2.2 30).bind fun bt163 => ((some (([] : List (S68)) : List (S68))).bind fun y167 => (if y167.length + x3.length < 5864062014805 then ((some (y167 ++ x3 : List (S68))).bind fun y170 => ((some (([(⟨wrap64 (bt157.1 - 4), bt160.1, wrap64 (1 + bt163.1)⟩ : S68)] : List (S68)) : List (S68))).bind fun y173 => (if y170.length + y173.length < 5864062014805 then ((some (y170 ++ y173 : List (S68))).bind fun y176 => ((spec_IsKernel.f k y176).bind fun t179 => (if t179 = true then (spec_l4Draw.l0 k y176 (wrap64 (x4 - 1)) x1000 bt163.2.1 bt163.2.2) else (spec_l4Draw.l0 k x3 (wrap64 (x4 - 1)) x1000 bt163.2.1 bt163.2.2)))) else (none)))) else (none)))))) else (some (x3, x1001, x1002))
def spec_l4Draw.f (k : Nat) (s0_0 : List Int) (s0_1 : Int) (s0_2 : Int) : Option ((List (S68)) × Int × Int) := (spec_l01Below.f s0_0 s0_1 s0_2 4).bind fun bt136 => (if bt136.1 = 0 then ((spec_SteinKernel.f).bind fun t139 => (some (t139, bt136.2.1, bt136.2.2))) else (if bt136.1 = 1 then ((spec_PlainKernel.f).bind fun t142 => (some (t142, bt136.2.1, bt136.2.2))) else (if bt136.1 = 2 then (some ((([(⟨1, 0, 8⟩ : S68), (⟨2, 0, 4⟩ : S68), (⟨(-2), 1, 2⟩ : S68), (⟨(-1), 1, 4⟩ : S68), (⟨0, 1, 8⟩ : S68), (⟨1, 1, 4⟩ : S68), (⟨2, 1, 2⟩ : S68)] : List (S68))), bt136.2.1, bt136.2.2)) else ((spec_l01Below.f s0_0 bt136.2.1 bt136.2.2 9).bind fun bt148 => ((spec_l01Below.f s0_0 bt148.2.1 bt148.2.2 4).bind fun bt154 => (spec_l4Draw.l0 k (([(⟨0, 1, wrap64 (1 + bt148.1)⟩ : S68)] : List (S68))) bt154.1 s0_0 bt154.2.1 bt154.2.2))))))
theorem spec_l4Draw.mono_l : ∀ k, (∀ y0 y1 y2 y3 y4, LeO (spec_l4Draw.l0 k y0 y1 y2 y3 y4) (spec_l4Draw.l0 (k + 1) y0 y1 y2 y3 y4))
  | 0 => fun _ _ _ _ _ r h => by simp [spec_l4Draw.l0] at h
  | k + 1 => by
    have ih0 := spec_l4Draw.mono_l k
    · intro y0 y1 y2 y3 y4
      unfold spec_l4Draw.l0
      repeat' first
      | (with_reducible exact ih0 _ _ _ _ _)
      | (with_reducible exact spec_IsKernel.mono _ _)
      | (with_reducible exact LeO.refl _)
      | (with_reducible exact LeO.none _)
      | (with_reducible refine LeO.ite ?_ ?_)
      | (with_reducible refine LeO.bind ?_ (fun _ => ?_))
      | exact ih0 _ _ _ _ _
      | exact spec_IsKernel.mono _ _
      | exact LeO.none _
      | refine LeO.ite ?_ ?_
      | refine LeO.bind ?_ (fun _ => ?_)
theorem spec_l4Draw.mono : ∀ a0 a1 a2 k, LeO (spec_l4Draw.f k a0 a1 a2) (spec_l4Draw.f (k + 1) a0 a1 a2) := by
  intro a0 a1 a2 k
  have ih0 := spec_l4Draw.mono_l k
  unfold spec_l4Draw.f
  repeat' first
      | (with_reducible exact ih0 _ _ _ _ _)
      | (with_reducible exact spec_IsKernel.mono _ _)
      | (with_reducible exact LeO.refl _)
      | (with_reducible exact LeO.none _)
      | (with_reducible refine LeO.ite ?_ ?_)
      | (with_reducible refine LeO.bind ?_ (fun _ => ?_))
      | exact ih0 _ _ _ _ _
      | exact spec_IsKernel.mono _ _
      | exact LeO.none _
      | refine LeO.ite ?_ ?_
      | refine LeO.bind ?_ (fun _ => ?_)
set_option maxHeartbeats 8000000 in
set_option maxRecDepth 100000 in
theorem spec_l4Draw.calls (k : Nat) (g : Nat) (s0_0 : List Int) (s0_1 : Int) (s0_2 : Int) (r1 : List (S68)) (r2 : Int) (r3 : Int) (w0 w : World) (hI : IsS70 w0 w g s0_0 s0_1 s0_2) (hB : Below w0.heap.size w0 w) (h : spec_l4Draw.f k s0_0 s0_1 s0_2 = some (r1, r2, r3)) :
  Calls Try.prog 31 #[.pointer (some ⟨g, 0, none⟩)] w fun e w' => ∃ v0_ : Value, e = .returned (v0_) ∧ Kd.R k68 68 w' w.heap.size (fun _ => True) v0_ r1 ∧ IsS70 w0 w' g s0_0 r2 r3 ∧ Below w0.heap.size w0 w' ∧ KeepBut w w' g none := by
 have hu68 := Try.underlying68
 have HI0 := Aside0.mk hI
 have HK := Aside0.mk (KeepBut.refl w g none)
 have HL := Aside0.mk hB.size
 clear hI
 have HW0 := Aside0.mk hB.size
 have HB := Aside0.mk hB
 clear hB
 have H : ((spec_l01Below.f s0_0 s0_1 s0_2 4).bind fun bt136 => (if bt136.1 = 0 then ((spec_SteinKernel.f).bind fun t139 => (some (t139, bt136.2.1, bt136.2.2))) else (if bt136.1 = 1 then ((spec_PlainKernel.f).bind fun t142 => (some (t142, bt136.2.1, bt136.2.2))) else (if bt136.1 = 2 then (some ((([(⟨1, 0, 8⟩ : S68), (⟨2, 0, 4⟩ : S68), (⟨(-2), 1, 2⟩ : S68), (⟨(-1), 1, 4⟩ : S68), (⟨0, 1, 8⟩ : S68), (⟨1, 1, 4⟩ : S68), (⟨2, 1, 2⟩ : S68)] : List (S68))), bt136.2.1, bt136.2.2)) else ((spec_l01Below.f s0_0 bt136.2.1 bt136.2.2 9).bind fun bt148 => ((spec_l01Below.f s0_0 bt148.2.1 bt148.2.2 4).bind fun bt154 => (spec_l4Draw.l0 k (([(⟨0, 1, wrap64 (1 + bt148.1)⟩ : S68)] : List (S68))) bt154.1 s0_0 bt154.2.1 bt154.2.2))))))) = some (r1, r2, r3) := h
 clear h
 replace H := Option.bind_eq_some_iff.mp H
 obtain ⟨⟨t136, t137, t138⟩, A20, H⟩ := H
 replace H : (if t136 = 0 then ((spec_SteinKernel.f).bind fun t139 => (some (t139, t137, t138))) else (if t136 = 1 then ((spec_PlainKernel.f).bind fun t142 => (some (t142, t137, t138))) else (if t136 = 2 then (some ((([(⟨1, 0, 8⟩ : S68), (⟨2, 0, 4⟩ : S68), (⟨(-2), 1, 2⟩ : S68), (⟨(-1), 1, 4⟩ : S68), (⟨0, 1, 8⟩ : S68), (⟨1, 1, 4⟩ : S68), (⟨2, 1, 2⟩ : S68)] : List (S68))), t137, t138)) else ((spec_l01Below.f s0_0 t137 t138 9).bind fun bt148 => ((spec_l01Below.f s0_0 bt148.2.1 bt148.2.2 4).bind fun bt154 => (spec_l4Draw.l0 k (([(⟨0, 1, wrap64 (1 + bt148.1)⟩ : S68)] : List (S68))) bt154.1 s0_0 bt154.2.1 bt154.2.2)))))) = some (r1, r2, r3) := H
 have A2 := Aside0.mk A20
 clear A20
 by_cases c3 : t136 = 0
 ·rw [if_pos c3] at H
  have c3b0 : (t136 == 0) = true := beq_iff_eq.mpr c3
  have c3b1 : (t136 != 0) = false := bne_eq_false_iff_eq.mpr c3
  clear c3
  replace H := Option.bind_eq_some_iff.mp H
  obtain ⟨t139, A40, H⟩ := H
  replace H : (some (t139, t137, t138)) = some (r1, r2, r3) := H
  have A4 := Aside0.mk A40
  clear A40
  simp only [Option.some.injEq, Prod.mk.injEq] at H
  obtain ⟨rfl, rfl, rfl⟩ := H
  go_enter Try.func31, Try.ntmps31
  go_wp2_with (first | ((with_reducible refine gate_callee (f := 51) rfl ?_); refine goesL_ (some 8) rfl rfl Try.func51 (by kernel_rfl) rfl #[.pointer (some ⟨g, 0, none⟩), .int .i64 4] rfl sL_ ?_; (with_reducible refine (spec_l01Below.calls g s0_0 s0_1 s0_2 4 t136 t137 t138 w0 _ ?side1 ?side2 A2.out).mono ?_); (case side1 => repeat (first | (with_reducible first | exact HI0.out | apply IsS70.alloc | apply IsS70.drewN | apply IsS70.drew | apply IsS70.set_1 | apply IsS70.set_2) | exact HI0.out)); (case side2 => repeat (first | (with_reducible first | exact HB.out | apply below_alloc | apply pw_below_drewN | apply below_drew1 | refine below_set ?_ (IsS70.ge HI0.out)) | exact HB.out)); rintro e w5 ⟨rfl, hi, hb, hk⟩; refine ⟨_, rfl, ?_⟩; have n0_ := Aside0.mk (KeepBut.trans (by repeat (first | (with_reducible first | exact HK.out | apply KeepBut.set_ | apply keep_drewN | apply keep_drew | apply keep_alloc) | exact HK.out)) hk (.inl rfl)); have n1_ := Aside0.mk (hb); have n2_ := Aside0.mk (hi); clear HK HB HI0; have HK := n0_; have HB := n1_; have HI0 := n2_; clear n0_ n1_ n2_; (try clear hb); (try clear hb2); (try clear hk); (try clear hi)) | ((with_reducible refine gate_callee (f := 52) rfl ?_); refine goesL_ (some 11) rfl rfl Try.func52 (by kernel_rfl) rfl #[] rfl sL_ ?_; (with_reducible refine (spec_SteinKernel.calls  t139 _ A4.out).mono ?_); rintro e w6 ⟨v140, rfl, ho0, hb⟩; refine ⟨_, rfl, ?_⟩; have n0_ := Aside0.mk (Kd.R_lower ho0 (keep_size (w := w) (g := g) (row := none) (by repeat (first | (with_reducible first | exact HK.out | apply KeepBut.set_ | apply keep_drewN | apply keep_drew | apply keep_alloc) | exact HK.out)))); have n1_ := Aside0.mk (IsS70.below (by repeat (first | (with_reducible first | exact HI0.out | apply IsS70.alloc | apply IsS70.drewN | apply IsS70.drew | apply IsS70.set_1 | apply IsS70.set_2) | exact HI0.out)) hb); have n2_ := Aside0.mk (KeepBut.trans (by repeat (first | (with_reducible first | exact HK.out | apply KeepBut.set_ | apply keep_drewN | apply keep_drew | apply keep_alloc) | exact HK.out)) (KeepBut.of_below hb g none) (.inl rfl)); have n3_ := Aside0.mk (below_step (by repeat (first | (with_reducible first | exact HB.out | apply below_alloc | apply pw_below_drewN | apply below_drew1 | refine below_set ?_ (IsS70.ge HI0.out)) | exact HB.out)) hb); clear HI0 HK HB; have HO141 := n0_; have HI0 := n1_; have HK := n2_; have HB := n3_; clear n0_ n1_ n2_ n3_; (try clear hb); (try clear hb2); (try clear hk); (try clear hi); (try clear ho0)))
  go_ret
  exact ⟨_, by first | rfl | (simp [errW_none, errW_some] <;> rfl) | (simp [*, errW_none, errW_some] <;> rfl), by (with_reducible repeat (first | apply Kd.R_alloc | apply Kd.R_drewN | apply Kd.R_drew)); exact HO141.out, by repeat (first | (with_reducible first | exact HI0.out | apply IsS70.alloc | apply IsS70.drewN | apply IsS70.drew | apply IsS70.set_1 | apply IsS70.set_2) | exact HI0.out), by repeat (first | (with_reducible first | exact HB.out | apply below_alloc | apply pw_below_drewN | apply below_drew1 | refine below_set ?_ (IsS70.ge HI0.out)) | exact HB.out), by repeat (first | (with_reducible first | exact HK.out | apply KeepBut.set_ | apply keep_drewN | apply keep_drew | apply keep_alloc) | exact HK.out)⟩
 rw [if_neg c3] at H
 have c3b0 : (t136 == 0) = false := beq_eq_false_iff_ne.mpr c3
 have c3b1 : (t136 != 0) = true := bne_iff_ne.mpr c3
 by_cases c7 : t136 = 1
 ·rw [if_pos c7] at H
  have c7b0 : (t136 == 1) = true := beq_iff_eq.mpr c7
  have c7b1 : (t136 != 1) = false := bne_eq_false_iff_eq.mpr c7
  clear c7
  replace H := Option.bind_eq_some_iff.mp H
  obtain ⟨t142, A80, H⟩ := H
  replace H : (some (t142, t137, t138)) = some (r1, r2, r3) := H
  have A8 := Aside0.mk A80
  clear A80
  simp only [Option.some.injEq, Prod.mk.injEq] at H
  obtain ⟨rfl, rfl, rfl⟩ := H
  go_enter Try.func31, Try.ntmps31
  go_wp2_with (first | ((with_reducible refine gate_callee (f := 51) rfl ?_); refine goesL_ (some 8) rfl rfl Try.func51 (by kernel_rfl) rfl #[.pointer (some ⟨g, 0, none⟩), .int .i64 4] rfl sL_ ?_; (with_reducible refine (spec_l01Below.calls g s0_0 s0_1 s0_2 4 t136 t137 t138 w0 _ ?side1 ?side2 A2.out).mono ?_); (case side1 => repeat (first | (with_reducible first | exact HI0.out | apply IsS70.alloc | apply IsS70.drewN | apply IsS70.drew | apply IsS70.set_1 | apply IsS70.set_2) | exact HI0.out)); (case side2 => repeat (first | (with_reducible first | exact HB.out | apply below_alloc | apply pw_below_drewN | apply below_drew1 | refine below_set ?_ (IsS70.ge HI0.out)) | exact HB.out)); rintro e w9 ⟨rfl, hi, hb, hk⟩; refine ⟨_, rfl, ?_⟩; have n0_ := Aside0.mk (KeepBut.trans (by repeat (first | (with_reducible first | exact HK.out | apply KeepBut.set_ | apply keep_drewN | apply keep_drew | apply keep_alloc) | exact HK.out)) hk (.inl rfl)); have n1_ := Aside0.mk (hb); have n2_ := Aside0.mk (hi); clear HK HB HI0; have HK := n0_; have HB := n1_; have HI0 := n2_; clear n0_ n1_ n2_; (try clear hb); (try clear hb2); (try clear hk); (try clear hi)) | ((with_reducible refine gate_callee (f := 50) rfl ?_); refine goesL_ (some 14) rfl rfl Try.func50 (by kernel_rfl) rfl #[] rfl sL_ ?_; (with_reducible refine (spec_PlainKernel.calls  t142 _ A8.out).mono ?_); rintro e w10 ⟨v143, rfl, ho0, hb⟩; refine ⟨_, rfl, ?_⟩; have n0_ := Aside0.mk (Kd.R_lower ho0 (keep_size (w := w) (g := g) (row := none) (by repeat (first | (with_reducible first | exact HK.out | apply KeepBut.set_ | apply keep_drewN | apply keep_drew | apply keep_alloc) | exact HK.out)))); have n1_ := Aside0.mk (IsS70.below (by repeat (first | (with_reducible first | exact HI0.out | apply IsS70.alloc | apply IsS70.drewN | apply IsS70.drew | apply IsS70.set_1 | apply IsS70.set_2) | exact HI0.out)) hb); have n2_ := Aside0.mk (KeepBut.trans (by repeat (first | (with_reducible first | exact HK.out | apply KeepBut.set_ | apply keep_drewN | apply keep_drew | apply keep_alloc) | exact HK.out)) (KeepBut.of_below hb g none) (.inl rfl)); have n3_ := Aside0.mk (below_step (by repeat (first | (with_reducible first | exact HB.out | apply below_alloc | apply pw_below_drewN | apply below_drew1 | refine below_set ?_ (IsS70.ge HI0.out)) | exact HB.out)) hb); clear HI0 HK HB; have HO144 := n0_; have HI0 := n1_; have HK := n2_; have HB := n3_; clear n0_ n1_ n2_ n3_; (try clear hb); (try clear hb2); (try clear hk); (try clear hi); (try clear ho0)))
  go_ret
  exact ⟨_, by first | rfl | (simp [errW_none, errW_some] <;> rfl) | (simp [*, errW_none, errW_some] <;> rfl), by (with_reducible repeat (first | apply Kd.R_alloc | apply Kd.R_drewN | apply Kd.R_drew)); exact HO144.out, by repeat (first | (with_reducible first | exact HI0.out | apply IsS70.alloc | apply IsS70.drewN | apply IsS70.drew | apply IsS70.set_1 | apply IsS70.set_2) | exact HI0.out), by repeat (first | (with_reducible first | exact HB.out | apply below_alloc | apply pw_below_drewN | apply below_drew1 | refine below_set ?_ (IsS70.ge HI0.out)) | exact HB.out), by repeat (first | (with_reducible first | exact HK.out | apply KeepBut.set_ | apply keep_drewN | apply keep_drew | apply keep_alloc) | exact HK.out)⟩
 rw [if_neg c7] at H
 have c7b0 : (t136 == 1) = false := beq_eq_false_iff_ne.mpr c7
 have c7b1 : (t136 != 1) = true := bne_iff_ne.mpr c7
 by_cases c11 : t136 = 2
 ·rw [if_pos c11] at H
  have c11b0 : (t136 == 2) = true := beq_iff_eq.mpr c11
  have c11b1 : (t136 != 2) = false := bne_eq_false_iff_eq.mpr c11
  clear c11
  obtain ⟨y145, hy145⟩ : ∃ y_ : List (S68), y_ = (([(⟨1, 0, 8⟩ : S68), (⟨2, 0, 4⟩ : S68), (⟨(-2), 1, 2⟩ : S68), (⟨(-1), 1, 4⟩ : S68), (⟨0, 1, 8⟩ : S68), (⟨1, 1, 4⟩ : S68), (⟨2, 1, 2⟩ : S68)] : List (S68))) := ⟨_, rfl⟩
  replace H : (some (y145, t137, t138)) = some (r1, r2, r3) := by first | (rw [hy145]; with_reducible exact H) | (have H2_ := (Option.bind_some _ _).symm.trans H; rw [hy145]; with_reducible exact H2_) | (have H2_ := (Option.bind_some _ _).symm.trans H; with_reducible exact H2_) | with_reducible exact H | (rw [hy145]; exact H) | exact H
  have Ny145 := Aside0.mk hy145
  clear hy145
  simp only [Option.some.injEq, Prod.mk.injEq] at H
  obtain ⟨rfl, rfl, rfl⟩ := H
  go_enter Try.func31, Try.ntmps31
  go_wp2_with (first | ((with_reducible refine gate_callee (f := 51) rfl ?_); refine goesL_ (some 8) rfl rfl Try.func51 (by kernel_rfl) rfl #[.pointer (some ⟨g, 0, none⟩), .int .i64 4] rfl sL_ ?_; (with_reducible refine (spec_l01Below.calls g s0_0 s0_1 s0_2 4 t136 t137 t138 w0 _ ?side1 ?side2 A2.out).mono ?_); (case side1 => repeat (first | (with_reducible first | exact HI0.out | apply IsS70.alloc | apply IsS70.drewN | apply IsS70.drew | apply IsS70.set_1 | apply IsS70.set_2) | exact HI0.out)); (case side2 => repeat (first | (with_reducible first | exact HB.out | apply below_alloc | apply pw_below_drewN | apply below_drew1 | refine below_set ?_ (IsS70.ge HI0.out)) | exact HB.out)); rintro e w12 ⟨rfl, hi, hb, hk⟩; refine ⟨_, rfl, ?_⟩; have n0_ := Aside0.mk (KeepBut.trans (by repeat (first | (with_reducible first | exact HK.out | apply KeepBut.set_ | apply keep_drewN | apply keep_drew | apply keep_alloc) | exact HK.out)) hk (.inl rfl)); have n1_ := Aside0.mk (hb); have n2_ := Aside0.mk (hi); clear HK HB HI0; have HK := n0_; have HB := n1_; have HI0 := n2_; clear n0_ n1_ n2_; (try clear hb); (try clear hb2); (try clear hk); (try clear hi)) | ((with_reducible refine gate_dst (N := 24) rfl ?_); refine Kd.R_lit k68 _ 68 ?hg (N := 24) ?hd (xs := ([(⟨1, 0, 8⟩ : S68), (⟨2, 0, 4⟩ : S68), (⟨(-2), 1, 2⟩ : S68), (⟨(-1), 1, 4⟩ : S68), (⟨0, 1, 8⟩ : S68), (⟨1, 1, 4⟩ : S68), (⟨2, 1, 2⟩ : S68)] : List (S68))) (inner := [.int .i64 1, .int .i64 0, .int .i64 8, .int .i64 2, .int .i64 0, .int .i64 4, .int .i64 (-2), .int .i64 1, .int .i64 2, .int .i64 (-1), .int .i64 1, .int .i64 4, .int .i64 0, .int .i64 1, .int .i64 8, .int .i64 1, .int .i64 1, .int .i64 4, .int .i64 2, .int .i64 1, .int .i64 2]) (ok := fun _ => True) (okp := fun _ => True) ?hr ?hp (fun _ hk => hk) trivial (Below.refl _ _) (Nat.le_refl _) (by simp) ?_; (case hd => rfl); (case hg => rfl); (case hr => first | (go_simp; done) | (go_simp; rfl)); (case hp => exact (Reps.c3 (show Kd.M k68 _ _ _ (⟨1, 0, 8⟩ : S68) [.int .i64 1, .int .i64 0, .int .i64 8] from (k68_mkM _ _ _ (⟨1, 0, 8⟩ : S68) )) (Reps.c3 (show Kd.M k68 _ _ _ (⟨2, 0, 4⟩ : S68) [.int .i64 2, .int .i64 0, .int .i64 4] from (k68_mkM _ _ _ (⟨2, 0, 4⟩ : S68) )) (Reps.c3 (show Kd.M k68 _ _ _ (⟨(-2), 1, 2⟩ : S68) [.int .i64 (-2), .int .i64 1, .int .i64 2] from (k68_mkM _ _ _ (⟨(-2), 1, 2⟩ : S68) )) (Reps.c3 (show Kd.M k68 _ _ _ (⟨(-1), 1, 4⟩ : S68) [.int .i64 (-1), .int .i64 1, .int .i64 4] from (k68_mkM _ _ _ (⟨(-1), 1, 4⟩ : S68) )) (Reps.c3 (show Kd.M k68 _ _ _ (⟨0, 1, 8⟩ : S68) [.int .i64 0, .int .i64 1, .int .i64 8] from (k68_mkM _ _ _ (⟨0, 1, 8⟩ : S68) )) (Reps.c3 (show Kd.M k68 _ _ _ (⟨1, 1, 4⟩ : S68) [.int .i64 1, .int .i64 1, .int .i64 4] from (k68_mkM _ _ _ (⟨1, 1, 4⟩ : S68) )) (Reps.c3 (show Kd.M k68 _ _ _ (⟨2, 1, 2⟩ : S68) [.int .i64 2, .int .i64 1, .int .i64 2] from (k68_mkM _ _ _ (⟨2, 1, 2⟩ : S68) )) (Reps.none _ _))))))))); intro v146 w13 ho14 hb hg_ hnew_; clear hg_ hnew_; (first | rw [← Ny145.out] at ho14 | (simp only [Int.reduceToNat] at ho14; rw [← Ny145.out] at ho14)); have n0_ := Aside0.mk (Kd.R_lower ho14 (keep_size (w := w) (g := g) (row := none) (by repeat (first | (with_reducible first | exact HK.out | apply KeepBut.set_ | apply keep_drewN | apply keep_drew | apply keep_alloc) | exact HK.out)))); have n1_ := Aside0.mk (IsS70.below (by repeat (first | (with_reducible first | exact HI0.out | apply IsS70.alloc | apply IsS70.drewN | apply IsS70.drew | apply IsS70.set_1 | apply IsS70.set_2) | exact HI0.out)) hb); have n2_ := Aside0.mk (KeepBut.trans (by repeat (first | (with_reducible first | exact HK.out | apply KeepBut.set_ | apply keep_drewN | apply keep_drew | apply keep_alloc) | exact HK.out)) (KeepBut.of_below hb g none) (.inl rfl)); have n3_ := Aside0.mk (below_step (by repeat (first | (with_reducible first | exact HB.out | apply below_alloc | apply pw_below_drewN | apply below_drew1 | refine below_set ?_ (IsS70.ge HI0.out)) | exact HB.out)) hb); clear HI0 HK HB; have HO147 := n0_; have HI0 := n1_; have HK := n2_; have HB := n3_; clear n0_ n1_ n2_ n3_; clear hb ho14))
  go_ret
  exact ⟨_, by first | rfl | (simp [errW_none, errW_some] <;> rfl) | (simp [*, errW_none, errW_some] <;> rfl), by (with_reducible repeat (first | apply Kd.R_alloc | apply Kd.R_drewN | apply Kd.R_drew)); exact HO147.out, by repeat (first | (with_reducible first | exact HI0.out | apply IsS70.alloc | apply IsS70.drewN | apply IsS70.drew | apply IsS70.set_1 | apply IsS70.set_2) | exact HI0.out), by repeat (first | (with_reducible first | exact HB.out | apply below_alloc | apply pw_below_drewN | apply below_drew1 | refine below_set ?_ (IsS70.ge HI0.out)) | exact HB.out), by repeat (first | (with_reducible first | exact HK.out | apply KeepBut.set_ | apply keep_drewN | apply keep_drew | apply keep_alloc) | exact HK.out)⟩
 rw [if_neg c11] at H
 have c11b0 : (t136 == 2) = false := beq_eq_false_iff_ne.mpr c11
 have c11b1 : (t136 != 2) = true := bne_iff_ne.mpr c11
 replace H := Option.bind_eq_some_iff.mp H
 obtain ⟨⟨t148, t149, t150⟩, A150, H⟩ := H
 replace H : ((spec_l01Below.f s0_0 t149 t150 4).bind fun bt154 => (spec_l4Draw.l0 k (([(⟨0, 1, wrap64 (1 + t148)⟩ : S68)] : List (S68))) bt154.1 s0_0 bt154.2.1 bt154.2.2)) = some (r1, r2, r3) := H
 have A15 := Aside0.mk A150
 clear A150
 obtain ⟨y151, hy151⟩ : ∃ y_ : List (S68), y_ = (([(⟨0, 1, wrap64 (1 + t148)⟩ : S68)] : List (S68))) := ⟨_, rfl⟩
 replace H : ((spec_l01Below.f s0_0 t149 t150 4).bind fun bt154 => (spec_l4Draw.l0 k y151 bt154.1 s0_0 bt154.2.1 bt154.2.2)) = some (r1, r2, r3) := by first | (rw [hy151]; with_reducible exact H) | (have H2_ := (Option.bind_some _ _).symm.trans H; rw [hy151]; with_reducible exact H2_) | (have H2_ := (Option.bind_some _ _).symm.trans H; with_reducible exact H2_) | with_reducible exact H | (rw [hy151]; exact H) | exact H
 have Ny151 := Aside0.mk hy151
 clear hy151
 replace H := Option.bind_eq_some_iff.mp H
 obtain ⟨⟨t154, t155, t156⟩, A160, H⟩ := H
 replace H : (spec_l4Draw.l0 k y151 t154 s0_0 t155 t156) = some (r1, r2, r3) := H
 have A16 := Aside0.mk A160
 clear A160
 have H' := Aside0.mk H
 clear H
 go_enter Try.func31, Try.ntmps31
 go_wp2_with (first | ((with_reducible refine gate_callee (f := 51) rfl ?_); refine goesL_ (some 8) rfl rfl Try.func51 (by kernel_rfl) rfl #[.pointer (some ⟨g, 0, none⟩), .int .i64 4] rfl sL_ ?_; (with_reducible refine (spec_l01Below.calls g s0_0 s0_1 s0_2 4 t136 t137 t138 w0 _ ?side1 ?side2 A2.out).mono ?_); (case side1 => repeat (first | (with_reducible first | exact HI0.out | apply IsS70.alloc | apply IsS70.drewN | apply IsS70.drew | apply IsS70.set_1 | apply IsS70.set_2) | exact HI0.out)); (case side2 => repeat (first | (with_reducible first | exact HB.out | apply below_alloc | apply pw_below_drewN | apply below_drew1 | refine below_set ?_ (IsS70.ge HI0.out)) | exact HB.out)); rintro e w17 ⟨rfl, hi, hb, hk⟩; refine ⟨_, rfl, ?_⟩; have n0_ := Aside0.mk (KeepBut.trans (by repeat (first | (with_reducible first | exact HK.out | apply KeepBut.set_ | apply keep_drewN | apply keep_drew | apply keep_alloc) | exact HK.out)) hk (.inl rfl)); have n1_ := Aside0.mk (hb); have n2_ := Aside0.mk (hi); clear HK HB HI0; have HK := n0_; have HB := n1_; have HI0 := n2_; clear n0_ n1_ n2_; (try clear hb); (try clear hb2); (try clear hk); (try clear hi)) | ((with_reducible refine gate_callee (f := 51) rfl ?_); refine goesL_ (some 26) rfl rfl Try.func51 (by kernel_rfl) rfl #[.pointer (some ⟨g, 0, none⟩), .int .i64 9] rfl sL_ ?_; (with_reducible refine (spec_l01Below.calls g s0_0 t137 t138 9 t148 t149 t150 w0 _ ?side1 ?side2 A15.out).mono ?_); (case side1 => repeat (first | (with_reducible first | exact HI0.out | apply IsS70.alloc | apply IsS70.drewN | apply IsS70.drew | apply IsS70.set_1 | apply IsS70.set_2) | exact HI0.out)); (case side2 => repeat (first | (with_reducible first | exact HB.out | apply below_alloc | apply pw_below_drewN | apply below_drew1 | refine below_set ?_ (IsS70.ge HI0.out)) | exact HB.out)); rintro e w18 ⟨rfl, hi, hb, hk⟩; refine ⟨_, rfl, ?_⟩; have n0_ := Aside0.mk (KeepBut.trans (by repeat (first | (with_reducible first | exact HK.out | apply KeepBut.set_ | apply keep_drewN | apply keep_drew | apply keep_alloc) | exact HK.out)) hk (.inl rfl)); have n1_ := Aside0.mk (hb); have n2_ := Aside0.mk (hi); clear HK HB HI0; have HK := n0_; have HB := n1_; have HI0 := n2_; clear n0_ n1_ n2_; (try clear hb); (try clear hb2); (try clear hk); (try clear hi)) | ((with_reducible refine gate_dst (N := 29) rfl ?_); refine Kd.R_lit k68 _ 68 ?hg (N := 29) ?hd (xs := ([(⟨0, 1, wrap64 (1 + t148)⟩ : S68)] : List (S68))) (inner := [.int .i64 0, .int .i64 1, .int .i64 (wrap64 (1 + t148))]) (ok := fun _ => True) (okp := fun _ => True) ?hr ?hp (fun _ hk => hk) trivial (Below.refl _ _) (Nat.le_refl _) (by simp) ?_; (case hd => rfl); (case hg => rfl); (case hr => first | (go_simp; done) | (go_simp; rfl)); (case hp => exact (Reps.c3 (show Kd.M k68 _ _ _ (⟨0, 1, wrap64 (1 + t148)⟩ : S68) [.int .i64 0, .int .i64 1, .int .i64 (wrap64 (1 + t148))] from (k68_mkM _ _ _ (⟨0, 1, wrap64 (1 + t148)⟩ : S68) )) (Reps.none _ _))); intro v152 w19 ho20 hb hg_ hnew_; clear hg_ hnew_; (first | rw [← Ny151.out] at ho20 | (simp only [Int.reduceToNat] at ho20; rw [← Ny151.out] at ho20)); have n0_ := Aside0.mk (Kd.R_lower ho20 (keep_size (w := w) (g := g) (row := none) (by repeat (first | (with_reducible first | exact HK.out | apply KeepBut.set_ | apply keep_drewN | apply keep_drew | apply keep_alloc) | exact HK.out)))); have n1_ := Aside0.mk (IsS70.below (by repeat (first | (with_reducible first | exact HI0.out | apply IsS70.alloc | apply IsS70.drewN | apply IsS70.drew | apply IsS70.set_1 | apply IsS70.set_2) | exact HI0.out)) hb); have n2_ := Aside0.mk (KeepBut.trans (by repeat (first | (with_reducible first | exact HK.out | apply KeepBut.set_ | apply keep_drewN | apply keep_drew | apply keep_alloc) | exact HK.out)) (KeepBut.of_below hb g none) (.inl rfl)); have n3_ := Aside0.mk (below_step (by repeat (first | (with_reducible first | exact HB.out | apply below_alloc | apply pw_below_drewN | apply below_drew1 | refine below_set ?_ (IsS70.ge HI0.out)) | exact HB.out)) hb); clear HI0 HK HB; have HO153 := n0_; have HI0 := n1_; have HK := n2_; have HB := n3_; clear n0_ n1_ n2_ n3_; clear hb ho20) | ((with_reducible refine gate_callee (f := 51) rfl ?_); refine goesL_ (some 31) rfl rfl Try.func51 (by kernel_rfl) rfl #[.pointer (some ⟨g, 0, none⟩), .int .i64 4] rfl sL_ ?_; (with_reducible refine (spec_l01Below.calls g s0_0 t149 t150 4 t154 t155 t156 w0 _ ?side1 ?side2 A16.out).mono ?_); (case side1 => repeat (first | (with_reducible first | exact HI0.out | apply IsS70.alloc | apply IsS70.drewN | apply IsS70.drew | apply IsS70.set_1 | apply IsS70.set_2) | exact HI0.out)); (case side2 => repeat (first | (with_reducible first | exact HB.out | apply below_alloc | apply pw_below_drewN | apply below_drew1 | refine below_set ?_ (IsS70.ge HI0.out)) | exact HB.out)); rintro e w21 ⟨rfl, hi, hb, hk⟩; refine ⟨_, rfl, ?_⟩; have n0_ := Aside0.mk (Kd.R_mono (Kd.R_keep (IsS70.apart (show IsS70 w0 _ g s0_0 t149 t150 from by repeat (first | (with_reducible first | exact HI0.out | apply IsS70.alloc | apply IsS70.drewN | apply IsS70.drew | apply IsS70.set_1 | apply IsS70.set_2) | exact HI0.out)) (sR_ HO153.out) (by decide)) hk (fun _ h => h.2)) (fun _ h => h.1)); have n1_ := Aside0.mk (KeepBut.trans (by repeat (first | (with_reducible first | exact HK.out | apply KeepBut.set_ | apply keep_drewN | apply keep_drew | apply keep_alloc) | exact HK.out)) hk (.inl rfl)); have n2_ := Aside0.mk (hb); have n3_ := Aside0.mk (hi); clear HO153 HK HB HI0; have HO153 := n0_; have HK := n1_; have HB := n2_; have HI0 := n3_; clear n0_ n1_ n2_ n3_; (try clear hb); (try clear hb2); (try clear hk); (try clear hi)))
 go_loopg [3, 4] k (fun kq v3 v4 w' => ∃ (x3_1 : List (S68)) (x4_1 : Int) (x1001_1 : Int) (x1002_1 : Int), v4 = .int .i64 x4_1 ∧ Aside0 (spec_l4Draw.l0 kq x3_1 x4_1 s0_0 x1001_1 x1002_1 = some (r1, r2, r3)) ∧ Aside0 (kq ≤ k) ∧ Aside0 (Kd.R k68 68 w' w.heap.size (fun _ => True) v3 x3_1) ∧ Aside0 (IsS70 w0 w' g s0_0 x1001_1 x1002_1) ∧ Aside0 (KeepBut w w' g none) ∧ Aside0 (Below w0.heap.size w0 w'))
 case atStart => exact ⟨(y151), (t154), (t155), (t156), (by first | rfl | (simp; done) | (simp [*]; done)), H', ⟨Nat.le_refl _⟩, ⟨by (with_reducible repeat (first | apply Kd.R_alloc | apply Kd.R_drewN | apply Kd.R_drew)); exact HO153.out⟩, ⟨by repeat (first | (with_reducible first | exact HI0.out | apply IsS70.alloc | apply IsS70.drewN | apply IsS70.drew | apply IsS70.set_1 | apply IsS70.set_2) | exact HI0.out)⟩, ⟨by repeat (first | (with_reducible first | exact HK.out | apply KeepBut.set_ | apply keep_drewN | apply keep_drew | apply keep_alloc) | exact HK.out)⟩, ⟨by repeat (first | (with_reducible first | exact HB.out | apply below_alloc | apply pw_below_drewN | apply below_drew1 | refine below_set ?_ (IsS70.ge HI0.out)) | exact HB.out)⟩⟩
 case round =>
  clear H'
  try clear c1
  try clear p2
  try clear c3
  try clear c3b0
  try clear c3b1
  try clear c5
  try clear p6
  try clear c7
  try clear c7b0
  try clear c7b1
  try clear c11
  try clear c11b0
  try clear c11b1
  obtain ⟨x3_1, x4_1, x1001_1, x1002_1, rfl, HA, HK1, HO_3, HI0, HK, HB⟩ := hrel
  cases gk with
  | zero => exact absurd HA.out (by simp [spec_l4Draw.l0])
  | succ k1 =>
   have H := HA.out; clear HA
   simp only [spec_l4Draw.l0] at H
   by_cases c22 : x4_1 > 0
   ·rw [if_pos c22] at H
    have c22b0 : decide (0 < x4_1) = true := decide_eq_true c22
    clear c22
    replace H := Option.bind_eq_some_iff.mp H
    obtain ⟨⟨t157, t158, t159⟩, A230, H⟩ := H
    replace H : ((spec_l01Below.f s0_0 t158 t159 5).bind fun bt160 => ((spec_l01Below.f s0_0 bt160.2.1 bt160.2.2 30).bind fun bt163 => ((some (([] : List (S68)) : List (S68))).bind fun y167 => (if y167.length + x3_1.length < 5864062014805 then ((some (y167 ++ x3_1 : List (S68))).bind fun y170 => ((some (([(⟨wrap64 (t157 - 4), bt160.1, wrap64 (1 + bt163.1)⟩ : S68)] : List (S68)) : List (S68))).bind fun y173 => (if y170.length + y173.length < 5864062014805 then ((some (y170 ++ y173 : List (S68))).bind fun y176 => ((spec_IsKernel.f k1 y176).bind fun t179 => (if t179 = true then (spec_l4Draw.l0 k1 y176 (wrap64 (x4_1 - 1)) s0_0 bt163.2.1 bt163.2.2) else (spec_l4Draw.l0 k1 x3_1 (wrap64 (x4_1 - 1)) s0_0 bt163.2.1 bt163.2.2)))) else (none)))) else (none))))) = some (r1, r2, r3) := H
    have A23 := Aside0.mk A230
    clear A230
    replace H := Option.bind_eq_some_iff.mp H
    obtain ⟨⟨t160, t161, t162⟩, A240, H⟩ := H
    replace H : ((spec_l01Below.f s0_0 t161 t162 30).bind fun bt163 => ((some (([] : List (S68)) : List (S68))).bind fun y167 => (if y167.length + x3_1.length < 5864062014805 then ((some (y167 ++ x3_1 : List (S68))).bind fun y170 => ((some (([(⟨wrap64 (t157 - 4), t160, wrap64 (1 + bt163.1)⟩ : S68)] : List (S68)) : List (S68))).bind fun y173 => (if y170.length + y173.length < 5864062014805 then ((some (y170 ++ y173 : List (S68))).bind fun y176 => ((spec_IsKernel.f k1 y176).bind fun t179 => (if t179 = true then (spec_l4Draw.l0 k1 y176 (wrap64 (x4_1 - 1)) s0_0 bt163.2.1 bt163.2.2) else (spec_l4Draw.l0 k1 x3_1 (wrap64 (x4_1 - 1)) s0_0 bt163.2.1 bt163.2.2)))) else (none)))) else (none)))) = some (r1, r2, r3) := H
    have A24 := Aside0.mk A240
    clear A240
    replace H := Option.bind_eq_some_iff.mp H
    obtain ⟨⟨t163, t164, t165⟩, A250, H⟩ := H
    replace H : ((some (([] : List (S68)) : List (S68))).bind fun y167 => (if y167.length + x3_1.length < 5864062014805 then ((some (y167 ++ x3_1 : List (S68))).bind fun y170 => ((some (([(⟨wrap64 (t157 - 4), t160, wrap64 (1 + t163)⟩ : S68)] : List (S68)) : List (S68))).bind fun y173 => (if y170.length + y173.length < 5864062014805 then ((some (y170 ++ y173 : List (S68))).bind fun y176 => ((spec_IsKernel.f k1 y176).bind fun t179 => (if t179 = true then (spec_l4Draw.l0 k1 y176 (wrap64 (x4_1 - 1)) s0_0 t164 t165) else (spec_l4Draw.l0 k1 x3_1 (wrap64 (x4_1 - 1)) s0_0 t164 t165)))) else (none)))) else (none))) = some (r1, r2, r3) := H
    have A25 := Aside0.mk A250
    clear A250
    obtain ⟨y167, hy167⟩ : ∃ y_ : List (S68), y_ = (([] : List (S68))) := ⟨_, rfl⟩
    replace H : (if y167.length + x3_1.length < 5864062014805 then ((some (y167 ++ x3_1 : List (S68))).bind fun y170 => ((some (([(⟨wrap64 (t157 - 4), t160, wrap64 (1 + t163)⟩ : S68)] : List (S68)) : List (S68))).bind fun y173 => (if y170.length + y173.length < 5864062014805 then ((some (y170 ++ y173 : List (S68))).bind fun y176 => ((spec_IsKernel.f k1 y176).bind fun t179 => (if t179 = true then (spec_l4Draw.l0 k1 y176 (wrap64 (x4_1 - 1)) s0_0 t164 t165) else (spec_l4Draw.l0 k1 x3_1 (wrap64 (x4_1 - 1)) s0_0 t164 t165)))) else (none)))) else (none)) = some (r1, r2, r3) := by first | (rw [hy167]; with_reducible exact H) | (have H2_ := (Option.bind_some _ _).symm.trans H; rw [hy167]; with_reducible exact H2_) | (have H2_ := (Option.bind_some _ _).symm.trans H; with_reducible exact H2_) | with_reducible exact H | (rw [hy167]; exact H) | exact H
    have Ny167 := Aside0.mk hy167
    clear hy167
    by_cases c26 : y167.length + x3_1.length < 5864062014805
    ·rw [if_pos c26] at H
     have LMc26 := Aside0.mk c26
     clear c26
     obtain ⟨y170, hy170⟩ : ∃ y_ : List (S68), y_ = (y167 ++ x3_1) := ⟨_, rfl⟩
     replace H : ((some (([(⟨wrap64 (t157 - 4), t160, wrap64 (1 + t163)⟩ : S68)] : List (S68)) : List (S68))).bind fun y173 => (if y170.length + y173.length < 5864062014805 then ((some (y170 ++ y173 : List (S68))).bind fun y176 => ((spec_IsKernel.f k1 y176).bind fun t179 => (if t179 = true then (spec_l4Draw.l0 k1 y176 (wrap64 (x4_1 - 1)) s0_0 t164 t165) else (spec_l4Draw.l0 k1 x3_1 (wrap64 (x4_1 - 1)) s0_0 t164 t165)))) else (none))) = some (r1, r2, r3) := by first | (rw [hy170]; with_reducible exact H) | (have H2_ := (Option.bind_some _ _).symm.trans H; rw [hy170]; with_reducible exact H2_) | (have H2_ := (Option.bind_some _ _).symm.trans H; with_reducible exact H2_) | with_reducible exact H | (rw [hy170]; exact H) | exact H
     have Ny170 := Aside0.mk hy170
     clear hy170
     obtain ⟨y173, hy173⟩ : ∃ y_ : List (S68), y_ = (([(⟨wrap64 (t157 - 4), t160, wrap64 (1 + t163)⟩ : S68)] : List (S68))) := ⟨_, rfl⟩
     replace H : (if y170.length + y173.length < 5864062014805 then ((some (y170 ++ y173 : List (S68))).bind fun y176 => ((spec_IsKernel.f k1 y176).bind fun t179 => (if t179 = true then (spec_l4Draw.l0 k1 y176 (wrap64 (x4_1 - 1)) s0_0 t164 t165) else (spec_l4Draw.l0 k1 x3_1 (wrap64 (x4_1 - 1)) s0_0 t164 t165)))) else (none)) = some (r1, r2, r3) := by first | (rw [hy173]; with_reducible exact H) | (have H2_ := (Option.bind_some _ _).symm.trans H; rw [hy173]; with_reducible exact H2_) | (have H2_ := (Option.bind_some _ _).symm.trans H; with_reducible exact H2_) | with_reducible exact H | (rw [hy173]; exact H) | exact H
     have Ny173 := Aside0.mk hy173
     clear hy173
     by_cases c27 : y170.length + y173.length < 5864062014805
     ·rw [if_pos c27] at H
      have LMc27 := Aside0.mk c27
      clear c27
      obtain ⟨y176, hy176⟩ : ∃ y_ : List (S68), y_ = (y170 ++ y173) := ⟨_, rfl⟩
      replace H : ((spec_IsKernel.f k1 y176).bind fun t179 => (if t179 = true then (spec_l4Draw.l0 k1 y176 (wrap64 (x4_1 - 1)) s0_0 t164 t165) else (spec_l4Draw.l0 k1 x3_1 (wrap64 (x4_1 - 1)) s0_0 t164 t165))) = some (r1, r2, r3) := by first | (rw [hy176]; with_reducible exact H) | (have H2_ := (Option.bind_some _ _).symm.trans H; rw [hy176]; with_reducible exact H2_) | (have H2_ := (Option.bind_some _ _).symm.trans H; with_reducible exact H2_) | with_reducible exact H | (rw [hy176]; exact H) | exact H
      have Ny176 := Aside0.mk hy176
      clear hy176
      replace H := Option.bind_eq_some_iff.mp H
      obtain ⟨t179, A280, H⟩ := H
      replace H : (if t179 = true then (spec_l4Draw.l0 k1 y176 (wrap64 (x4_1 - 1)) s0_0 t164 t165) else (spec_l4Draw.l0 k1 x3_1 (wrap64 (x4_1 - 1)) s0_0 t164 t165)) = some (r1, r2, r3) := H
      have A28 := Aside0.mk A280
      clear A280
      by_cases c29 : t179 = true
      ·subst c29
       have H1 : (spec_l4Draw.l0 k1 y176 (wrap64 (x4_1 - 1)) s0_0 t164 t165) = some (r1, r2, r3) := by rw [if_pos rfl] at H; exact H
       clear H; have H := H1; clear H1
       have H' := Aside0.mk H
       clear H
       try go_wp2_with (first | ((with_reducible refine gate_callee (f := 51) rfl ?_); refine goesL_ (some 37) rfl rfl Try.func51 (by kernel_rfl) rfl #[.pointer (some ⟨g, 0, none⟩), .int .i64 9] rfl sL_ ?_; (with_reducible refine (spec_l01Below.calls g s0_0 x1001_1 x1002_1 9 t157 t158 t159 w0 _ ?side1 ?side2 A23.out).mono ?_); (case side1 => repeat (first | (with_reducible first | exact HI0.out | apply IsS70.alloc | apply IsS70.drewN | apply IsS70.drew | apply IsS70.set_1 | apply IsS70.set_2) | exact HI0.out)); (case side2 => repeat (first | (with_reducible first | exact HB.out | apply below_alloc | apply pw_below_drewN | apply below_drew1 | refine below_set ?_ (IsS70.ge HI0.out)) | exact HB.out)); rintro e w30 ⟨rfl, hi, hb, hk⟩; refine ⟨_, rfl, ?_⟩; have n0_ := Aside0.mk (Kd.R_mono (Kd.R_keep (IsS70.apart (show IsS70 w0 _ g s0_0 x1001_1 x1002_1 from by repeat (first | (with_reducible first | exact HI0.out | apply IsS70.alloc | apply IsS70.drewN | apply IsS70.drew | apply IsS70.set_1 | apply IsS70.set_2) | exact HI0.out)) (sR_ HO_3.out) (by decide)) hk (fun _ h => h.2)) (fun _ h => h.1)); have n1_ := Aside0.mk (KeepBut.trans (by repeat (first | (with_reducible first | exact HK.out | apply KeepBut.set_ | apply keep_drewN | apply keep_drew | apply keep_alloc) | exact HK.out)) hk (.inl rfl)); have n2_ := Aside0.mk (hb); have n3_ := Aside0.mk (hi); clear HO_3 HK HB HI0; have HO_3 := n0_; have HK := n1_; have HB := n2_; have HI0 := n3_; clear n0_ n1_ n2_ n3_; (try clear hb); (try clear hb2); (try clear hk); (try clear hi)) | ((with_reducible refine gate_callee (f := 51) rfl ?_); refine goesL_ (some 40) rfl rfl Try.func51 (by kernel_rfl) rfl #[.pointer (some ⟨g, 0, none⟩), .int .i64 5] rfl sL_ ?_; (with_reducible refine (spec_l01Below.calls g s0_0 t158 t159 5 t160 t161 t162 w0 _ ?side1 ?side2 A24.out).mono ?_); (case side1 => repeat (first | (with_reducible first | exact HI0.out | apply IsS70.alloc | apply IsS70.drewN | apply IsS70.drew | apply IsS70.set_1 | apply IsS70.set_2) | exact HI0.out)); (case side2 => repeat (first | (with_reducible first | exact HB.out | apply below_alloc | apply pw_below_drewN | apply below_drew1 | refine below_set ?_ (IsS70.ge HI0.out)) | exact HB.out)); rintro e w31 ⟨rfl, hi, hb, hk⟩; refine ⟨_, rfl, ?_⟩; have n0_ := Aside0.mk (Kd.R_mono (Kd.R_keep (IsS70.apart (show IsS70 w0 _ g s0_0 t158 t159 from by repeat (first | (with_reducible first | exact HI0.out | apply IsS70.alloc | apply IsS70.drewN | apply IsS70.drew | apply IsS70.set_1 | apply IsS70.set_2) | exact HI0.out)) (sR_ HO_3.out) (by decide)) hk (fun _ h => h.2)) (fun _ h => h.1)); have n1_ := Aside0.mk (KeepBut.trans (by repeat (first | (with_reducible first | exact HK.out | apply KeepBut.set_ | apply keep_drewN | apply keep_drew | apply keep_alloc) | exact HK.out)) hk (.inl rfl)); have n2_ := Aside0.mk (hb); have n3_ := Aside0.mk (hi); clear HO_3 HK HB HI0; have HO_3 := n0_; have HK := n1_; have HB := n2_; have HI0 := n3_; clear n0_ n1_ n2_ n3_; (try clear hb); (try clear hb2); (try clear hk); (try clear hi)) | ((with_reducible refine gate_callee (f := 51) rfl ?_); refine goesL_ (some 42) rfl rfl Try.func51 (by kernel_rfl) rfl #[.pointer (some ⟨g, 0, none⟩), .int .i64 30] rfl sL_ ?_; (with_reducible refine (spec_l01Below.calls g s0_0 t161 t162 30 t163 t164 t165 w0 _ ?side1 ?side2 A25.out).mono ?_); (case side1 => repeat (first | (with_reducible first | exact HI0.out | apply IsS70.alloc | apply IsS70.drewN | apply IsS70.drew | apply IsS70.set_1 | apply IsS70.set_2) | exact HI0.out)); (case side2 => repeat (first | (with_reducible first | exact HB.out | apply below_alloc | apply pw_below_drewN | apply below_drew1 | refine below_set ?_ (IsS70.ge HI0.out)) | exact HB.out)); rintro e w32 ⟨rfl, hi, hb, hk⟩; refine ⟨_, rfl, ?_⟩; have n0_ := Aside0.mk (Kd.R_mono (Kd.R_keep (IsS70.apart (show IsS70 w0 _ g s0_0 t161 t162 from by repeat (first | (with_reducible first | exact HI0.out | apply IsS70.alloc | apply IsS70.drewN | apply IsS70.drew | apply IsS70.set_1 | apply IsS70.set_2) | exact HI0.out)) (sR_ HO_3.out) (by decide)) hk (fun _ h => h.2)) (fun _ h => h.1)); have n1_ := Aside0.mk (KeepBut.trans (by repeat (first | (with_reducible first | exact HK.out | apply KeepBut.set_ | apply keep_drewN | apply keep_drew | apply keep_alloc) | exact HK.out)) hk (.inl rfl)); have n2_ := Aside0.mk (hb); have n3_ := Aside0.mk (hi); clear HO_3 HK HB HI0; have HO_3 := n0_; have HK := n1_; have HB := n2_; have HI0 := n3_; clear n0_ n1_ n2_ n3_; (try clear hb); (try clear hb2); (try clear hk); (try clear hi)) | ((with_reducible refine gate_dst (N := 5) rfl ?_); refine box_event ?hg (N := 5) ?hd (cs := #[.int .i64 0, .int .i64 0, .int .i64 0]) (t := 68) ?hr ?_; (case hd => rfl); (case hg => rfl); (case hr => first | (go_simp; done) | (go_simp; rfl)); intro gb166 hg w33 hbox hb; have n0_ := Aside0.mk (Kd.R_below (Kd.R_elderB (sR_ HO_3.out) gb166 (Nat.le_of_eq hg.symm)) hb); have n1_ := Aside0.mk (IsS70.below (by repeat (first | (with_reducible first | exact HI0.out | apply IsS70.alloc | apply IsS70.drewN | apply IsS70.drew | apply IsS70.set_1 | apply IsS70.set_2) | exact HI0.out)) hb); have n2_ := Aside0.mk (KeepBut.trans (by repeat (first | (with_reducible first | exact HK.out | apply KeepBut.set_ | apply keep_drewN | apply keep_drew | apply keep_alloc) | exact HK.out)) (KeepBut.of_below hb g none) (.inl rfl)); have n3_ := Aside0.mk (below_step (by repeat (first | (with_reducible first | exact HB.out | apply below_alloc | apply pw_below_drewN | apply below_drew1 | refine below_set ?_ (IsS70.ge HI0.out)) | exact HB.out)) hb); have n4_ := Aside0.mk (hbox); have n5_ := Aside0.mk ((by rw [hg]; exact (keep_size (w := w) (g := g) (row := none) (by repeat (first | (with_reducible first | exact HK.out | apply KeepBut.set_ | apply keep_drewN | apply keep_drew | apply keep_alloc) | exact HK.out))) : w.heap.size ≤ gb166)); have n6_ := Aside0.mk ((Nat.le_trans HW0.out (by rw [hg]; exact (keep_size (w := w) (g := g) (row := none) (by repeat (first | (with_reducible first | exact HK.out | apply KeepBut.set_ | apply keep_drewN | apply keep_drew | apply keep_alloc) | exact HK.out))) : w.heap.size ≤ gb166) : w0.heap.size ≤ gb166)); have n7_ := Aside0.mk ((by rw [hg]; exact Nat.ne_of_lt (IsS70.lt (show IsS70 w0 _ g s0_0 t164 t165 from by repeat (first | (with_reducible first | exact HI0.out | apply IsS70.alloc | apply IsS70.drewN | apply IsS70.drew | apply IsS70.set_1 | apply IsS70.set_2) | exact HI0.out))) : g ≠ gb166)); have n8_ := Aside0.mk ((by rw [hg]; exact Nat.ne_of_gt (IsS70.lt (show IsS70 w0 _ g s0_0 t164 t165 from by repeat (first | (with_reducible first | exact HI0.out | apply IsS70.alloc | apply IsS70.drewN | apply IsS70.drew | apply IsS70.set_1 | apply IsS70.set_2) | exact HI0.out))) : gb166 ≠ g)); clear HO_3 HI0 HK HB; have HO_3 := n0_; have HI0 := n1_; have HK := n2_; have HB := n3_; have BK166 := n4_; have GW166 := n5_; have GE166 := n6_; have NB0_166 := n7_; have NB166_0 := n8_; clear n0_ n1_ n2_ n3_ n4_ n5_ n6_ n7_ n8_; clear hb hbox hg; have hnb34 := NB166_0.out; have hnc34 := NB0_166.out; obtain ⟨hcz35_0, hcz35_1, hcz35_2, hfz35_0, hfz35_1, hfz35_2⟩ := sZ_ BK166.out; obtain ⟨Ao36, co36, eo36⟩ := Kd.R_slice HO_3.out; subst eo36))
       have n0_ : Aside0 (Kd.R k68 68 (((w33.setCell ⟨gb166, 0, none⟩ (.int .i64 (wrap64 (t157 - 4)))).setCell ⟨gb166, 1, none⟩ (.int .i64 t160)).setCell ⟨gb166, 2, none⟩ (.int .i64 (wrap64 (1 + t163)))) w.heap.size (fun k_ => k_ ≠ gb166) (.slice Ao36 x3_1.length co36) x3_1) := ⟨by (with_reducible repeat (first | apply Kd.R_alloc | apply Kd.R_drewN | apply Kd.R_drew)); exact Kd.R_mono (Kd.R_far (p := ⟨gb166, 2, none⟩) (Kd.R_far (p := ⟨gb166, 1, none⟩) (Kd.R_far (p := ⟨gb166, 0, none⟩) (Kd.R_mono HO_3.out (fun k_ hk => (⟨hk, hk.2⟩ : _ ∧ k_ ≠ gb166))) (fun _ hk => hk.2) (.int .i64 (wrap64 (t157 - 4)))) (fun _ hk => hk.2) (.int .i64 t160)) (fun _ hk => hk.2) (.int .i64 (wrap64 (1 + t163)))) (fun _ hk => hk.1.2)⟩
       have n1_ : Aside0 ((((w33.setCell ⟨gb166, 0, none⟩ (.int .i64 (wrap64 (t157 - 4)))).setCell ⟨gb166, 1, none⟩ (.int .i64 t160)).setCell ⟨gb166, 2, none⟩ (.int .i64 (wrap64 (1 + t163)))).heap[gb166]? = some (.cells #[.int .i64 (wrap64 (t157 - 4)), .int .i64 t160, .int .i64 (wrap64 (1 + t163))] 68 (0, 0))) := ⟨by refine sB_ ?_; refine blk_put (cs := #[.int .i64 (wrap64 (t157 - 4)), .int .i64 t160, .int .i64 0]) ?_ 2 _ rfl; refine sB_ ?_; refine blk_put (cs := #[.int .i64 (wrap64 (t157 - 4)), .int .i64 0, .int .i64 0]) ?_ 1 _ rfl; refine sB_ ?_; refine blk_put (cs := #[.int .i64 0, .int .i64 0, .int .i64 0]) ?_ 0 _ rfl; refine sB_ ?_; exact BK166.out⟩
       have n2_ : Aside0 (IsS70 w0 (((w33.setCell ⟨gb166, 0, none⟩ (.int .i64 (wrap64 (t157 - 4)))).setCell ⟨gb166, 1, none⟩ (.int .i64 t160)).setCell ⟨gb166, 2, none⟩ (.int .i64 (wrap64 (1 + t163)))) g s0_0 t164 t165) := ⟨by repeat (first | (with_reducible first | exact HI0.out | apply IsS70.alloc | apply IsS70.drewN | apply IsS70.drew | apply IsS70.set_1 | apply IsS70.set_2 | refine IsS70.far ?_ NB0_166.out _) | exact HI0.out)⟩
       have n3_ : Aside0 (KeepBut w (((w33.setCell ⟨gb166, 0, none⟩ (.int .i64 (wrap64 (t157 - 4)))).setCell ⟨gb166, 1, none⟩ (.int .i64 t160)).setCell ⟨gb166, 2, none⟩ (.int .i64 (wrap64 (1 + t163)))) g none) := ⟨by repeat (first | (with_reducible first | exact HK.out | apply KeepBut.set_ | apply keep_drewN | apply keep_drew | apply keep_alloc | refine keep_far ?_ GW166.out _) | exact HK.out)⟩
       have n4_ : Aside0 (Below w0.heap.size w0 (((w33.setCell ⟨gb166, 0, none⟩ (.int .i64 (wrap64 (t157 - 4)))).setCell ⟨gb166, 1, none⟩ (.int .i64 t160)).setCell ⟨gb166, 2, none⟩ (.int .i64 (wrap64 (1 + t163))))) := ⟨by repeat (first | (with_reducible first | exact HB.out | apply below_alloc | apply pw_below_drewN | apply below_drew1 | refine below_set ?_ (IsS70.ge HI0.out) | refine below_set ?_ GE166.out) | exact HB.out)⟩
       (try clear HO_3)
       (try clear BK166)
       (try clear HI0)
       (try clear HK)
       (try clear HB)
       generalize (((w33.setCell ⟨gb166, 0, none⟩ (.int .i64 (wrap64 (t157 - 4)))).setCell ⟨gb166, 1, none⟩ (.int .i64 t160)).setCell ⟨gb166, 2, none⟩ (.int .i64 (wrap64 (1 + t163)))) = w37 at n0_ n1_ n2_ n3_ n4_ ⊢
       have HO_3 := n0_; have BK166 := n1_; have HI0 := n2_; have HK := n3_; have HB := n4_; clear n0_ n1_ n2_ n3_ n4_
       have n0_ := Aside0.mk (Kd.R_drew HO_3.out)
       have n1_ := Aside0.mk (blk_drew BK166.out)
       have n2_ := Aside0.mk (IsS70.drew HI0.out)
       have n3_ := Aside0.mk (keep_drew HK.out)
       have n4_ := Aside0.mk (below_drew1 HB.out)
       clear HO_3 BK166 HI0 HK HB; have HO_3 := n0_; have BK166 := n1_; have HI0 := n2_; have HK := n3_; have HB := n4_; clear n0_ n1_ n2_ n3_ n4_
       refine start_ (n := 7) (S := fun w' => w'.cell? ⟨gb166, 0, none⟩ = some (.int .i64 (wrap64 (t157 - 4))) ∧ w'.cell? ⟨gb166, 1, none⟩ = some (.int .i64 t160) ∧ w'.cell? ⟨gb166, 2, none⟩ = some (.int .i64 (wrap64 (1 + t163)))) (ds := []) #[false, false, false, false, false, false, false] (by kernel_rfl) rfl rfl ⟨(blk_cell BK166.out 0).trans rfl, (blk_cell BK166.out 1).trans rfl, (blk_cell BK166.out 2).trans rfl⟩ (fun hHeld => ?_)
       generalize w37.drew = w38 at HO_3 BK166 HI0 HK HB hHeld ⊢
       refine pure_ (i := 1) (N := some 46) (v := ?_) (a' := ?_) #[false, true, false, false, false, false, false] rfl rfl (by kernel_rfl) (fun _ _ _ h => h) (Or.inl ⟨by rfl, ?_⟩) ?_ ?_
       rotate_left
       ·intro w'
        go_simp
        with_reducible rfl
       rotate_left
       ·simp only [Act.put, List.setIfInBounds_toArray, List.set_cons_zero, List.set_cons_succ, i64_w, i32_w]
        rfl
       refine take_ (i := 3) (N := some 48) (v := ?_) (a' := ?_) #[false, true, false, true, false, false, false] rfl rfl (by kernel_rfl) (fun _ _ _ h => h) (Or.inl ⟨by rfl, ?_⟩) hHeld ?_ ?_
       rotate_left
       ·rintro w' ⟨s0, s1, s2⟩
        go_simp
        with_reducible rfl
       rotate_left
       ·simp only [Act.put, List.setIfInBounds_toArray, List.set_cons_zero, List.set_cons_succ, i64_w, i32_w]
        rfl
       refine join_ (σ := Value × Value × Value) 2 #[true, true, true, true, true, false, false] (fun s_ => [(45, s_.1), (47, s_.2.1), (49, s_.2.2)]) (fun s_ w' => (w'.cell? ⟨gb166, 0, none⟩ = some (.int .i64 (wrap64 (t157 - 4))) ∧ w'.cell? ⟨gb166, 1, none⟩ = some (.int .i64 t160) ∧ w'.cell? ⟨gb166, 2, none⟩ = some (.int .i64 (wrap64 (1 + t163)))) ∧ (Kd.R k68 68 w' w.heap.size (fun k_ => some k_ ≠ (s_.2.2 : Value).ownBlock ∧ some k_ ≠ (.slice Ao36 x3_1.length co36 : Value).ownBlock ∧ k_ ≠ gb166) s_.2.1 y170) ∧ (Kd.R k68 68 w' w.heap.size (fun k_ => some k_ ≠ (s_.2.1 : Value).ownBlock ∧ some k_ ≠ (.slice Ao36 x3_1.length co36 : Value).ownBlock ∧ k_ ≠ gb166) s_.2.2 y173) ∧ (Kd.R k68 68 w' w.heap.size (fun k_ => some k_ ≠ (s_.2.1 : Value).ownBlock ∧ some k_ ≠ (s_.2.2 : Value).ownBlock ∧ k_ ≠ gb166) (.slice Ao36 x3_1.length co36) x3_1) ∧ (w'.heap[gb166]? = some (.cells #[.int .i64 (wrap64 (t157 - 4)), .int .i64 t160, .int .i64 (wrap64 (1 + t163))] 68 (0, 0))) ∧ (IsS70 w0 w' g s0_0 t164 t165) ∧ (KeepBut w w' g none) ∧ (Below w0.heap.size w0 w')) ?_ ?_
       rotate_left
       ·intro hCont
        refine two_ (i := 0) (j := 4) (Ni := some 45) (Nj := some 49) #[true, true, false, true, false, false, false] #[false, true, false, true, true, false, false] rfl rfl rfl rfl (by kernel_rfl) (by decide) (by decide) (fun K hK => ?_) (fun K hK => ?_)
        ·skip
         refine Kd.R_lit_step k68 _ 68 ?hg (N := 45) ?hd (xs := ([] : List (S68))) (inner := []) (ok := fun _ => True) (okp := fun _ => True) ?hr ?hp (fun _ hk => hk) trivial (Below.refl _ _) (Nat.le_refl _) (by simp) ?_; (case hd => rfl); (case hg => rfl); (case hr => first | (go_simp; done) | (go_simp; rfl)); (case hp => exact (Reps.none _ _))
         intro v168 w39 ho40 hb hg_ hnew_
         clear hg_ hnew_
         (first | rw [← Ny167.out] at ho40 | (simp only [Int.reduceToNat] at ho40; rw [← Ny167.out] at ho40))
         have n0_ := Aside0.mk (Kd.R_elder' (sR_ HO_3.out) (Kd.R_base ho40) hb)
         have n1_ := Aside0.mk (Kd.R_lower (Kd.R_newB (Kd.R_new' ho40 (Kd.R_lt (sR_ HO_3.out))) (sB_ BK166.out)) (keep_size (w := w) (g := g) (row := none) (by repeat (first | (with_reducible first | exact HK.out | apply KeepBut.set_ | apply keep_drewN | apply keep_drew | apply keep_alloc | refine keep_far ?_ GW166.out _) | exact HK.out))))
         have n2_ := Aside0.mk (IsS70.below (by repeat (first | (with_reducible first | exact HI0.out | apply IsS70.alloc | apply IsS70.drewN | apply IsS70.drew | apply IsS70.set_1 | apply IsS70.set_2 | refine IsS70.far ?_ NB0_166.out _) | exact HI0.out)) hb)
         have n3_ := Aside0.mk (blk_below (sB_ BK166.out) hb)
         have n4_ := Aside0.mk (KeepBut.trans (by repeat (first | (with_reducible first | exact HK.out | apply KeepBut.set_ | apply keep_drewN | apply keep_drew | apply keep_alloc | refine keep_far ?_ GW166.out _) | exact HK.out)) (KeepBut.of_below hb g none) (.inl rfl))
         have n5_ := Aside0.mk (below_step (by repeat (first | (with_reducible first | exact HB.out | apply below_alloc | apply pw_below_drewN | apply below_drew1 | refine below_set ?_ (IsS70.ge HI0.out) | refine below_set ?_ GE166.out) | exact HB.out)) hb)
         clear HO_3 HI0 BK166 HK HB; have HO_3 := n0_; have HO169 := n1_; have HI0 := n2_; have BK166 := n3_; have HK := n4_; have HB := n5_; clear n0_ n1_ n2_ n3_ n4_ n5_ hb ho40
         refine hK.out _ _ ⟨(blk_cell BK166.out 0).trans rfl, (blk_cell BK166.out 1).trans rfl, (blk_cell BK166.out 2).trans rfl⟩ (fun hHeld => ?_)
         clear hK K
         refine norm_ (a' := ?_) ?_ ?_
         rotate_left
         ·show Act.put _ (some 45) _ = _
          simp only [Act.put, List.setIfInBounds_toArray, List.set_cons_zero, List.set_cons_succ, i64_w, i32_w]
          rfl
         refine two_ (i := 2) (j := 4) (Ni := some 47) (Nj := some 49) #[true, true, true, true, false, false, false] #[true, true, false, true, true, false, false] rfl rfl rfl rfl (by kernel_rfl) (by decide) (by decide) (fun K hK => ?_) (fun K hK => ?_)
         ·skip
          refine Kd.R_append_rows_step k68 w.heap.size (by rfl) (.tmp 45) (.tmp 46) 23 68 (.agg #[(.int .i64 0), (.int .i64 0), (.int .i64 0)]) 24 rfl Try.underlying23 info68 rfl (by decide) (by omega) v168 y167 x3_1 _ _ _ (fun k_ => some k_ ≠ (.slice Ao36 x3_1.length co36 : Value).ownBlock ∧ k_ ≠ gb166) (fun _ => False) rfl rfl ?aO ?aR (fun _ _ h => h) (fun _ h => h.elim) ?aF (Below.refl _ _) ?aS ?aL ?_
          (case aR => repeat (first | exact (Kd.R_reads' HO_3.out).2.2 | (with_reducible refine Kd.C_alloc ?_ _) | (with_reducible refine Kd.C_drewN ?_ _) | (with_reducible refine Kd.C_drew ?_)))
          (case aF => exact (fun k_ hk => ⟨Kd.fresh' (Kd.R_lt (sR_ HO_3.out)) k_ hk, Kd.freshB (sB_ BK166.out) k_ hk⟩))
          (case aO => exact (by (with_reducible repeat (first | apply Kd.R_alloc | apply Kd.R_drewN | apply Kd.R_drew)); exact Kd.R_mono HO169.out (fun _ hk => ⟨hk.1.2, hk.2⟩)))
          (case aS => exact (keep_size (w := w) (g := g) (row := none) (by repeat (first | (with_reducible first | exact HK.out | apply KeepBut.set_ | apply keep_drewN | apply keep_drew | apply keep_alloc | refine keep_far ?_ GW166.out _) | exact HK.out))))
          (case aL => have := LMc26.out; omega)
          intro v171 w41 ho hb hg hat
          rw [← Ny170.out] at ho
          have n0_ := Aside0.mk (Kd.R_after (ok := (fun k_ => k_ ≠ gb166)) (sR_ HO_3.out) hg hat)
          have n1_ := Aside0.mk (IsS70.grown (by repeat (first | (with_reducible first | exact HI0.out | apply IsS70.alloc | apply IsS70.drewN | apply IsS70.drew | apply IsS70.set_1 | apply IsS70.set_2 | refine IsS70.far ?_ NB0_166.out _) | exact HI0.out)) hg (IsS70.own_ne HI0.out HO169.out (by decide)))
          have n2_ := Aside0.mk (blk_grown (sB_ BK166.out) hg (Kd.R_away HO169.out (fun _ hk => hk.2)))
          have n3_ := Aside0.mk (below_weaken (by repeat (first | (with_reducible first | exact HB.out | apply below_alloc | apply pw_below_drewN | apply below_drew1 | refine below_set ?_ (IsS70.ge HI0.out) | refine below_set ?_ GE166.out) | exact HB.out)) HL.out hb)
          have n4_ := Aside0.mk (KeepBut.trans (by repeat (first | (with_reducible first | exact HK.out | apply KeepBut.set_ | apply keep_drewN | apply keep_drew | apply keep_alloc | refine keep_far ?_ GW166.out _) | exact HK.out)) (KeepBut.of_grown hg g) (Kd.R_base2 HO169.out))
          have n5_ := Aside0.mk (ho)
          clear HO_3 HI0 BK166 HB HK HO169; have HO_3 := n0_; have HI0 := n1_; have BK166 := n2_; have HB := n3_; have HK := n4_; have HO172 := n5_; clear n0_ n1_ n2_ n3_ n4_ n5_ ho hb hg hat
          refine hK.out _ _ ⟨(blk_cell BK166.out 0).trans rfl, (blk_cell BK166.out 1).trans rfl, (blk_cell BK166.out 2).trans rfl⟩ (fun hHeld => ?_)
          clear hK K
          refine norm_ (a' := ?_) ?_ ?_
          rotate_left
          ·show Act.put _ (some 47) _ = _
           simp only [Act.put, List.setIfInBounds_toArray, List.set_cons_zero, List.set_cons_succ, i64_w, i32_w]
           rfl
          refine one_ (i := 4) (N := some 49) #[true, true, true, true, true, false, false] rfl rfl (by kernel_rfl) (by decide) (fun K hK => ?_)
          refine Kd.R_lit_step k68 _ 68 ?hg (N := 49) ?hd (xs := ([(⟨wrap64 (t157 - 4), t160, wrap64 (1 + t163)⟩ : S68)] : List (S68))) (inner := [.int .i64 (wrap64 (t157 - 4)), .int .i64 t160, .int .i64 (wrap64 (1 + t163))]) (ok := fun _ => True) (okp := fun _ => True) ?hr ?hp (fun _ hk => hk) trivial (Below.refl _ _) (Nat.le_refl _) (by simp) ?_; (case hd => rfl); (case hg => rfl); (case hr => first | (go_simp; done) | (go_simp; rfl)); (case hp => exact (Reps.c3 (show Kd.M k68 _ _ _ (⟨wrap64 (t157 - 4), t160, wrap64 (1 + t163)⟩ : S68) [.int .i64 (wrap64 (t157 - 4)), .int .i64 t160, .int .i64 (wrap64 (1 + t163))] from (k68_mkM _ _ _ (⟨wrap64 (t157 - 4), t160, wrap64 (1 + t163)⟩ : S68) )) (Reps.none _ _)))
          intro v174 w42 ho43 hb hg_ hnew_
          clear hg_ hnew_
          (first | rw [← Ny173.out] at ho43 | (simp only [Int.reduceToNat] at ho43; rw [← Ny173.out] at ho43))
          have n0_ := Aside0.mk (Kd.R_elder' (sR_ HO_3.out) (Kd.R_base ho43) hb)
          have n1_ := Aside0.mk (Kd.R_elder' (sR_ HO172.out) (Kd.R_base ho43) hb)
          have n2_ := Aside0.mk (Kd.R_lower (Kd.R_newB (Kd.R_new' (Kd.R_new' ho43 (Kd.R_lt (sR_ HO_3.out))) (Kd.R_lt (sR_ HO172.out))) (sB_ BK166.out)) (keep_size (w := w) (g := g) (row := none) (by repeat (first | (with_reducible first | exact HK.out | apply KeepBut.set_ | apply keep_drewN | apply keep_drew | apply keep_alloc | refine keep_far ?_ GW166.out _) | exact HK.out))))
          have n3_ := Aside0.mk (IsS70.below (by repeat (first | (with_reducible first | exact HI0.out | apply IsS70.alloc | apply IsS70.drewN | apply IsS70.drew | apply IsS70.set_1 | apply IsS70.set_2 | refine IsS70.far ?_ NB0_166.out _) | exact HI0.out)) hb)
          have n4_ := Aside0.mk (blk_below (sB_ BK166.out) hb)
          have n5_ := Aside0.mk (KeepBut.trans (by repeat (first | (with_reducible first | exact HK.out | apply KeepBut.set_ | apply keep_drewN | apply keep_drew | apply keep_alloc | refine keep_far ?_ GW166.out _) | exact HK.out)) (KeepBut.of_below hb g none) (.inl rfl))
          have n6_ := Aside0.mk (below_step (by repeat (first | (with_reducible first | exact HB.out | apply below_alloc | apply pw_below_drewN | apply below_drew1 | refine below_set ?_ (IsS70.ge HI0.out) | refine below_set ?_ GE166.out) | exact HB.out)) hb)
          clear HO_3 HO172 HI0 BK166 HK HB; have HO_3 := n0_; have HO172 := n1_; have HO175 := n2_; have HI0 := n3_; have BK166 := n4_; have HK := n5_; have HB := n6_; clear n0_ n1_ n2_ n3_ n4_ n5_ n6_ hb ho43
          refine hK.out _ _ ⟨(blk_cell BK166.out 0).trans rfl, (blk_cell BK166.out 1).trans rfl, (blk_cell BK166.out 2).trans rfl⟩ (fun hHeld => ?_)
          clear hK K
          refine norm_ (a' := ?_) ?_ ?_
          rotate_left
          ·show Act.put _ (some 49) _ = _
           simp only [Act.put, List.setIfInBounds_toArray, List.set_cons_zero, List.set_cons_succ, i64_w, i32_w]
           rfl
          exact norm_ sP_ (hCont (v168, v171, v174) _ ⟨hHeld, (by (with_reducible repeat (first | apply Kd.R_alloc | apply Kd.R_drewN | apply Kd.R_drew)); exact Kd.R_mono HO172.out (fun _ hk => ⟨hk.2, ⟨hk.1.1, hk.1.2⟩⟩)), (by (with_reducible repeat (first | apply Kd.R_alloc | apply Kd.R_drewN | apply Kd.R_drew)); exact Kd.R_mono HO175.out (fun _ hk => ⟨hk.1.2, ⟨hk.1.1.2, hk.2⟩⟩)), (by (with_reducible repeat (first | apply Kd.R_alloc | apply Kd.R_drewN | apply Kd.R_drew)); exact Kd.R_mono HO_3.out (fun _ hk => ⟨hk.1.2, ⟨hk.2, hk.1.1⟩⟩)), (sB_ BK166.out), (by repeat (first | (with_reducible first | exact HI0.out | apply IsS70.alloc | apply IsS70.drewN | apply IsS70.drew | apply IsS70.set_1 | apply IsS70.set_2 | refine IsS70.far ?_ NB0_166.out _) | exact HI0.out)), (by repeat (first | (with_reducible first | exact HK.out | apply KeepBut.set_ | apply keep_drewN | apply keep_drew | apply keep_alloc | refine keep_far ?_ GW166.out _) | exact HK.out)), (by repeat (first | (with_reducible first | exact HB.out | apply below_alloc | apply pw_below_drewN | apply below_drew1 | refine below_set ?_ (IsS70.ge HI0.out) | refine below_set ?_ GE166.out) | exact HB.out))⟩)
         skip
         refine Kd.R_lit_step k68 _ 68 ?hg (N := 49) ?hd (xs := ([(⟨wrap64 (t157 - 4), t160, wrap64 (1 + t163)⟩ : S68)] : List (S68))) (inner := [.int .i64 (wrap64 (t157 - 4)), .int .i64 t160, .int .i64 (wrap64 (1 + t163))]) (ok := fun _ => True) (okp := fun _ => True) ?hr ?hp (fun _ hk => hk) trivial (Below.refl _ _) (Nat.le_refl _) (by simp) ?_; (case hd => rfl); (case hg => rfl); (case hr => first | (go_simp; done) | (go_simp; rfl)); (case hp => exact (Reps.c3 (show Kd.M k68 _ _ _ (⟨wrap64 (t157 - 4), t160, wrap64 (1 + t163)⟩ : S68) [.int .i64 (wrap64 (t157 - 4)), .int .i64 t160, .int .i64 (wrap64 (1 + t163))] from (k68_mkM _ _ _ (⟨wrap64 (t157 - 4), t160, wrap64 (1 + t163)⟩ : S68) )) (Reps.none _ _)))
         intro v174 w41 ho42 hb hg_ hnew_
         clear hg_ hnew_
         (first | rw [← Ny173.out] at ho42 | (simp only [Int.reduceToNat] at ho42; rw [← Ny173.out] at ho42))
         have n0_ := Aside0.mk (Kd.R_elder' (sR_ HO_3.out) (Kd.R_base ho42) hb)
         have n1_ := Aside0.mk (Kd.R_elder' (sR_ HO169.out) (Kd.R_base ho42) hb)
         have n2_ := Aside0.mk (Kd.R_lower (Kd.R_newB (Kd.R_new' (Kd.R_new' ho42 (Kd.R_lt (sR_ HO_3.out))) (Kd.R_lt (sR_ HO169.out))) (sB_ BK166.out)) (keep_size (w := w) (g := g) (row := none) (by repeat (first | (with_reducible first | exact HK.out | apply KeepBut.set_ | apply keep_drewN | apply keep_drew | apply keep_alloc | refine keep_far ?_ GW166.out _) | exact HK.out))))
         have n3_ := Aside0.mk (IsS70.below (by repeat (first | (with_reducible first | exact HI0.out | apply IsS70.alloc | apply IsS70.drewN | apply IsS70.drew | apply IsS70.set_1 | apply IsS70.set_2 | refine IsS70.far ?_ NB0_166.out _) | exact HI0.out)) hb)
         have n4_ := Aside0.mk (blk_below (sB_ BK166.out) hb)
         have n5_ := Aside0.mk (KeepBut.trans (by repeat (first | (with_reducible first | exact HK.out | apply KeepBut.set_ | apply keep_drewN | apply keep_drew | apply keep_alloc | refine keep_far ?_ GW166.out _) | exact HK.out)) (KeepBut.of_below hb g none) (.inl rfl))
         have n6_ := Aside0.mk (below_step (by repeat (first | (with_reducible first | exact HB.out | apply below_alloc | apply pw_below_drewN | apply below_drew1 | refine below_set ?_ (IsS70.ge HI0.out) | refine below_set ?_ GE166.out) | exact HB.out)) hb)
         clear HO_3 HO169 HI0 BK166 HK HB; have HO_3 := n0_; have HO169 := n1_; have HO175 := n2_; have HI0 := n3_; have BK166 := n4_; have HK := n5_; have HB := n6_; clear n0_ n1_ n2_ n3_ n4_ n5_ n6_ hb ho42
         refine hK.out _ _ ⟨(blk_cell BK166.out 0).trans rfl, (blk_cell BK166.out 1).trans rfl, (blk_cell BK166.out 2).trans rfl⟩ (fun hHeld => ?_)
         clear hK K
         refine norm_ (a' := ?_) ?_ ?_
         rotate_left
         ·show Act.put _ (some 49) _ = _
          simp only [Act.put, List.setIfInBounds_toArray, List.set_cons_zero, List.set_cons_succ, i64_w, i32_w]
          rfl
         refine one_ (i := 2) (N := some 47) #[true, true, true, true, true, false, false] rfl rfl (by kernel_rfl) (by decide) (fun K hK => ?_)
         refine Kd.R_append_rows_step k68 w.heap.size (by rfl) (.tmp 45) (.tmp 46) 23 68 (.agg #[(.int .i64 0), (.int .i64 0), (.int .i64 0)]) 24 rfl Try.underlying23 info68 rfl (by decide) (by omega) v168 y167 x3_1 _ _ _ (fun k_ => some k_ ≠ (.slice Ao36 x3_1.length co36 : Value).ownBlock ∧ some k_ ≠ (v174 : Value).ownBlock ∧ k_ ≠ gb166) (fun _ => False) rfl rfl ?aO ?aR (fun _ _ h => h) (fun _ h => h.elim) ?aF (Below.refl _ _) ?aS ?aL ?_
         (case aR => repeat (first | exact (Kd.R_reads' HO_3.out).2.2 | (with_reducible refine Kd.C_alloc ?_ _) | (with_reducible refine Kd.C_drewN ?_ _) | (with_reducible refine Kd.C_drew ?_)))
         (case aF => exact (fun k_ hk => ⟨Kd.fresh' (Kd.R_lt (sR_ HO_3.out)) k_ hk, Kd.fresh' (Kd.R_lt (sR_ HO175.out)) k_ hk, Kd.freshB (sB_ BK166.out) k_ hk⟩))
         (case aO => exact (by (with_reducible repeat (first | apply Kd.R_alloc | apply Kd.R_drewN | apply Kd.R_drew)); exact Kd.R_mono HO169.out (fun _ hk => ⟨hk.1.1.2, ⟨hk.2, hk.1.2⟩⟩)))
         (case aS => exact (keep_size (w := w) (g := g) (row := none) (by repeat (first | (with_reducible first | exact HK.out | apply KeepBut.set_ | apply keep_drewN | apply keep_drew | apply keep_alloc | refine keep_far ?_ GW166.out _) | exact HK.out))))
         (case aL => have := LMc26.out; omega)
         intro v171 w43 ho hb hg hat
         rw [← Ny170.out] at ho
         have n0_ := Aside0.mk (Kd.R_after (ok := (fun k_ => some k_ ≠ (v174 : Value).ownBlock ∧ k_ ≠ gb166)) (by (with_reducible repeat (first | apply Kd.R_alloc | apply Kd.R_drewN | apply Kd.R_drew)); exact Kd.R_mono HO_3.out (fun _ hk => ⟨⟨hk.2, hk.1.1⟩, hk.1.2⟩)) hg hat)
         have n1_ := Aside0.mk (IsS70.grown (by repeat (first | (with_reducible first | exact HI0.out | apply IsS70.alloc | apply IsS70.drewN | apply IsS70.drew | apply IsS70.set_1 | apply IsS70.set_2 | refine IsS70.far ?_ NB0_166.out _) | exact HI0.out)) hg (IsS70.own_ne HI0.out HO169.out (by decide)))
         have n2_ := Aside0.mk (blk_grown (sB_ BK166.out) hg (Kd.R_away HO169.out (fun _ hk => hk.1.2)))
         have n3_ := Aside0.mk (Kd.R_after (ok := (fun k_ => some k_ ≠ (.slice Ao36 x3_1.length co36 : Value).ownBlock ∧ k_ ≠ gb166)) (by (with_reducible repeat (first | apply Kd.R_alloc | apply Kd.R_drewN | apply Kd.R_drew)); exact Kd.R_mono HO175.out (fun _ hk => ⟨⟨hk.1.1.2, hk.2⟩, hk.1.2⟩)) hg hat)
         have n4_ := Aside0.mk (below_weaken (by repeat (first | (with_reducible first | exact HB.out | apply below_alloc | apply pw_below_drewN | apply below_drew1 | refine below_set ?_ (IsS70.ge HI0.out) | refine below_set ?_ GE166.out) | exact HB.out)) HL.out hb)
         have n5_ := Aside0.mk (KeepBut.trans (by repeat (first | (with_reducible first | exact HK.out | apply KeepBut.set_ | apply keep_drewN | apply keep_drew | apply keep_alloc | refine keep_far ?_ GW166.out _) | exact HK.out)) (KeepBut.of_grown hg g) (Kd.R_base2 HO169.out))
         have n6_ := Aside0.mk (ho)
         clear HO_3 HI0 BK166 HO175 HB HK HO169; have HO_3 := n0_; have HI0 := n1_; have BK166 := n2_; have HO175 := n3_; have HB := n4_; have HK := n5_; have HO172 := n6_; clear n0_ n1_ n2_ n3_ n4_ n5_ n6_ ho hb hg hat
         refine hK.out _ _ ⟨(blk_cell BK166.out 0).trans rfl, (blk_cell BK166.out 1).trans rfl, (blk_cell BK166.out 2).trans rfl⟩ (fun hHeld => ?_)
         clear hK K
         refine norm_ (a' := ?_) ?_ ?_
         rotate_left
         ·show Act.put _ (some 47) _ = _
          simp only [Act.put, List.setIfInBounds_toArray, List.set_cons_zero, List.set_cons_succ, i64_w, i32_w]
          rfl
         exact norm_ sP_ (hCont (v168, v171, v174) _ ⟨hHeld, (by (with_reducible repeat (first | apply Kd.R_alloc | apply Kd.R_drewN | apply Kd.R_drew)); exact Kd.R_mono HO172.out (fun _ hk => ⟨hk.2.1, ⟨hk.1, hk.2.2⟩⟩)), (by (with_reducible repeat (first | apply Kd.R_alloc | apply Kd.R_drewN | apply Kd.R_drew)); exact Kd.R_mono HO175.out (fun _ hk => ⟨hk.2, ⟨hk.1.1, hk.1.2⟩⟩)), (by (with_reducible repeat (first | apply Kd.R_alloc | apply Kd.R_drewN | apply Kd.R_drew)); exact Kd.R_mono HO_3.out (fun _ hk => ⟨hk.2, ⟨hk.1.1, hk.1.2⟩⟩)), (sB_ BK166.out), (by repeat (first | (with_reducible first | exact HI0.out | apply IsS70.alloc | apply IsS70.drewN | apply IsS70.drew | apply IsS70.set_1 | apply IsS70.set_2 | refine IsS70.far ?_ NB0_166.out _) | exact HI0.out)), (by repeat (first | (with_reducible first | exact HK.out | apply KeepBut.set_ | apply keep_drewN | apply keep_drew | apply keep_alloc | refine keep_far ?_ GW166.out _) | exact HK.out)), (by repeat (first | (with_reducible first | exact HB.out | apply below_alloc | apply pw_below_drewN | apply below_drew1 | refine below_set ?_ (IsS70.ge HI0.out) | refine below_set ?_ GE166.out) | exact HB.out))⟩)
        skip
        refine Kd.R_lit_step k68 _ 68 ?hg (N := 49) ?hd (xs := ([(⟨wrap64 (t157 - 4), t160, wrap64 (1 + t163)⟩ : S68)] : List (S68))) (inner := [.int .i64 (wrap64 (t157 - 4)), .int .i64 t160, .int .i64 (wrap64 (1 + t163))]) (ok := fun _ => True) (okp := fun _ => True) ?hr ?hp (fun _ hk => hk) trivial (Below.refl _ _) (Nat.le_refl _) (by simp) ?_; (case hd => rfl); (case hg => rfl); (case hr => first | (go_simp; done) | (go_simp; rfl)); (case hp => exact (Reps.c3 (show Kd.M k68 _ _ _ (⟨wrap64 (t157 - 4), t160, wrap64 (1 + t163)⟩ : S68) [.int .i64 (wrap64 (t157 - 4)), .int .i64 t160, .int .i64 (wrap64 (1 + t163))] from (k68_mkM _ _ _ (⟨wrap64 (t157 - 4), t160, wrap64 (1 + t163)⟩ : S68) )) (Reps.none _ _)))
        intro v174 w39 ho40 hb hg_ hnew_
        clear hg_ hnew_
        (first | rw [← Ny173.out] at ho40 | (simp only [Int.reduceToNat] at ho40; rw [← Ny173.out] at ho40))
        have n0_ := Aside0.mk (Kd.R_elder' (sR_ HO_3.out) (Kd.R_base ho40) hb)
        have n1_ := Aside0.mk (Kd.R_lower (Kd.R_newB (Kd.R_new' ho40 (Kd.R_lt (sR_ HO_3.out))) (sB_ BK166.out)) (keep_size (w := w) (g := g) (row := none) (by repeat (first | (with_reducible first | exact HK.out | apply KeepBut.set_ | apply keep_drewN | apply keep_drew | apply keep_alloc | refine keep_far ?_ GW166.out _) | exact HK.out))))
        have n2_ := Aside0.mk (IsS70.below (by repeat (first | (with_reducible first | exact HI0.out | apply IsS70.alloc | apply IsS70.drewN | apply IsS70.drew | apply IsS70.set_1 | apply IsS70.set_2 | refine IsS70.far ?_ NB0_166.out _) | exact HI0.out)) hb)
        have n3_ := Aside0.mk (blk_below (sB_ BK166.out) hb)
        have n4_ := Aside0.mk (KeepBut.trans (by repeat (first | (with_reducible first | exact HK.out | apply KeepBut.set_ | apply keep_drewN | apply keep_drew | apply keep_alloc | refine keep_far ?_ GW166.out _) | exact HK.out)) (KeepBut.of_below hb g none) (.inl rfl))
        have n5_ := Aside0.mk (below_step (by repeat (first | (with_reducible first | exact HB.out | apply below_alloc | apply pw_below_drewN | apply below_drew1 | refine below_set ?_ (IsS70.ge HI0.out) | refine below_set ?_ GE166.out) | exact HB.out)) hb)
        clear HO_3 HI0 BK166 HK HB; have HO_3 := n0_; have HO175 := n1_; have HI0 := n2_; have BK166 := n3_; have HK := n4_; have HB := n5_; clear n0_ n1_ n2_ n3_ n4_ n5_ hb ho40
        refine hK.out _ _ ⟨(blk_cell BK166.out 0).trans rfl, (blk_cell BK166.out 1).trans rfl, (blk_cell BK166.out 2).trans rfl⟩ (fun hHeld => ?_)
        clear hK K
        refine norm_ (a' := ?_) ?_ ?_
        rotate_left
        ·show Act.put _ (some 49) _ = _
         simp only [Act.put, List.setIfInBounds_toArray, List.set_cons_zero, List.set_cons_succ, i64_w, i32_w]
         rfl
        refine one_ (i := 0) (N := some 45) #[true, true, false, true, true, false, false] rfl rfl (by kernel_rfl) (by decide) (fun K hK => ?_)
        refine Kd.R_lit_step k68 _ 68 ?hg (N := 45) ?hd (xs := ([] : List (S68))) (inner := []) (ok := fun _ => True) (okp := fun _ => True) ?hr ?hp (fun _ hk => hk) trivial (Below.refl _ _) (Nat.le_refl _) (by simp) ?_; (case hd => rfl); (case hg => rfl); (case hr => first | (go_simp; done) | (go_simp; rfl)); (case hp => exact (Reps.none _ _))
        intro v168 w41 ho42 hb hg_ hnew_
        clear hg_ hnew_
        (first | rw [← Ny167.out] at ho42 | (simp only [Int.reduceToNat] at ho42; rw [← Ny167.out] at ho42))
        have n0_ := Aside0.mk (Kd.R_elder' (sR_ HO_3.out) (Kd.R_base ho42) hb)
        have n1_ := Aside0.mk (Kd.R_elder' (sR_ HO175.out) (Kd.R_base ho42) hb)
        have n2_ := Aside0.mk (Kd.R_lower (Kd.R_newB (Kd.R_new' (Kd.R_new' ho42 (Kd.R_lt (sR_ HO_3.out))) (Kd.R_lt (sR_ HO175.out))) (sB_ BK166.out)) (keep_size (w := w) (g := g) (row := none) (by repeat (first | (with_reducible first | exact HK.out | apply KeepBut.set_ | apply keep_drewN | apply keep_drew | apply keep_alloc | refine keep_far ?_ GW166.out _) | exact HK.out))))
        have n3_ := Aside0.mk (IsS70.below (by repeat (first | (with_reducible first | exact HI0.out | apply IsS70.alloc | apply IsS70.drewN | apply IsS70.drew | apply IsS70.set_1 | apply IsS70.set_2 | refine IsS70.far ?_ NB0_166.out _) | exact HI0.out)) hb)
        have n4_ := Aside0.mk (blk_below (sB_ BK166.out) hb)
        have n5_ := Aside0.mk (KeepBut.trans (by repeat (first | (with_reducible first | exact HK.out | apply KeepBut.set_ | apply keep_drewN | apply keep_drew | apply keep_alloc | refine keep_far ?_ GW166.out _) | exact HK.out)) (KeepBut.of_below hb g none) (.inl rfl))
        have n6_ := Aside0.mk (below_step (by repeat (first | (with_reducible first | exact HB.out | apply below_alloc | apply pw_below_drewN | apply below_drew1 | refine below_set ?_ (IsS70.ge HI0.out) | refine below_set ?_ GE166.out) | exact HB.out)) hb)
        clear HO_3 HO175 HI0 BK166 HK HB; have HO_3 := n0_; have HO175 := n1_; have HO169 := n2_; have HI0 := n3_; have BK166 := n4_; have HK := n5_; have HB := n6_; clear n0_ n1_ n2_ n3_ n4_ n5_ n6_ hb ho42
        refine hK.out _ _ ⟨(blk_cell BK166.out 0).trans rfl, (blk_cell BK166.out 1).trans rfl, (blk_cell BK166.out 2).trans rfl⟩ (fun hHeld => ?_)
        clear hK K
        refine norm_ (a' := ?_) ?_ ?_
        rotate_left
        ·show Act.put _ (some 45) _ = _
         simp only [Act.put, List.setIfInBounds_toArray, List.set_cons_zero, List.set_cons_succ, i64_w, i32_w]
         rfl
        refine one_ (i := 2) (N := some 47) #[true, true, true, true, true, false, false] rfl rfl (by kernel_rfl) (by decide) (fun K hK => ?_)
        refine Kd.R_append_rows_step k68 w.heap.size (by rfl) (.tmp 45) (.tmp 46) 23 68 (.agg #[(.int .i64 0), (.int .i64 0), (.int .i64 0)]) 24 rfl Try.underlying23 info68 rfl (by decide) (by omega) v168 y167 x3_1 _ _ _ (fun k_ => some k_ ≠ (.slice Ao36 x3_1.length co36 : Value).ownBlock ∧ some k_ ≠ (v174 : Value).ownBlock ∧ k_ ≠ gb166) (fun _ => False) rfl rfl ?aO ?aR (fun _ _ h => h) (fun _ h => h.elim) ?aF (Below.refl _ _) ?aS ?aL ?_
        (case aR => repeat (first | exact (Kd.R_reads' HO_3.out).2.2 | (with_reducible refine Kd.C_alloc ?_ _) | (with_reducible refine Kd.C_drewN ?_ _) | (with_reducible refine Kd.C_drew ?_)))
        (case aF => exact (fun k_ hk => ⟨Kd.fresh' (Kd.R_lt (sR_ HO_3.out)) k_ hk, Kd.fresh' (Kd.R_lt (sR_ HO175.out)) k_ hk, Kd.freshB (sB_ BK166.out) k_ hk⟩))
        (case aO => exact (by (with_reducible repeat (first | apply Kd.R_alloc | apply Kd.R_drewN | apply Kd.R_drew)); exact Kd.R_mono HO169.out (fun _ hk => ⟨hk.1.1.2, ⟨hk.1.2, hk.2⟩⟩)))
        (case aS => exact (keep_size (w := w) (g := g) (row := none) (by repeat (first | (with_reducible first | exact HK.out | apply KeepBut.set_ | apply keep_drewN | apply keep_drew | apply keep_alloc | refine keep_far ?_ GW166.out _) | exact HK.out))))
        (case aL => have := LMc26.out; omega)
        intro v171 w43 ho hb hg hat
        rw [← Ny170.out] at ho
        have n0_ := Aside0.mk (Kd.R_after (ok := (fun k_ => some k_ ≠ (v174 : Value).ownBlock ∧ k_ ≠ gb166)) (by (with_reducible repeat (first | apply Kd.R_alloc | apply Kd.R_drewN | apply Kd.R_drew)); exact Kd.R_mono HO_3.out (fun _ hk => ⟨⟨hk.1.2, hk.1.1⟩, hk.2⟩)) hg hat)
        have n1_ := Aside0.mk (IsS70.grown (by repeat (first | (with_reducible first | exact HI0.out | apply IsS70.alloc | apply IsS70.drewN | apply IsS70.drew | apply IsS70.set_1 | apply IsS70.set_2 | refine IsS70.far ?_ NB0_166.out _) | exact HI0.out)) hg (IsS70.own_ne HI0.out HO169.out (by decide)))
        have n2_ := Aside0.mk (blk_grown (sB_ BK166.out) hg (Kd.R_away HO169.out (fun _ hk => hk.2)))
        have n3_ := Aside0.mk (Kd.R_after (ok := (fun k_ => some k_ ≠ (.slice Ao36 x3_1.length co36 : Value).ownBlock ∧ k_ ≠ gb166)) (by (with_reducible repeat (first | apply Kd.R_alloc | apply Kd.R_drewN | apply Kd.R_drew)); exact Kd.R_mono HO175.out (fun _ hk => ⟨⟨hk.1.1.2, hk.1.2⟩, hk.2⟩)) hg hat)
        have n4_ := Aside0.mk (below_weaken (by repeat (first | (with_reducible first | exact HB.out | apply below_alloc | apply pw_below_drewN | apply below_drew1 | refine below_set ?_ (IsS70.ge HI0.out) | refine below_set ?_ GE166.out) | exact HB.out)) HL.out hb)
        have n5_ := Aside0.mk (KeepBut.trans (by repeat (first | (with_reducible first | exact HK.out | apply KeepBut.set_ | apply keep_drewN | apply keep_drew | apply keep_alloc | refine keep_far ?_ GW166.out _) | exact HK.out)) (KeepBut.of_grown hg g) (Kd.R_base2 HO169.out))
        have n6_ := Aside0.mk (ho)
        clear HO_3 HI0 BK166 HO175 HB HK HO169; have HO_3 := n0_; have HI0 := n1_; have BK166 := n2_; have HO175 := n3_; have HB := n4_; have HK := n5_; have HO172 := n6_; clear n0_ n1_ n2_ n3_ n4_ n5_ n6_ ho hb hg hat
        refine hK.out _ _ ⟨(blk_cell BK166.out 0).trans rfl, (blk_cell BK166.out 1).trans rfl, (blk_cell BK166.out 2).trans rfl⟩ (fun hHeld => ?_)
        clear hK K
        refine norm_ (a' := ?_) ?_ ?_
        rotate_left
        ·show Act.put _ (some 47) _ = _
         simp only [Act.put, List.setIfInBounds_toArray, List.set_cons_zero, List.set_cons_succ, i64_w, i32_w]
         rfl
        exact norm_ sP_ (hCont (v168, v171, v174) _ ⟨hHeld, (by (with_reducible repeat (first | apply Kd.R_alloc | apply Kd.R_drewN | apply Kd.R_drew)); exact Kd.R_mono HO172.out (fun _ hk => ⟨hk.2.1, ⟨hk.1, hk.2.2⟩⟩)), (by (with_reducible repeat (first | apply Kd.R_alloc | apply Kd.R_drewN | apply Kd.R_drew)); exact Kd.R_mono HO175.out (fun _ hk => ⟨hk.2, ⟨hk.1.1, hk.1.2⟩⟩)), (by (with_reducible repeat (first | apply Kd.R_alloc | apply Kd.R_drewN | apply Kd.R_drew)); exact Kd.R_mono HO_3.out (fun _ hk => ⟨hk.2, ⟨hk.1.1, hk.1.2⟩⟩)), (sB_ BK166.out), (by repeat (first | (with_reducible first | exact HI0.out | apply IsS70.alloc | apply IsS70.drewN | apply IsS70.drew | apply IsS70.set_1 | apply IsS70.set_2 | refine IsS70.far ?_ NB0_166.out _) | exact HI0.out)), (by repeat (first | (with_reducible first | exact HK.out | apply KeepBut.set_ | apply keep_drewN | apply keep_drew | apply keep_alloc | refine keep_far ?_ GW166.out _) | exact HK.out)), (by repeat (first | (with_reducible first | exact HB.out | apply below_alloc | apply pw_below_drewN | apply below_drew1 | refine below_set ?_ (IsS70.ge HI0.out) | refine below_set ?_ GE166.out) | exact HB.out))⟩)
       rintro ⟨v168, v171, v174⟩ w44 ⟨hS_, h0_, h1_, h2_, h3_, h4_, h5_, h6_⟩
       have n0_ : Aside0 (Kd.R k68 68 w44 w.heap.size (fun k_ => some k_ ≠ (v174 : Value).ownBlock ∧ some k_ ≠ (.slice Ao36 x3_1.length co36 : Value).ownBlock ∧ k_ ≠ gb166) v171 y170) := ⟨h0_⟩
       have n1_ : Aside0 (Kd.R k68 68 w44 w.heap.size (fun k_ => some k_ ≠ (v171 : Value).ownBlock ∧ some k_ ≠ (.slice Ao36 x3_1.length co36 : Value).ownBlock ∧ k_ ≠ gb166) v174 y173) := ⟨h1_⟩
       have n2_ : Aside0 (Kd.R k68 68 w44 w.heap.size (fun k_ => some k_ ≠ (v171 : Value).ownBlock ∧ some k_ ≠ (v174 : Value).ownBlock ∧ k_ ≠ gb166) (.slice Ao36 x3_1.length co36) x3_1) := ⟨h2_⟩
       have n3_ : Aside0 (w44.heap[gb166]? = some (.cells #[.int .i64 (wrap64 (t157 - 4)), .int .i64 t160, .int .i64 (wrap64 (1 + t163))] 68 (0, 0))) := ⟨h3_⟩
       have n4_ : Aside0 (IsS70 w0 w44 g s0_0 t164 t165) := ⟨h4_⟩
       have n5_ : Aside0 (KeepBut w w44 g none) := ⟨h5_⟩
       have n6_ : Aside0 (Below w0.heap.size w0 w44) := ⟨h6_⟩
       clear HO_3 BK166 HI0 HK HB h0_ h1_ h2_ h3_ h4_ h5_ h6_; have HO172 := n0_; have HO175 := n1_; have HO_3 := n2_; have BK166 := n3_; have HI0 := n4_; have HK := n5_; have HB := n6_; clear n0_ n1_ n2_ n3_ n4_ n5_ n6_
       have hHeld : w44.cell? ⟨gb166, 0, none⟩ = some (.int .i64 (wrap64 (t157 - 4))) ∧ w44.cell? ⟨gb166, 1, none⟩ = some (.int .i64 t160) ∧ w44.cell? ⟨gb166, 2, none⟩ = some (.int .i64 (wrap64 (1 + t163))) := hS_
       obtain ⟨Ao46, co46, eo46⟩ := Kd.R_slice HO175.out
       (first | subst eo46 | (injection eo46 with f1_ f2_ f3_; have f4_ := f1_.symm; have f5_ := f3_.symm; clear f1_ f2_ f3_; subst f4_; subst f5_))
       refine norm_ (a' := ?_) ?_ ?_
       rotate_left
       ·simp only [putAll, Act.put, List.setIfInBounds_toArray, List.set_cons_zero, List.set_cons_succ]
        rfl
       refine one_ (i := 5) (N := some 50) #[true, true, true, true, true, true, false] rfl rfl (by kernel_rfl) (by decide) (fun K hK => ?_)
       refine Kd.R_append_rows_step k68 w.heap.size (by rfl) (.tmp 47) (.tmp 49) 23 68 (.agg #[(.int .i64 0), (.int .i64 0), (.int .i64 0)]) 24 rfl Try.underlying23 info68 rfl (by decide) (by omega) v171 y170 y173 _ _ _ (fun k_ => some k_ ≠ (.slice Ao36 x3_1.length co36 : Value).ownBlock ∧ some k_ ≠ (.slice Ao46 y173.length co46 : Value).ownBlock ∧ k_ ≠ gb166) (fun _ => False) rfl rfl ?aO ?aR (fun _ _ h => h) (fun _ h => h.elim) ?aF (Below.refl _ _) ?aS ?aL ?_
       (case aR => repeat (first | exact (Kd.R_reads' HO175.out).2.2 | (with_reducible refine Kd.C_alloc ?_ _) | (with_reducible refine Kd.C_drewN ?_ _) | (with_reducible refine Kd.C_drew ?_)))
       (case aF => exact (fun k_ hk => ⟨Kd.fresh' (Kd.R_lt (sR_ HO_3.out)) k_ hk, Kd.fresh' (Kd.R_lt (sR_ HO175.out)) k_ hk, Kd.freshB (sB_ BK166.out) k_ hk⟩))
       (case aO => exact (by (with_reducible repeat (first | apply Kd.R_alloc | apply Kd.R_drewN | apply Kd.R_drew)); exact Kd.R_mono HO172.out (fun _ hk => ⟨hk.2.1, ⟨hk.1, hk.2.2⟩⟩)))
       (case aS => exact (keep_size (w := w) (g := g) (row := none) (by repeat (first | (with_reducible first | exact HK.out | apply KeepBut.set_ | apply keep_drewN | apply keep_drew | apply keep_alloc | refine keep_far ?_ GW166.out _) | exact HK.out))))
       (case aL => have := LMc27.out; omega)
       intro v177 w45 ho hb hg hat
       rw [← Ny176.out] at ho
       have n0_ := Aside0.mk (Kd.R_after (ok := (fun k_ => some k_ ≠ (.slice Ao46 y173.length co46 : Value).ownBlock ∧ k_ ≠ gb166)) (by (with_reducible repeat (first | apply Kd.R_alloc | apply Kd.R_drewN | apply Kd.R_drew)); exact Kd.R_mono HO_3.out (fun _ hk => ⟨⟨hk.2.1, hk.2.2⟩, hk.1⟩)) hg hat)
       have n1_ := Aside0.mk (IsS70.grown (by repeat (first | (with_reducible first | exact HI0.out | apply IsS70.alloc | apply IsS70.drewN | apply IsS70.drew | apply IsS70.set_1 | apply IsS70.set_2 | refine IsS70.far ?_ NB0_166.out _) | exact HI0.out)) hg (IsS70.own_ne HI0.out HO172.out (by decide)))
       have n2_ := Aside0.mk (blk_grown (sB_ BK166.out) hg (Kd.R_away HO172.out (fun _ hk => hk.2.2)))
       have n3_ := Aside0.mk (Kd.R_after (ok := (fun k_ => some k_ ≠ (.slice Ao36 x3_1.length co36 : Value).ownBlock ∧ k_ ≠ gb166)) (by (with_reducible repeat (first | apply Kd.R_alloc | apply Kd.R_drewN | apply Kd.R_drew)); exact Kd.R_mono HO175.out (fun _ hk => ⟨⟨hk.2.1, hk.2.2⟩, hk.1⟩)) hg hat)
       have n4_ := Aside0.mk (below_weaken (by repeat (first | (with_reducible first | exact HB.out | apply below_alloc | apply pw_below_drewN | apply below_drew1 | refine below_set ?_ (IsS70.ge HI0.out) | refine below_set ?_ GE166.out) | exact HB.out)) HL.out hb)
       have n5_ := Aside0.mk (KeepBut.trans (by repeat (first | (with_reducible first | exact HK.out | apply KeepBut.set_ | apply keep_drewN | apply keep_drew | apply keep_alloc | refine keep_far ?_ GW166.out _) | exact HK.out)) (KeepBut.of_grown hg g) (Kd.R_base2 HO172.out))
       have n6_ := Aside0.mk (ho)
       clear HO_3 HI0 BK166 HO175 HB HK HO172; have HO_3 := n0_; have HI0 := n1_; have BK166 := n2_; have HO175 := n3_; have HB := n4_; have HK := n5_; have HO178 := n6_; clear n0_ n1_ n2_ n3_ n4_ n5_ n6_ ho hb hg hat
       refine hK.out _ _ ⟨(blk_cell BK166.out 0).trans rfl, (blk_cell BK166.out 1).trans rfl, (blk_cell BK166.out 2).trans rfl⟩ (fun hHeld => ?_)
       clear hK K
       refine norm_ (a' := ?_) ?_ ?_
       rotate_left
       ·show Act.put _ (some 50) _ = _
        simp only [Act.put, List.setIfInBounds_toArray, List.set_cons_zero, List.set_cons_succ, i64_w, i32_w]
        rfl
       refine pure_ (i := 6) (N := some 6) (v := ?_) (a' := ?_) #[true, true, true, true, true, true, true] rfl rfl (by kernel_rfl) (fun _ _ _ h => h) (Or.inl ⟨by rfl, ?_⟩) ?_ ?_
       rotate_left
       ·intro w'
        go_simp
        with_reducible rfl
       rotate_left
       ·simp only [Act.put, List.setIfInBounds_toArray, List.set_cons_zero, List.set_cons_succ, i64_w, i32_w]
        rfl
       refine done_ (by kernel_rfl) ?_
       obtain ⟨Ao47, co47, eo47⟩ := Kd.R_slice HO178.out
       subst eo47
       try go_wp2_with (first | ((with_reducible refine gate_callee (f := 53) rfl ?_); refine goesL_ (some 52) rfl rfl Try.func53 (by kernel_rfl) rfl #[.slice Ao47 y176.length co47] rfl sL_ ?_; (with_reducible refine (spec_IsKernel.calls k1 _ _ y176 true _ ?side1 ?side2 A28.out).mono ?_); (case side1 => repeat (first | exact (Kd.R_reads' HO178.out).2.2 | (with_reducible refine Kd.C_alloc ?_ _) | (with_reducible refine Kd.C_drewN ?_ _) | (with_reducible refine Kd.C_drew ?_))); (case side2 => exact (Kd.R_reads' HO178.out).2.1); rintro e w48 ⟨rfl, hb⟩; refine ⟨_, rfl, ?_⟩; have n0_ := Aside0.mk (Kd.R_below (sR_ HO_3.out) hb); have n1_ := Aside0.mk (Kd.R_below (sR_ HO175.out) hb); have n2_ := Aside0.mk (Kd.R_below (sR_ HO178.out) hb); have n3_ := Aside0.mk (IsS70.below (by repeat (first | (with_reducible first | exact HI0.out | apply IsS70.alloc | apply IsS70.drewN | apply IsS70.drew | apply IsS70.set_1 | apply IsS70.set_2 | refine IsS70.far ?_ NB0_166.out _) | exact HI0.out)) hb); have n4_ := Aside0.mk (blk_below (sB_ BK166.out) hb); have n5_ := Aside0.mk (KeepBut.trans (by repeat (first | (with_reducible first | exact HK.out | apply KeepBut.set_ | apply keep_drewN | apply keep_drew | apply keep_alloc | refine keep_far ?_ GW166.out _) | exact HK.out)) (KeepBut.of_below hb g none) (.inl rfl)); have n6_ := Aside0.mk (below_step (by repeat (first | (with_reducible first | exact HB.out | apply below_alloc | apply pw_below_drewN | apply below_drew1 | refine below_set ?_ (IsS70.ge HI0.out) | refine below_set ?_ GE166.out) | exact HB.out)) hb); clear HO_3 HO175 HO178 HI0 BK166 HK HB; have HO_3 := n0_; have HO175 := n1_; have HO178 := n2_; have HI0 := n3_; have BK166 := n4_; have HK := n5_; have HB := n6_; clear n0_ n1_ n2_ n3_ n4_ n5_ n6_; (try clear hb); (try clear hb2); (try clear hk); (try clear hi)))
       go_roundg k1
       case measure => have := HK1.out; omega
       case rel => exact ⟨(y176), (wrap64 (x4_1 - 1)), (t164), (t165), (by first | rfl | (simp; done) | (simp [*]; done)), H', ⟨by have := HK1.out; omega⟩, ⟨by (with_reducible repeat (first | apply Kd.R_alloc | apply Kd.R_drewN | apply Kd.R_drew)); exact Kd.R_mono HO178.out (fun _ hk => trivial)⟩, ⟨by repeat (first | (with_reducible first | exact HI0.out | apply IsS70.alloc | apply IsS70.drewN | apply IsS70.drew | apply IsS70.set_1 | apply IsS70.set_2 | refine IsS70.far ?_ NB0_166.out _) | exact HI0.out)⟩, ⟨by repeat (first | (with_reducible first | exact HK.out | apply KeepBut.set_ | apply keep_drewN | apply keep_drew | apply keep_alloc | refine keep_far ?_ GW166.out _) | exact HK.out)⟩, ⟨by repeat (first | (with_reducible first | exact HB.out | apply below_alloc | apply pw_below_drewN | apply below_drew1 | refine below_set ?_ (IsS70.ge HI0.out) | refine below_set ?_ GE166.out) | exact HB.out)⟩⟩
      replace c29 := Bool.eq_false_iff.mpr c29
      subst c29
      have H1 : (spec_l4Draw.l0 k1 x3_1 (wrap64 (x4_1 - 1)) s0_0 t164 t165) = some (r1, r2, r3) := by rw [if_neg (show ¬ (false = true) by decide)] at H; exact H
      clear H; have H := H1; clear H1
      have H' := Aside0.mk H
      clear H
      try go_wp2_with (first | ((with_reducible refine gate_callee (f := 51) rfl ?_); refine goesL_ (some 37) rfl rfl Try.func51 (by kernel_rfl) rfl #[.pointer (some ⟨g, 0, none⟩), .int .i64 9] rfl sL_ ?_; (with_reducible refine (spec_l01Below.calls g s0_0 x1001_1 x1002_1 9 t157 t158 t159 w0 _ ?side1 ?side2 A23.out).mono ?_); (case side1 => repeat (first | (with_reducible first | exact HI0.out | apply IsS70.alloc | apply IsS70.drewN | apply IsS70.drew | apply IsS70.set_1 | apply IsS70.set_2) | exact HI0.out)); (case side2 => repeat (first | (with_reducible first | exact HB.out | apply below_alloc | apply pw_below_drewN | apply below_drew1 | refine below_set ?_ (IsS70.ge HI0.out)) | exact HB.out)); rintro e w49 ⟨rfl, hi, hb, hk⟩; refine ⟨_, rfl, ?_⟩; have n0_ := Aside0.mk (Kd.R_mono (Kd.R_keep (IsS70.apart (show IsS70 w0 _ g s0_0 x1001_1 x1002_1 from by repeat (first | (with_reducible first | exact HI0.out | apply IsS70.alloc | apply IsS70.drewN | apply IsS70.drew | apply IsS70.set_1 | apply IsS70.set_2) | exact HI0.out)) (sR_ HO_3.out) (by decide)) hk (fun _ h => h.2)) (fun _ h => h.1)); have n1_ := Aside0.mk (KeepBut.trans (by repeat (first | (with_reducible first | exact HK.out | apply KeepBut.set_ | apply keep_drewN | apply keep_drew | apply keep_alloc) | exact HK.out)) hk (.inl rfl)); have n2_ := Aside0.mk (hb); have n3_ := Aside0.mk (hi); clear HO_3 HK HB HI0; have HO_3 := n0_; have HK := n1_; have HB := n2_; have HI0 := n3_; clear n0_ n1_ n2_ n3_; (try clear hb); (try clear hb2); (try clear hk); (try clear hi)) | ((with_reducible refine gate_callee (f := 51) rfl ?_); refine goesL_ (some 40) rfl rfl Try.func51 (by kernel_rfl) rfl #[.pointer (some ⟨g, 0, none⟩), .int .i64 5] rfl sL_ ?_; (with_reducible refine (spec_l01Below.calls g s0_0 t158 t159 5 t160 t161 t162 w0 _ ?side1 ?side2 A24.out).mono ?_); (case side1 => repeat (first | (with_reducible first | exact HI0.out | apply IsS70.alloc | apply IsS70.drewN | apply IsS70.drew | apply IsS70.set_1 | apply IsS70.set_2) | exact HI0.out)); (case side2 => repeat (first | (with_reducible first | exact HB.out | apply below_alloc | apply pw_below_drewN | apply below_drew1 | refine below_set ?_ (IsS70.ge HI0.out)) | exact HB.out)); rintro e w50 ⟨rfl, hi, hb, hk⟩; refine ⟨_, rfl, ?_⟩; have n0_ := Aside0.mk (Kd.R_mono (Kd.R_keep (IsS70.apart (show IsS70 w0 _ g s0_0 t158 t159 from by repeat (first | (with_reducible first | exact HI0.out | apply IsS70.alloc | apply IsS70.drewN | apply IsS70.drew | apply IsS70.set_1 | apply IsS70.set_2) | exact HI0.out)) (sR_ HO_3.out) (by decide)) hk (fun _ h => h.2)) (fun _ h => h.1)); have n1_ := Aside0.mk (KeepBut.trans (by repeat (first | (with_reducible first | exact HK.out | apply KeepBut.set_ | apply keep_drewN | apply keep_drew | apply keep_alloc) | exact HK.out)) hk (.inl rfl)); have n2_ := Aside0.mk (hb); have n3_ := Aside0.mk (hi); clear HO_3 HK HB HI0; have HO_3 := n0_; have HK := n1_; have HB := n2_; have HI0 := n3_; clear n0_ n1_ n2_ n3_; (try clear hb); (try clear hb2); (try clear hk); (try clear hi)) | ((with_reducible refine gate_callee (f := 51) rfl ?_); refine goesL_ (some 42) rfl rfl Try.func51 (by kernel_rfl) rfl #[.pointer (some ⟨g, 0, none⟩), .int .i64 30] rfl sL_ ?_; (with_reducible refine (spec_l01Below.calls g s0_0 t161 t162 30 t163 t164 t165 w0 _ ?side1 ?side2 A25.out).mono ?_); (case side1 => repeat (first | (with_reducible first | exact HI0.out | apply IsS70.alloc | apply IsS70.drewN | apply IsS70.drew | apply IsS70.set_1 | apply IsS70.set_2) | exact HI0.out)); (case side2 => repeat (first | (with_reducible first | exact HB.out | apply below_alloc | apply pw_below_drewN | apply below_drew1 | refine below_set ?_ (IsS70.ge HI0.out)) | exact HB.out)); rintro e w51 ⟨rfl, hi, hb, hk⟩; refine ⟨_, rfl, ?_⟩; have n0_ := Aside0.mk (Kd.R_mono (Kd.R_keep (IsS70.apart (show IsS70 w0 _ g s0_0 t161 t162 from by repeat (first | (with_reducible first | exact HI0.out | apply IsS70.alloc | apply IsS70.drewN | apply IsS70.drew | apply IsS70.set_1 | apply IsS70.set_2) | exact HI0.out)) (sR_ HO_3.out) (by decide)) hk (fun _ h => h.2)) (fun _ h => h.1)); have n1_ := Aside0.mk (KeepBut.trans (by repeat (first | (with_reducible first | exact HK.out | apply KeepBut.set_ | apply keep_drewN | apply keep_drew | apply keep_alloc) | exact HK.out)) hk (.inl rfl)); have n2_ := Aside0.mk (hb); have n3_ := Aside0.mk (hi); clear HO_3 HK HB HI0; have HO_3 := n0_; have HK := n1_; have HB := n2_; have HI0 := n3_; clear n0_ n1_ n2_ n3_; (try clear hb); (try clear hb2); (try clear hk); (try clear hi)) | ((with_reducible refine gate_dst (N := 5) rfl ?_); refine box_event ?hg (N := 5) ?hd (cs := #[.int .i64 0, .int .i64 0, .int .i64 0]) (t := 68) ?hr ?_; (case hd => rfl); (case hg => rfl); (case hr => first | (go_simp; done) | (go_simp; rfl)); intro gb166 hg w52 hbox hb; have n0_ := Aside0.mk (Kd.R_below (Kd.R_elderB (sR_ HO_3.out) gb166 (Nat.le_of_eq hg.symm)) hb); have n1_ := Aside0.mk (IsS70.below (by repeat (first | (with_reducible first | exact HI0.out | apply IsS70.alloc | apply IsS70.drewN | apply IsS70.drew | apply IsS70.set_1 | apply IsS70.set_2) | exact HI0.out)) hb); have n2_ := Aside0.mk (KeepBut.trans (by repeat (first | (with_reducible first | exact HK.out | apply KeepBut.set_ | apply keep_drewN | apply keep_drew | apply keep_alloc) | exact HK.out)) (KeepBut.of_below hb g none) (.inl rfl)); have n3_ := Aside0.mk (below_step (by repeat (first | (with_reducible first | exact HB.out | apply below_alloc | apply pw_below_drewN | apply below_drew1 | refine below_set ?_ (IsS70.ge HI0.out)) | exact HB.out)) hb); have n4_ := Aside0.mk (hbox); have n5_ := Aside0.mk ((by rw [hg]; exact (keep_size (w := w) (g := g) (row := none) (by repeat (first | (with_reducible first | exact HK.out | apply KeepBut.set_ | apply keep_drewN | apply keep_drew | apply keep_alloc) | exact HK.out))) : w.heap.size ≤ gb166)); have n6_ := Aside0.mk ((Nat.le_trans HW0.out (by rw [hg]; exact (keep_size (w := w) (g := g) (row := none) (by repeat (first | (with_reducible first | exact HK.out | apply KeepBut.set_ | apply keep_drewN | apply keep_drew | apply keep_alloc) | exact HK.out))) : w.heap.size ≤ gb166) : w0.heap.size ≤ gb166)); have n7_ := Aside0.mk ((by rw [hg]; exact Nat.ne_of_lt (IsS70.lt (show IsS70 w0 _ g s0_0 t164 t165 from by repeat (first | (with_reducible first | exact HI0.out | apply IsS70.alloc | apply IsS70.drewN | apply IsS70.drew | apply IsS70.set_1 | apply IsS70.set_2) | exact HI0.out))) : g ≠ gb166)); have n8_ := Aside0.mk ((by rw [hg]; exact Nat.ne_of_gt (IsS70.lt (show IsS70 w0 _ g s0_0 t164 t165 from by repeat (first | (with_reducible first | exact HI0.out | apply IsS70.alloc | apply IsS70.drewN | apply IsS70.drew | apply IsS70.set_1 | apply IsS70.set_2) | exact HI0.out))) : gb166 ≠ g)); clear HO_3 HI0 HK HB; have HO_3 := n0_; have HI0 := n1_; have HK := n2_; have HB := n3_; have BK166 := n4_; have GW166 := n5_; have GE166 := n6_; have NB0_166 := n7_; have NB166_0 := n8_; clear n0_ n1_ n2_ n3_ n4_ n5_ n6_ n7_ n8_; clear hb hbox hg; have hnb53 := NB166_0.out; have hnc53 := NB0_166.out; obtain ⟨hcz54_0, hcz54_1, hcz54_2, hfz54_0, hfz54_1, hfz54_2⟩ := sZ_ BK166.out; obtain ⟨Ao55, co55, eo55⟩ := Kd.R_slice HO_3.out; subst eo55))
      have n0_ : Aside0 (Kd.R k68 68 (((w52.setCell ⟨gb166, 0, none⟩ (.int .i64 (wrap64 (t157 - 4)))).setCell ⟨gb166, 1, none⟩ (.int .i64 t160)).setCell ⟨gb166, 2, none⟩ (.int .i64 (wrap64 (1 + t163)))) w.heap.size (fun k_ => k_ ≠ gb166) (.slice Ao55 x3_1.length co55) x3_1) := ⟨by (with_reducible repeat (first | apply Kd.R_alloc | apply Kd.R_drewN | apply Kd.R_drew)); exact Kd.R_mono (Kd.R_far (p := ⟨gb166, 2, none⟩) (Kd.R_far (p := ⟨gb166, 1, none⟩) (Kd.R_far (p := ⟨gb166, 0, none⟩) (Kd.R_mono HO_3.out (fun k_ hk => (⟨hk, hk.2⟩ : _ ∧ k_ ≠ gb166))) (fun _ hk => hk.2) (.int .i64 (wrap64 (t157 - 4)))) (fun _ hk => hk.2) (.int .i64 t160)) (fun _ hk => hk.2) (.int .i64 (wrap64 (1 + t163)))) (fun _ hk => hk.1.2)⟩
      have n1_ : Aside0 ((((w52.setCell ⟨gb166, 0, none⟩ (.int .i64 (wrap64 (t157 - 4)))).setCell ⟨gb166, 1, none⟩ (.int .i64 t160)).setCell ⟨gb166, 2, none⟩ (.int .i64 (wrap64 (1 + t163)))).heap[gb166]? = some (.cells #[.int .i64 (wrap64 (t157 - 4)), .int .i64 t160, .int .i64 (wrap64 (1 + t163))] 68 (0, 0))) := ⟨by refine sB_ ?_; refine blk_put (cs := #[.int .i64 (wrap64 (t157 - 4)), .int .i64 t160, .int .i64 0]) ?_ 2 _ rfl; refine sB_ ?_; refine blk_put (cs := #[.int .i64 (wrap64 (t157 - 4)), .int .i64 0, .int .i64 0]) ?_ 1 _ rfl; refine sB_ ?_; refine blk_put (cs := #[.int .i64 0, .int .i64 0, .int .i64 0]) ?_ 0 _ rfl; refine sB_ ?_; exact BK166.out⟩
      have n2_ : Aside0 (IsS70 w0 (((w52.setCell ⟨gb166, 0, none⟩ (.int .i64 (wrap64 (t157 - 4)))).setCell ⟨gb166, 1, none⟩ (.int .i64 t160)).setCell ⟨gb166, 2, none⟩ (.int .i64 (wrap64 (1 + t163)))) g s0_0 t164 t165) := ⟨by repeat (first | (with_reducible first | exact HI0.out | apply IsS70.alloc | apply IsS70.drewN | apply IsS70.drew | apply IsS70.set_1 | apply IsS70.set_2 | refine IsS70.far ?_ NB0_166.out _) | exact HI0.out)⟩
      have n3_ : Aside0 (KeepBut w (((w52.setCell ⟨gb166, 0, none⟩ (.int .i64 (wrap64 (t157 - 4)))).setCell ⟨gb166, 1, none⟩ (.int .i64 t160)).setCell ⟨gb166, 2, none⟩ (.int .i64 (wrap64 (1 + t163)))) g none) := ⟨by repeat (first | (with_reducible first | exact HK.out | apply KeepBut.set_ | apply keep_drewN | apply keep_drew | apply keep_alloc | refine keep_far ?_ GW166.out _) | exact HK.out)⟩
      have n4_ : Aside0 (Below w0.heap.size w0 (((w52.setCell ⟨gb166, 0, none⟩ (.int .i64 (wrap64 (t157 - 4)))).setCell ⟨gb166, 1, none⟩ (.int .i64 t160)).setCell ⟨gb166, 2, none⟩ (.int .i64 (wrap64 (1 + t163))))) := ⟨by repeat (first | (with_reducible first | exact HB.out | apply below_alloc | apply pw_below_drewN | apply below_drew1 | refine below_set ?_ (IsS70.ge HI0.out) | refine below_set ?_ GE166.out) | exact HB.out)⟩
      (try clear HO_3)
      (try clear BK166)
      (try clear HI0)
      (try clear HK)
      (try clear HB)
      generalize (((w52.setCell ⟨gb166, 0, none⟩ (.int .i64 (wrap64 (t157 - 4)))).setCell ⟨gb166, 1, none⟩ (.int .i64 t160)).setCell ⟨gb166, 2, none⟩ (.int .i64 (wrap64 (1 + t163)))) = w56 at n0_ n1_ n2_ n3_ n4_ ⊢
      have HO_3 := n0_; have BK166 := n1_; have HI0 := n2_; have HK := n3_; have HB := n4_; clear n0_ n1_ n2_ n3_ n4_
      have n0_ := Aside0.mk (Kd.R_drew HO_3.out)
      have n1_ := Aside0.mk (blk_drew BK166.out)
      have n2_ := Aside0.mk (IsS70.drew HI0.out)
      have n3_ := Aside0.mk (keep_drew HK.out)
      have n4_ := Aside0.mk (below_drew1 HB.out)
      clear HO_3 BK166 HI0 HK HB; have HO_3 := n0_; have BK166 := n1_; have HI0 := n2_; have HK := n3_; have HB := n4_; clear n0_ n1_ n2_ n3_ n4_
      refine start_ (n := 7) (S := fun w' => w'.cell? ⟨gb166, 0, none⟩ = some (.int .i64 (wrap64 (t157 - 4))) ∧ w'.cell? ⟨gb166, 1, none⟩ = some (.int .i64 t160) ∧ w'.cell? ⟨gb166, 2, none⟩ = some (.int .i64 (wrap64 (1 + t163)))) (ds := []) #[false, false, false, false, false, false, false] (by kernel_rfl) rfl rfl ⟨(blk_cell BK166.out 0).trans rfl, (blk_cell BK166.out 1).trans rfl, (blk_cell BK166.out 2).trans rfl⟩ (fun hHeld => ?_)
      generalize w56.drew = w57 at HO_3 BK166 HI0 HK HB hHeld ⊢
      refine pure_ (i := 1) (N := some 46) (v := ?_) (a' := ?_) #[false, true, false, false, false, false, false] rfl rfl (by kernel_rfl) (fun _ _ _ h => h) (Or.inl ⟨by rfl, ?_⟩) ?_ ?_
      rotate_left
      ·intro w'
       go_simp
       with_reducible rfl
      rotate_left
      ·simp only [Act.put, List.setIfInBounds_toArray, List.set_cons_zero, List.set_cons_succ, i64_w, i32_w]
       rfl
      refine take_ (i := 3) (N := some 48) (v := ?_) (a' := ?_) #[false, true, false, true, false, false, false] rfl rfl (by kernel_rfl) (fun _ _ _ h => h) (Or.inl ⟨by rfl, ?_⟩) hHeld ?_ ?_
      rotate_left
      ·rintro w' ⟨s0, s1, s2⟩
       go_simp
       with_reducible rfl
      rotate_left
      ·simp only [Act.put, List.setIfInBounds_toArray, List.set_cons_zero, List.set_cons_succ, i64_w, i32_w]
       rfl
      refine join_ (σ := Value × Value × Value) 2 #[true, true, true, true, true, false, false] (fun s_ => [(45, s_.1), (47, s_.2.1), (49, s_.2.2)]) (fun s_ w' => (w'.cell? ⟨gb166, 0, none⟩ = some (.int .i64 (wrap64 (t157 - 4))) ∧ w'.cell? ⟨gb166, 1, none⟩ = some (.int .i64 t160) ∧ w'.cell? ⟨gb166, 2, none⟩ = some (.int .i64 (wrap64 (1 + t163)))) ∧ (Kd.R k68 68 w' w.heap.size (fun k_ => some k_ ≠ (s_.2.2 : Value).ownBlock ∧ some k_ ≠ (.slice Ao55 x3_1.length co55 : Value).ownBlock ∧ k_ ≠ gb166) s_.2.1 y170) ∧ (Kd.R k68 68 w' w.heap.size (fun k_ => some k_ ≠ (s_.2.1 : Value).ownBlock ∧ some k_ ≠ (.slice Ao55 x3_1.length co55 : Value).ownBlock ∧ k_ ≠ gb166) s_.2.2 y173) ∧ (Kd.R k68 68 w' w.heap.size (fun k_ => some k_ ≠ (s_.2.1 : Value).ownBlock ∧ some k_ ≠ (s_.2.2 : Value).ownBlock ∧ k_ ≠ gb166) (.slice Ao55 x3_1.length co55) x3_1) ∧ (w'.heap[gb166]? = some (.cells #[.int .i64 (wrap64 (t157 - 4)), .int .i64 t160, .int .i64 (wrap64 (1 + t163))] 68 (0, 0))) ∧ (IsS70 w0 w' g s0_0 t164 t165) ∧ (KeepBut w w' g none) ∧ (Below w0.heap.size w0 w')) ?_ ?_
      rotate_left
      ·intro hCont
       refine two_ (i := 0) (j := 4) (Ni := some 45) (Nj := some 49) #[true, true, false, true, false, false, false] #[false, true, false, true, true, false, false] rfl rfl rfl rfl (by kernel_rfl) (by decide) (by decide) (fun K hK => ?_) (fun K hK => ?_)
       ·skip
        refine Kd.R_lit_step k68 _ 68 ?hg (N := 45) ?hd (xs := ([] : List (S68))) (inner := []) (ok := fun _ => True) (okp := fun _ => True) ?hr ?hp (fun _ hk => hk) trivial (Below.refl _ _) (Nat.le_refl _) (by simp) ?_; (case hd => rfl); (case hg => rfl); (case hr => first | (go_simp; done) | (go_simp; rfl)); (case hp => exact (Reps.none _ _))
        intro v168 w58 ho59 hb hg_ hnew_
        clear hg_ hnew_
        (first | rw [← Ny167.out] at ho59 | (simp only [Int.reduceToNat] at ho59; rw [← Ny167.out] at ho59))
        have n0_ := Aside0.mk (Kd.R_elder' (sR_ HO_3.out) (Kd.R_base ho59) hb)
        have n1_ := Aside0.mk (Kd.R_lower (Kd.R_newB (Kd.R_new' ho59 (Kd.R_lt (sR_ HO_3.out))) (sB_ BK166.out)) (keep_size (w := w) (g := g) (row := none) (by repeat (first | (with_reducible first | exact HK.out | apply KeepBut.set_ | apply keep_drewN | apply keep_drew | apply keep_alloc | refine keep_far ?_ GW166.out _) | exact HK.out))))
        have n2_ := Aside0.mk (IsS70.below (by repeat (first | (with_reducible first | exact HI0.out | apply IsS70.alloc | apply IsS70.drewN | apply IsS70.drew | apply IsS70.set_1 | apply IsS70.set_2 | refine IsS70.far ?_ NB0_166.out _) | exact HI0.out)) hb)
        have n3_ := Aside0.mk (blk_below (sB_ BK166.out) hb)
        have n4_ := Aside0.mk (KeepBut.trans (by repeat (first | (with_reducible first | exact HK.out | apply KeepBut.set_ | apply keep_drewN | apply keep_drew | apply keep_alloc | refine keep_far ?_ GW166.out _) | exact HK.out)) (KeepBut.of_below hb g none) (.inl rfl))
        have n5_ := Aside0.mk (below_step (by repeat (first | (with_reducible first | exact HB.out | apply below_alloc | apply pw_below_drewN | apply below_drew1 | refine below_set ?_ (IsS70.ge HI0.out) | refine below_set ?_ GE166.out) | exact HB.out)) hb)
        clear HO_3 HI0 BK166 HK HB; have HO_3 := n0_; have HO169 := n1_; have HI0 := n2_; have BK166 := n3_; have HK := n4_; have HB := n5_; clear n0_ n1_ n2_ n3_ n4_ n5_ hb ho59
        refine hK.out _ _ ⟨(blk_cell BK166.out 0).trans rfl, (blk_cell BK166.out 1).trans rfl, (blk_cell BK166.out 2).trans rfl⟩ (fun hHeld => ?_)
        clear hK K
        refine norm_ (a' := ?_) ?_ ?_
        rotate_left
        ·show Act.put _ (some 45) _ = _
         simp only [Act.put, List.setIfInBounds_toArray, List.set_cons_zero, List.set_cons_succ, i64_w, i32_w]
         rfl
        refine two_ (i := 2) (j := 4) (Ni := some 47) (Nj := some 49) #[true, true, true, true, false, false, false] #[true, true, false, true, true, false, false] rfl rfl rfl rfl (by kernel_rfl) (by decide) (by decide) (fun K hK => ?_) (fun K hK => ?_)
        ·skip
         refine Kd.R_append_rows_step k68 w.heap.size (by rfl) (.tmp 45) (.tmp 46) 23 68 (.agg #[(.int .i64 0), (.int .i64 0), (.int .i64 0)]) 24 rfl Try.underlying23 info68 rfl (by decide) (by omega) v168 y167 x3_1 _ _ _ (fun k_ => some k_ ≠ (.slice Ao55 x3_1.length co55 : Value).ownBlock ∧ k_ ≠ gb166) (fun _ => False) rfl rfl ?aO ?aR (fun _ _ h => h) (fun _ h => h.elim) ?aF (Below.refl _ _) ?aS ?aL ?_
         (case aR => repeat (first | exact (Kd.R_reads' HO_3.out).2.2 | (with_reducible refine Kd.C_alloc ?_ _) | (with_reducible refine Kd.C_drewN ?_ _) | (with_reducible refine Kd.C_drew ?_)))
         (case aF => exact (fun k_ hk => ⟨Kd.fresh' (Kd.R_lt (sR_ HO_3.out)) k_ hk, Kd.freshB (sB_ BK166.out) k_ hk⟩))
         (case aO => exact (by (with_reducible repeat (first | apply Kd.R_alloc | apply Kd.R_drewN | apply Kd.R_drew)); exact Kd.R_mono HO169.out (fun _ hk => ⟨hk.1.2, hk.2⟩)))
         (case aS => exact (keep_size (w := w) (g := g) (row := none) (by repeat (first | (with_reducible first | exact HK.out | apply KeepBut.set_ | apply keep_drewN | apply keep_drew | apply keep_alloc | refine keep_far ?_ GW166.out _) | exact HK.out))))
         (case aL => have := LMc26.out; omega)
         intro v171 w60 ho hb hg hat
         rw [← Ny170.out] at ho
         have n0_ := Aside0.mk (Kd.R_after (ok := (fun k_ => k_ ≠ gb166)) (sR_ HO_3.out) hg hat)
         have n1_ := Aside0.mk (IsS70.grown (by repeat (first | (with_reducible first | exact HI0.out | apply IsS70.alloc | apply IsS70.drewN | apply IsS70.drew | apply IsS70.set_1 | apply IsS70.set_2 | refine IsS70.far ?_ NB0_166.out _) | exact HI0.out)) hg (IsS70.own_ne HI0.out HO169.out (by decide)))
         have n2_ := Aside0.mk (blk_grown (sB_ BK166.out) hg (Kd.R_away HO169.out (fun _ hk => hk.2)))
         have n3_ := Aside0.mk (below_weaken (by repeat (first | (with_reducible first | exact HB.out | apply below_alloc | apply pw_below_drewN | apply below_drew1 | refine below_set ?_ (IsS70.ge HI0.out) | refine below_set ?_ GE166.out) | exact HB.out)) HL.out hb)
         have n4_ := Aside0.mk (KeepBut.trans (by repeat (first | (with_reducible first | exact HK.out | apply KeepBut.set_ | apply keep_drewN | apply keep_drew | apply keep_alloc | refine keep_far ?_ GW166.out _) | exact HK.out)) (KeepBut.of_grown hg g) (Kd.R_base2 HO169.out))
         have n5_ := Aside0.mk (ho)
         clear HO_3 HI0 BK166 HB HK HO169; have HO_3 := n0_; have HI0 := n1_; have BK166 := n2_; have HB := n3_; have HK := n4_; have HO172 := n5_; clear n0_ n1_ n2_ n3_ n4_ n5_ ho hb hg hat
         refine hK.out _ _ ⟨(blk_cell BK166.out 0).trans rfl, (blk_cell BK166.out 1).trans rfl, (blk_cell BK166.out 2).trans rfl⟩ (fun hHeld => ?_)
         clear hK K
         refine norm_ (a' := ?_) ?_ ?_
         rotate_left
         ·show Act.put _ (some 47) _ = _
          simp only [Act.put, List.setIfInBounds_toArray, List.set_cons_zero, List.set_cons_succ, i64_w, i32_w]
          rfl
         refine one_ (i := 4) (N := some 49) #[true, true, true, true, true, false, false] rfl rfl (by kernel_rfl) (by decide) (fun K hK => ?_)
         refine Kd.R_lit_step k68 _ 68 ?hg (N := 49) ?hd (xs := ([(⟨wrap64 (t157 - 4), t160, wrap64 (1 + t163)⟩ : S68)] : List (S68))) (inner := [.int .i64 (wrap64 (t157 - 4)), .int .i64 t160, .int .i64 (wrap64 (1 + t163))]) (ok := fun _ => True) (okp := fun _ => True) ?hr ?hp (fun _ hk => hk) trivial (Below.refl _ _) (Nat.le_refl _) (by simp) ?_; (case hd => rfl); (case hg => rfl); (case hr => first | (go_simp; done) | (go_simp; rfl)); (case hp => exact (Reps.c3 (show Kd.M k68 _ _ _ (⟨wrap64 (t157 - 4), t160, wrap64 (1 + t163)⟩ : S68) [.int .i64 (wrap64 (t157 - 4)), .int .i64 t160, .int .i64 (wrap64 (1 + t163))] from (k68_mkM _ _ _ (⟨wrap64 (t157 - 4), t160, wrap64 (1 + t163)⟩ : S68) )) (Reps.none _ _)))
         intro v174 w61 ho62 hb hg_ hnew_
         clear hg_ hnew_
         (first | rw [← Ny173.out] at ho62 | (simp only [Int.reduceToNat] at ho62; rw [← Ny173.out] at ho62))
         have n0_ := Aside0.mk (Kd.R_elder' (sR_ HO_3.out) (Kd.R_base ho62) hb)
         have n1_ := Aside0.mk (Kd.R_elder' (sR_ HO172.out) (Kd.R_base ho62) hb)
         have n2_ := Aside0.mk (Kd.R_lower (Kd.R_newB (Kd.R_new' (Kd.R_new' ho62 (Kd.R_lt (sR_ HO_3.out))) (Kd.R_lt (sR_ HO172.out))) (sB_ BK166.out)) (keep_size (w := w) (g := g) (row := none) (by repeat (first | (with_reducible first | exact HK.out | apply KeepBut.set_ | apply keep_drewN | apply keep_drew | apply keep_alloc | refine keep_far ?_ GW166.out _) | exact HK.out))))
         have n3_ := Aside0.mk (IsS70.below (by repeat (first | (with_reducible first | exact HI0.out | apply IsS70.alloc | apply IsS70.drewN | apply IsS70.drew | apply IsS70.set_1 | apply IsS70.set_2 | refine IsS70.far ?_ NB0_166.out _) | exact HI0.out)) hb)
         have n4_ := Aside0.mk (blk_below (sB_ BK166.out) hb)
         have n5_ := Aside0.mk (KeepBut.trans (by repeat (first | (with_reducible first | exact HK.out | apply KeepBut.set_ | apply keep_drewN | apply keep_drew | apply keep_alloc | refine keep_far ?_ GW166.out _) | exact HK.out)) (KeepBut.of_below hb g none) (.inl rfl))
         have n6_ := Aside0.mk (below_step (by repeat (first | (with_reducible first | exact HB.out | apply below_alloc | apply pw_below_drewN | apply below_drew1 | refine below_set ?_ (IsS70.ge HI0.out) | refine below_set ?_ GE166.out) | exact HB.out)) hb)
         clear HO_3 HO172 HI0 BK166 HK HB; have HO_3 := n0_; have HO172 := n1_; have HO175 := n2_; have HI0 := n3_; have BK166 := n4_; have HK := n5_; have HB := n6_; clear n0_ n1_ n2_ n3_ n4_ n5_ n6_ hb ho62
         refine hK.out _ _ ⟨(blk_cell BK166.out 0).trans rfl, (blk_cell BK166.out 1).trans rfl, (blk_cell BK166.out 2).trans rfl⟩ (fun hHeld => ?_)
         clear hK K
         refine norm_ (a' := ?_) ?_ ?_
         rotate_left
         ·show Act.put _ (some 49) _ = _
          simp only [Act.put, List.setIfInBounds_toArray, List.set_cons_zero, List.set_cons_succ, i64_w, i32_w]
          rfl
         exact norm_ sP_ (hCont (v168, v171, v174) _ ⟨hHeld, (by (with_reducible repeat (first | apply Kd.R_alloc | apply Kd.R_drewN | apply Kd.R_drew)); exact Kd.R_mono HO172.out (fun _ hk => ⟨hk.2, ⟨hk.1.1, hk.1.2⟩⟩)), (by (with_reducible repeat (first | apply Kd.R_alloc | apply Kd.R_drewN | apply Kd.R_drew)); exact Kd.R_mono HO175.out (fun _ hk => ⟨hk.1.2, ⟨hk.1.1.2, hk.2⟩⟩)), (by (with_reducible repeat (first | apply Kd.R_alloc | apply Kd.R_drewN | apply Kd.R_drew)); exact Kd.R_mono HO_3.out (fun _ hk => ⟨hk.1.2, ⟨hk.2, hk.1.1⟩⟩)), (sB_ BK166.out), (by repeat (first | (with_reducible first | exact HI0.out | apply IsS70.alloc | apply IsS70.drewN | apply IsS70.drew | apply IsS70.set_1 | apply IsS70.set_2 | refine IsS70.far ?_ NB0_166.out _) | exact HI0.out)), (by repeat (first | (with_reducible first | exact HK.out | apply KeepBut.set_ | apply keep_drewN | apply keep_drew | apply keep_alloc | refine keep_far ?_ GW166.out _) | exact HK.out)), (by repeat (first | (with_reducible first | exact HB.out | apply below_alloc | apply pw_below_drewN | apply below_drew1 | refine below_set ?_ (IsS70.ge HI0.out) | refine below_set ?_ GE166.out) | exact HB.out))⟩)
        skip
        refine Kd.R_lit_step k68 _ 68 ?hg (N := 49) ?hd (xs := ([(⟨wrap64 (t157 - 4), t160, wrap64 (1 + t163)⟩ : S68)] : List (S68))) (inner := [.int .i64 (wrap64 (t157 - 4)), .int .i64 t160, .int .i64 (wrap64 (1 + t163))]) (ok := fun _ => True) (okp := fun _ => True) ?hr ?hp (fun _ hk => hk) trivial (Below.refl _ _) (Nat.le_refl _) (by simp) ?_; (case hd => rfl); (case hg => rfl); (case hr => first | (go_simp; done) | (go_simp; rfl)); (case hp => exact (Reps.c3 (show Kd.M k68 _ _ _ (⟨wrap64 (t157 - 4), t160, wrap64 (1 + t163)⟩ : S68) [.int .i64 (wrap64 (t157 - 4)), .int .i64 t160, .int .i64 (wrap64 (1 + t163))] from (k68_mkM _ _ _ (⟨wrap64 (t157 - 4), t160, wrap64 (1 + t163)⟩ : S68) )) (Reps.none _ _)))
        intro v174 w60 ho61 hb hg_ hnew_
        clear hg_ hnew_
        (first | rw [← Ny173.out] at ho61 | (simp only [Int.reduceToNat] at ho61; rw [← Ny173.out] at ho61))
        have n0_ := Aside0.mk (Kd.R_elder' (sR_ HO_3.out) (Kd.R_base ho61) hb)
        have n1_ := Aside0.mk (Kd.R_elder' (sR_ HO169.out) (Kd.R_base ho61) hb)
        have n2_ := Aside0.mk (Kd.R_lower (Kd.R_newB (Kd.R_new' (Kd.R_new' ho61 (Kd.R_lt (sR_ HO_3.out))) (Kd.R_lt (sR_ HO169.out))) (sB_ BK166.out)) (keep_size (w := w) (g := g) (row := none) (by repeat (first | (with_reducible first | exact HK.out | apply KeepBut.set_ | apply keep_drewN | apply keep_drew | apply keep_alloc | refine keep_far ?_ GW166.out _) | exact HK.out))))
        have n3_ := Aside0.mk (IsS70.below (by repeat (first | (with_reducible first | exact HI0.out | apply IsS70.alloc | apply IsS70.drewN | apply IsS70.drew | apply IsS70.set_1 | apply IsS70.set_2 | refine IsS70.far ?_ NB0_166.out _) | exact HI0.out)) hb)
        have n4_ := Aside0.mk (blk_below (sB_ BK166.out) hb)
        have n5_ := Aside0.mk (KeepBut.trans (by repeat (first | (with_reducible first | exact HK.out | apply KeepBut.set_ | apply keep_drewN | apply keep_drew | apply keep_alloc | refine keep_far ?_ GW166.out _) | exact HK.out)) (KeepBut.of_below hb g none) (.inl rfl))
        have n6_ := Aside0.mk (below_step (by repeat (first | (with_reducible first | exact HB.out | apply below_alloc | apply pw_below_drewN | apply below_drew1 | refine below_set ?_ (IsS70.ge HI0.out) | refine below_set ?_ GE166.out) | exact HB.out)) hb)
        clear HO_3 HO169 HI0 BK166 HK HB; have HO_3 := n0_; have HO169 := n1_; have HO175 := n2_; have HI0 := n3_; have BK166 := n4_; have HK := n5_; have HB := n6_; clear n0_ n1_ n2_ n3_ n4_ n5_ n6_ hb ho61
        refine hK.out _ _ ⟨(blk_cell BK166.out 0).trans rfl, (blk_cell BK166.out 1).trans rfl, (blk_cell BK166.out 2).trans rfl⟩ (fun hHeld => ?_)
        clear hK K
        refine norm_ (a' := ?_) ?_ ?_
        rotate_left
        ·show Act.put _ (some 49) _ = _
         simp only [Act.put, List.setIfInBounds_toArray, List.set_cons_zero, List.set_cons_succ, i64_w, i32_w]
         rfl
        refine one_ (i := 2) (N := some 47) #[true, true, true, true, true, false, false] rfl rfl (by kernel_rfl) (by decide) (fun K hK => ?_)
        refine Kd.R_append_rows_step k68 w.heap.size (by rfl) (.tmp 45) (.tmp 46) 23 68 (.agg #[(.int .i64 0), (.int .i64 0), (.int .i64 0)]) 24 rfl Try.underlying23 info68 rfl (by decide) (by omega) v168 y167 x3_1 _ _ _ (fun k_ => some k_ ≠ (.slice Ao55 x3_1.length co55 : Value).ownBlock ∧ some k_ ≠ (v174 : Value).ownBlock ∧ k_ ≠ gb166) (fun _ => False) rfl rfl ?aO ?aR (fun _ _ h => h) (fun _ h => h.elim) ?aF (Below.refl _ _) ?aS ?aL ?_
        (case aR => repeat (first | exact (Kd.R_reads' HO_3.out).2.2 | (with_reducible refine Kd.C_alloc ?_ _) | (with_reducible refine Kd.C_drewN ?_ _) | (with_reducible refine Kd.C_drew ?_)))
        (case aF => exact (fun k_ hk => ⟨Kd.fresh' (Kd.R_lt (sR_ HO_3.out)) k_ hk, Kd.fresh' (Kd.R_lt (sR_ HO175.out)) k_ hk, Kd.freshB (sB_ BK166.out) k_ hk⟩))
        (case aO => exact (by (with_reducible repeat (first | apply Kd.R_alloc | apply Kd.R_drewN | apply Kd.R_drew)); exact Kd.R_mono HO169.out (fun _ hk => ⟨hk.1.1.2, ⟨hk.2, hk.1.2⟩⟩)))
        (case aS => exact (keep_size (w := w) (g := g) (row := none) (by repeat (first | (with_reducible first | exact HK.out | apply KeepBut.set_ | apply keep_drewN | apply keep_drew | apply keep_alloc | refine keep_far ?_ GW166.out _) | exact HK.out))))
        (case aL => have := LMc26.out; omega)
        intro v171 w62 ho hb hg hat
        rw [← Ny170.out] at ho
        have n0_ := Aside0.mk (Kd.R_after (ok := (fun k_ => some k_ ≠ (v174 : Value).ownBlock ∧ k_ ≠ gb166)) (by (with_reducible repeat (first | apply Kd.R_alloc | apply Kd.R_drewN | apply Kd.R_drew)); exact Kd.R_mono HO_3.out (fun _ hk => ⟨⟨hk.2, hk.1.1⟩, hk.1.2⟩)) hg hat)
        have n1_ := Aside0.mk (IsS70.grown (by repeat (first | (with_reducible first | exact HI0.out | apply IsS70.alloc | apply IsS70.drewN | apply IsS70.drew | apply IsS70.set_1 | apply IsS70.set_2 | refine IsS70.far ?_ NB0_166.out _) | exact HI0.out)) hg (IsS70.own_ne HI0.out HO169.out (by decide)))
        have n2_ := Aside0.mk (blk_grown (sB_ BK166.out) hg (Kd.R_away HO169.out (fun _ hk => hk.1.2)))
        have n3_ := Aside0.mk (Kd.R_after (ok := (fun k_ => some k_ ≠ (.slice Ao55 x3_1.length co55 : Value).ownBlock ∧ k_ ≠ gb166)) (by (with_reducible repeat (first | apply Kd.R_alloc | apply Kd.R_drewN | apply Kd.R_drew)); exact Kd.R_mono HO175.out (fun _ hk => ⟨⟨hk.1.1.2, hk.2⟩, hk.1.2⟩)) hg hat)
        have n4_ := Aside0.mk (below_weaken (by repeat (first | (with_reducible first | exact HB.out | apply below_alloc | apply pw_below_drewN | apply below_drew1 | refine below_set ?_ (IsS70.ge HI0.out) | refine below_set ?_ GE166.out) | exact HB.out)) HL.out hb)
        have n5_ := Aside0.mk (KeepBut.trans (by repeat (first | (with_reducible first | exact HK.out | apply KeepBut.set_ | apply keep_drewN | apply keep_drew | apply keep_alloc | refine keep_far ?_ GW166.out _) | exact HK.out)) (KeepBut.of_grown hg g) (Kd.R_base2 HO169.out))
        have n6_ := Aside0.mk (ho)
        clear HO_3 HI0 BK166 HO175 HB HK HO169; have HO_3 := n0_; have HI0 := n1_; have BK166 := n2_; have HO175 := n3_; have HB := n4_; have HK := n5_; have HO172 := n6_; clear n0_ n1_ n2_ n3_ n4_ n5_ n6_ ho hb hg hat
        refine hK.out _ _ ⟨(blk_cell BK166.out 0).trans rfl, (blk_cell BK166.out 1).trans rfl, (blk_cell BK166.out 2).trans rfl⟩ (fun hHeld => ?_)
        clear hK K
        refine norm_ (a' := ?_) ?_ ?_
        rotate_left
        ·show Act.put _ (some 47) _ = _
         simp only [Act.put, List.setIfInBounds_toArray, List.set_cons_zero, List.set_cons_succ, i64_w, i32_w]
         rfl
        exact norm_ sP_ (hCont (v168, v171, v174) _ ⟨hHeld, (by (with_reducible repeat (first | apply Kd.R_alloc | apply Kd.R_drewN | apply Kd.R_drew)); exact Kd.R_mono HO172.out (fun _ hk => ⟨hk.2.1, ⟨hk.1, hk.2.2⟩⟩)), (by (with_reducible repeat (first | apply Kd.R_alloc | apply Kd.R_drewN | apply Kd.R_drew)); exact Kd.R_mono HO175.out (fun _ hk => ⟨hk.2, ⟨hk.1.1, hk.1.2⟩⟩)), (by (with_reducible repeat (first | apply Kd.R_alloc | apply Kd.R_drewN | apply Kd.R_drew)); exact Kd.R_mono HO_3.out (fun _ hk => ⟨hk.2, ⟨hk.1.1, hk.1.2⟩⟩)), (sB_ BK166.out), (by repeat (first | (with_reducible first | exact HI0.out | apply IsS70.alloc | apply IsS70.drewN | apply IsS70.drew | apply IsS70.set_1 | apply IsS70.set_2 | refine IsS70.far ?_ NB0_166.out _) | exact HI0.out)), (by repeat (first | (with_reducible first | exact HK.out | apply KeepBut.set_ | apply keep_drewN | apply keep_drew | apply keep_alloc | refine keep_far ?_ GW166.out _) | exact HK.out)), (by repeat (first | (with_reducible first | exact HB.out | apply below_alloc | apply pw_below_drewN | apply below_drew1 | refine below_set ?_ (IsS70.ge HI0.out) | refine below_set ?_ GE166.out) | exact HB.out))⟩)
       skip
       refine Kd.R_lit_step k68 _ 68 ?hg (N := 49) ?hd (xs := ([(⟨wrap64 (t157 - 4), t160, wrap64 (1 + t163)⟩ : S68)] : List (S68))) (inner := [.int .i64 (wrap64 (t157 - 4)), .int .i64 t160, .int .i64 (wrap64 (1 + t163))]) (ok := fun _ => True) (okp := fun _ => True) ?hr ?hp (fun _ hk => hk) trivial (Below.refl _ _) (Nat.le_refl _) (by simp) ?_; (case hd => rfl); (case hg => rfl); (case hr => first | (go_simp; done) | (go_simp; rfl)); (case hp => exact (Reps.c3 (show Kd.M k68 _ _ _ (⟨wrap64 (t157 - 4), t160, wrap64 (1 + t163)⟩ : S68) [.int .i64 (wrap64 (t157 - 4)), .int .i64 t160, .int .i64 (wrap64 (1 + t163))] from (k68_mkM _ _ _ (⟨wrap64 (t157 - 4), t160, wrap64 (1 + t163)⟩ : S68) )) (Reps.none _ _)))
       intro v174 w58 ho59 hb hg_ hnew_
       clear hg_ hnew_
       (first | rw [← Ny173.out] at ho59 | (simp only [Int.reduceToNat] at ho59; rw [← Ny173.out] at ho59))
       have n0_ := Aside0.mk (Kd.R_elder' (sR_ HO_3.out) (Kd.R_base ho59) hb)
       have n1_ := Aside0.mk (Kd.R_lower (Kd.R_newB (Kd.R_new' ho59 (Kd.R_lt (sR_ HO_3.out))) (sB_ BK166.out)) (keep_size (w := w) (g := g) (row := none) (by repeat (first | (with_reducible first | exact HK.out | apply KeepBut.set_ | apply keep_drewN | apply keep_drew | apply keep_alloc | refine keep_far ?_ GW166.out _) | exact HK.out))))
       have n2_ := Aside0.mk (IsS70.below (by repeat (first | (with_reducible first | exact HI0.out | apply IsS70.alloc | apply IsS70.drewN | apply IsS70.drew | apply IsS70.set_1 | apply IsS70.set_2 | refine IsS70.far ?_ NB0_166.out _) | exact HI0.out)) hb)
       have n3_ := Aside0.mk (blk_below (sB_ BK166.out) hb)
       have n4_ := Aside0.mk (KeepBut.trans (by repeat (first | (with_reducible first | exact HK.out | apply KeepBut.set_ | apply keep_drewN | apply keep_drew | apply keep_alloc | refine keep_far ?_ GW166.out _) | exact HK.out)) (KeepBut.of_below hb g none) (.inl rfl))
       have n5_ := Aside0.mk (below_step (by repeat (first | (with_reducible first | exact HB.out | apply below_alloc | apply pw_below_drewN | apply below_drew1 | refine below_set ?_ (IsS70.ge HI0.out) | refine below_set ?_ GE166.out) | exact HB.out)) hb)
       clear HO_3 HI0 BK166 HK HB; have HO_3 := n0_; have HO175 := n1_; have HI0 := n2_; have BK166 := n3_; have HK := n4_; have HB := n5_; clear n0_ n1_ n2_ n3_ n4_ n5_ hb ho59
       refine hK.out _ _ ⟨(blk_cell BK166.out 0).trans rfl, (blk_cell BK166.out 1).trans rfl, (blk_cell BK166.out 2).trans rfl⟩ (fun hHeld => ?_)
       clear hK K
       refine norm_ (a' := ?_) ?_ ?_
       rotate_left
       ·show Act.put _ (some 49) _ = _
        simp only [Act.put, List.setIfInBounds_toArray, List.set_cons_zero, List.set_cons_succ, i64_w, i32_w]
        rfl
       refine one_ (i := 0) (N := some 45) #[true, true, false, true, true, false, false] rfl rfl (by kernel_rfl) (by decide) (fun K hK => ?_)
       refine Kd.R_lit_step k68 _ 68 ?hg (N := 45) ?hd (xs := ([] : List (S68))) (inner := []) (ok := fun _ => True) (okp := fun _ => True) ?hr ?hp (fun _ hk => hk) trivial (Below.refl _ _) (Nat.le_refl _) (by simp) ?_; (case hd => rfl); (case hg => rfl); (case hr => first | (go_simp; done) | (go_simp; rfl)); (case hp => exact (Reps.none _ _))
       intro v168 w60 ho61 hb hg_ hnew_
       clear hg_ hnew_
       (first | rw [← Ny167.out] at ho61 | (simp only [Int.reduceToNat] at ho61; rw [← Ny167.out] at ho61))
       have n0_ := Aside0.mk (Kd.R_elder' (sR_ HO_3.out) (Kd.R_base ho61) hb)
       have n1_ := Aside0.mk (Kd.R_elder' (sR_ HO175.out) (Kd.R_base ho61) hb)
       have n2_ := Aside0.mk (Kd.R_lower (Kd.R_newB (Kd.R_new' (Kd.R_new' ho61 (Kd.R_lt (sR_ HO_3.out))) (Kd.R_lt (sR_ HO175.out))) (sB_ BK166.out)) (keep_size (w := w) (g := g) (row := none) (by repeat (first | (with_reducible first | exact HK.out | apply KeepBut.set_ | apply keep_drewN | apply keep_drew | apply keep_alloc | refine keep_far ?_ GW166.out _) | exact HK.out))))
       have n3_ := Aside0.mk (IsS70.below (by repeat (first | (with_reducible first | exact HI0.out | apply IsS70.alloc | apply IsS70.drewN | apply IsS70.drew | apply IsS70.set_1 | apply IsS70.set_2 | refine IsS70.far ?_ NB0_166.out _) | exact HI0.out)) hb)
       have n4_ := Aside0.mk (blk_below (sB_ BK166.out) hb)
       have n5_ := Aside0.mk (KeepBut.trans (by repeat (first | (with_reducible first | exact HK.out | apply KeepBut.set_ | apply keep_drewN | apply keep_drew | apply keep_alloc | refine keep_far ?_ GW166.out _) | exact HK.out)) (KeepBut.of_below hb g none) (.inl rfl))
       have n6_ := Aside0.mk (below_step (by repeat (first | (with_reducible first | exact HB.out | apply below_alloc | apply pw_below_drewN | apply below_drew1 | refine below_set ?_ (IsS70.ge HI0.out) | refine below_set ?_ GE166.out) | exact HB.out)) hb)
       clear HO_3 HO175 HI0 BK166 HK HB; have HO_3 := n0_; have HO175 := n1_; have HO169 := n2_; have HI0 := n3_; have BK166 := n4_; have HK := n5_; have HB := n6_; clear n0_ n1_ n2_ n3_ n4_ n5_ n6_ hb ho61
       refine hK.out _ _ ⟨(blk_cell BK166.out 0).trans rfl, (blk_cell BK166.out 1).trans rfl, (blk_cell BK166.out 2).trans rfl⟩ (fun hHeld => ?_)
       clear hK K
       refine norm_ (a' := ?_) ?_ ?_
       rotate_left
       ·show Act.put _ (some 45) _ = _
        simp only [Act.put, List.setIfInBounds_toArray, List.set_cons_zero, List.set_cons_succ, i64_w, i32_w]
        rfl
       refine one_ (i := 2) (N := some 47) #[true, true, true, true, true, false, false] rfl rfl (by kernel_rfl) (by decide) (fun K hK => ?_)
       refine Kd.R_append_rows_step k68 w.heap.size (by rfl) (.tmp 45) (.tmp 46) 23 68 (.agg #[(.int .i64 0), (.int .i64 0), (.int .i64 0)]) 24 rfl Try.underlying23 info68 rfl (by decide) (by omega) v168 y167 x3_1 _ _ _ (fun k_ => some k_ ≠ (.slice Ao55 x3_1.length co55 : Value).ownBlock ∧ some k_ ≠ (v174 : Value).ownBlock ∧ k_ ≠ gb166) (fun _ => False) rfl rfl ?aO ?aR (fun _ _ h => h) (fun _ h => h.elim) ?aF (Below.refl _ _) ?aS ?aL ?_
       (case aR => repeat (first | exact (Kd.R_reads' HO_3.out).2.2 | (with_reducible refine Kd.C_alloc ?_ _) | (with_reducible refine Kd.C_drewN ?_ _) | (with_reducible refine Kd.C_drew ?_)))
       (case aF => exact (fun k_ hk => ⟨Kd.fresh' (Kd.R_lt (sR_ HO_3.out)) k_ hk, Kd.fresh' (Kd.R_lt (sR_ HO175.out)) k_ hk, Kd.freshB (sB_ BK166.out) k_ hk⟩))
       (case aO => exact (by (with_reducible repeat (first | apply Kd.R_alloc | apply Kd.R_drewN | apply Kd.R_drew)); exact Kd.R_mono HO169.out (fun _ hk => ⟨hk.1.1.2, ⟨hk.1.2, hk.2⟩⟩)))
       (case aS => exact (keep_size (w := w) (g := g) (row := none) (by repeat (first | (with_reducible first | exact HK.out | apply KeepBut.set_ | apply keep_drewN | apply keep_drew | apply keep_alloc | refine keep_far ?_ GW166.out _) | exact HK.out))))
       (case aL => have := LMc26.out; omega)
       intro v171 w62 ho hb hg hat
       rw [← Ny170.out] at ho
       have n0_ := Aside0.mk (Kd.R_after (ok := (fun k_ => some k_ ≠ (v174 : Value).ownBlock ∧ k_ ≠ gb166)) (by (with_reducible repeat (first | apply Kd.R_alloc | apply Kd.R_drewN | apply Kd.R_drew)); exact Kd.R_mono HO_3.out (fun _ hk => ⟨⟨hk.1.2, hk.1.1⟩, hk.2⟩)) hg hat)
       have n1_ := Aside0.mk (IsS70.grown (by repeat (first | (with_reducible first | exact HI0.out | apply IsS70.alloc | apply IsS70.drewN | apply IsS70.drew | apply IsS70.set_1 | apply IsS70.set_2 | refine IsS70.far ?_ NB0_166.out _) | exact HI0.out)) hg (IsS70.own_ne HI0.out HO169.out (by decide)))
       have n2_ := Aside0.mk (blk_grown (sB_ BK166.out) hg (Kd.R_away HO169.out (fun _ hk => hk.2)))
       have n3_ := Aside0.mk (Kd.R_after (ok := (fun k_ => some k_ ≠ (.slice Ao55 x3_1.length co55 : Value).ownBlock ∧ k_ ≠ gb166)) (by (with_reducible repeat (first | apply Kd.R_alloc | apply Kd.R_drewN | apply Kd.R_drew)); exact Kd.R_mono HO175.out (fun _ hk => ⟨⟨hk.1.1.2, hk.1.2⟩, hk.2⟩)) hg hat)
       have n4_ := Aside0.mk (below_weaken (by repeat (first | (with_reducible first | exact HB.out | apply below_alloc | apply pw_below_drewN | apply below_drew1 | refine below_set ?_ (IsS70.ge HI0.out) | refine below_set ?_ GE166.out) | exact HB.out)) HL.out hb)
       have n5_ := Aside0.mk (KeepBut.trans (by repeat (first | (with_reducible first | exact HK.out | apply KeepBut.set_ | apply keep_drewN | apply keep_drew | apply keep_alloc | refine keep_far ?_ GW166.out _) | exact HK.out)) (KeepBut.of_grown hg g) (Kd.R_base2 HO169.out))
       have n6_ := Aside0.mk (ho)
       clear HO_3 HI0 BK166 HO175 HB HK HO169; have HO_3 := n0_; have HI0 := n1_; have BK166 := n2_; have HO175 := n3_; have HB := n4_; have HK := n5_; have HO172 := n6_; clear n0_ n1_ n2_ n3_ n4_ n5_ n6_ ho hb hg hat
       refine hK.out _ _ ⟨(blk_cell BK166.out 0).trans rfl, (blk_cell BK166.out 1).trans rfl, (blk_cell BK166.out 2).trans rfl⟩ (fun hHeld => ?_)
       clear hK K
       refine norm_ (a' := ?_) ?_ ?_
       rotate_left
       ·show Act.put _ (some 47) _ = _
        simp only [Act.put, List.setIfInBounds_toArray, List.set_cons_zero, List.set_cons_succ, i64_w, i32_w]
        rfl
       exact norm_ sP_ (hCont (v168, v171, v174) _ ⟨hHeld, (by (with_reducible repeat (first | apply Kd.R_alloc | apply Kd.R_drewN | apply Kd.R_drew)); exact Kd.R_mono HO172.out (fun _ hk => ⟨hk.2.1, ⟨hk.1, hk.2.2⟩⟩)), (by (with_reducible repeat (first | apply Kd.R_alloc | apply Kd.R_drewN | apply Kd.R_drew)); exact Kd.R_mono HO175.out (fun _ hk => ⟨hk.2, ⟨hk.1.1, hk.1.2⟩⟩)), (by (with_reducible repeat (first | apply Kd.R_alloc | apply Kd.R_drewN | apply Kd.R_drew)); exact Kd.R_mono HO_3.out (fun _ hk => ⟨hk.2, ⟨hk.1.1, hk.1.2⟩⟩)), (sB_ BK166.out), (by repeat (first | (with_reducible first | exact HI0.out | apply IsS70.alloc | apply IsS70.drewN | apply IsS70.drew | apply IsS70.set_1 | apply IsS70.set_2 | refine IsS70.far ?_ NB0_166.out _) | exact HI0.out)), (by repeat (first | (with_reducible first | exact HK.out | apply KeepBut.set_ | apply keep_drewN | apply keep_drew | apply keep_alloc | refine keep_far ?_ GW166.out _) | exact HK.out)), (by repeat (first | (with_reducible first | exact HB.out | apply below_alloc | apply pw_below_drewN | apply below_drew1 | refine below_set ?_ (IsS70.ge HI0.out) | refine below_set ?_ GE166.out) | exact HB.out))⟩)
      rintro ⟨v168, v171, v174⟩ w63 ⟨hS_, h0_, h1_, h2_, h3_, h4_, h5_, h6_⟩
      have n0_ : Aside0 (Kd.R k68 68 w63 w.heap.size (fun k_ => some k_ ≠ (v174 : Value).ownBlock ∧ some k_ ≠ (.slice Ao55 x3_1.length co55 : Value).ownBlock ∧ k_ ≠ gb166) v171 y170) := ⟨h0_⟩
      have n1_ : Aside0 (Kd.R k68 68 w63 w.heap.size (fun k_ => some k_ ≠ (v171 : Value).ownBlock ∧ some k_ ≠ (.slice Ao55 x3_1.length co55 : Value).ownBlock ∧ k_ ≠ gb166) v174 y173) := ⟨h1_⟩
      have n2_ : Aside0 (Kd.R k68 68 w63 w.heap.size (fun k_ => some k_ ≠ (v171 : Value).ownBlock ∧ some k_ ≠ (v174 : Value).ownBlock ∧ k_ ≠ gb166) (.slice Ao55 x3_1.length co55) x3_1) := ⟨h2_⟩
      have n3_ : Aside0 (w63.heap[gb166]? = some (.cells #[.int .i64 (wrap64 (t157 - 4)), .int .i64 t160, .int .i64 (wrap64 (1 + t163))] 68 (0, 0))) := ⟨h3_⟩
      have n4_ : Aside0 (IsS70 w0 w63 g s0_0 t164 t165) := ⟨h4_⟩
      have n5_ : Aside0 (KeepBut w w63 g none) := ⟨h5_⟩
      have n6_ : Aside0 (Below w0.heap.size w0 w63) := ⟨h6_⟩
      clear HO_3 BK166 HI0 HK HB h0_ h1_ h2_ h3_ h4_ h5_ h6_; have HO172 := n0_; have HO175 := n1_; have HO_3 := n2_; have BK166 := n3_; have HI0 := n4_; have HK := n5_; have HB := n6_; clear n0_ n1_ n2_ n3_ n4_ n5_ n6_
      have hHeld : w63.cell? ⟨gb166, 0, none⟩ = some (.int .i64 (wrap64 (t157 - 4))) ∧ w63.cell? ⟨gb166, 1, none⟩ = some (.int .i64 t160) ∧ w63.cell? ⟨gb166, 2, none⟩ = some (.int .i64 (wrap64 (1 + t163))) := hS_
      obtain ⟨Ao65, co65, eo65⟩ := Kd.R_slice HO175.out
      (first | subst eo65 | (injection eo65 with f1_ f2_ f3_; have f4_ := f1_.symm; have f5_ := f3_.symm; clear f1_ f2_ f3_; subst f4_; subst f5_))
      refine norm_ (a' := ?_) ?_ ?_
      rotate_left
      ·simp only [putAll, Act.put, List.setIfInBounds_toArray, List.set_cons_zero, List.set_cons_succ]
       rfl
      refine one_ (i := 5) (N := some 50) #[true, true, true, true, true, true, false] rfl rfl (by kernel_rfl) (by decide) (fun K hK => ?_)
      refine Kd.R_append_rows_step k68 w.heap.size (by rfl) (.tmp 47) (.tmp 49) 23 68 (.agg #[(.int .i64 0), (.int .i64 0), (.int .i64 0)]) 24 rfl Try.underlying23 info68 rfl (by decide) (by omega) v171 y170 y173 _ _ _ (fun k_ => some k_ ≠ (.slice Ao55 x3_1.length co55 : Value).ownBlock ∧ some k_ ≠ (.slice Ao65 y173.length co65 : Value).ownBlock ∧ k_ ≠ gb166) (fun _ => False) rfl rfl ?aO ?aR (fun _ _ h => h) (fun _ h => h.elim) ?aF (Below.refl _ _) ?aS ?aL ?_
      (case aR => repeat (first | exact (Kd.R_reads' HO175.out).2.2 | (with_reducible refine Kd.C_alloc ?_ _) | (with_reducible refine Kd.C_drewN ?_ _) | (with_reducible refine Kd.C_drew ?_)))
      (case aF => exact (fun k_ hk => ⟨Kd.fresh' (Kd.R_lt (sR_ HO_3.out)) k_ hk, Kd.fresh' (Kd.R_lt (sR_ HO175.out)) k_ hk, Kd.freshB (sB_ BK166.out) k_ hk⟩))
      (case aO => exact (by (with_reducible repeat (first | apply Kd.R_alloc | apply Kd.R_drewN | apply Kd.R_drew)); exact Kd.R_mono HO172.out (fun _ hk => ⟨hk.2.1, ⟨hk.1, hk.2.2⟩⟩)))
      (case aS => exact (keep_size (w := w) (g := g) (row := none) (by repeat (first | (with_reducible first | exact HK.out | apply KeepBut.set_ | apply keep_drewN | apply keep_drew | apply keep_alloc | refine keep_far ?_ GW166.out _) | exact HK.out))))
      (case aL => have := LMc27.out; omega)
      intro v177 w64 ho hb hg hat
      rw [← Ny176.out] at ho
      have n0_ := Aside0.mk (Kd.R_after (ok := (fun k_ => some k_ ≠ (.slice Ao65 y173.length co65 : Value).ownBlock ∧ k_ ≠ gb166)) (by (with_reducible repeat (first | apply Kd.R_alloc | apply Kd.R_drewN | apply Kd.R_drew)); exact Kd.R_mono HO_3.out (fun _ hk => ⟨⟨hk.2.1, hk.2.2⟩, hk.1⟩)) hg hat)
      have n1_ := Aside0.mk (IsS70.grown (by repeat (first | (with_reducible first | exact HI0.out | apply IsS70.alloc | apply IsS70.drewN | apply IsS70.drew | apply IsS70.set_1 | apply IsS70.set_2 | refine IsS70.far ?_ NB0_166.out _) | exact HI0.out)) hg (IsS70.own_ne HI0.out HO172.out (by decide)))
      have n2_ := Aside0.mk (blk_grown (sB_ BK166.out) hg (Kd.R_away HO172.out (fun _ hk => hk.2.2)))
      have n3_ := Aside0.mk (Kd.R_after (ok := (fun k_ => some k_ ≠ (.slice Ao55 x3_1.length co55 : Value).ownBlock ∧ k_ ≠ gb166)) (by (with_reducible repeat (first | apply Kd.R_alloc | apply Kd.R_drewN | apply Kd.R_drew)); exact Kd.R_mono HO175.out (fun _ hk => ⟨⟨hk.2.1, hk.2.2⟩, hk.1⟩)) hg hat)
      have n4_ := Aside0.mk (below_weaken (by repeat (first | (with_reducible first | exact HB.out | apply below_alloc | apply pw_below_drewN | apply below_drew1 | refine below_set ?_ (IsS70.ge HI0.out) | refine below_set ?_ GE166.out) | exact HB.out)) HL.out hb)
      have n5_ := Aside0.mk (KeepBut.trans (by repeat (first | (with_reducible first | exact HK.out | apply KeepBut.set_ | apply keep_drewN | apply keep_drew | apply keep_alloc | refine keep_far ?_ GW166.out _) | exact HK.out)) (KeepBut.of_grown hg g) (Kd.R_base2 HO172.out))
      have n6_ := Aside0.mk (ho)
      clear HO_3 HI0 BK166 HO175 HB HK HO172; have HO_3 := n0_; have HI0 := n1_; have BK166 := n2_; have HO175 := n3_; have HB := n4_; have HK := n5_; have HO178 := n6_; clear n0_ n1_ n2_ n3_ n4_ n5_ n6_ ho hb hg hat
      refine hK.out _ _ ⟨(blk_cell BK166.out 0).trans rfl, (blk_cell BK166.out 1).trans rfl, (blk_cell BK166.out 2).trans rfl⟩ (fun hHeld => ?_)
      clear hK K
      refine norm_ (a' := ?_) ?_ ?_
      rotate_left
      ·show Act.put _ (some 50) _ = _
       simp only [Act.put, List.setIfInBounds_toArray, List.set_cons_zero, List.set_cons_succ, i64_w, i32_w]
       rfl
      refine pure_ (i := 6) (N := some 6) (v := ?_) (a' := ?_) #[true, true, true, true, true, true, true] rfl rfl (by kernel_rfl) (fun _ _ _ h => h) (Or.inl ⟨by rfl, ?_⟩) ?_ ?_
      rotate_left
      ·intro w'
       go_simp
       with_reducible rfl
      rotate_left
      ·simp only [Act.put, List.setIfInBounds_toArray, List.set_cons_zero, List.set_cons_succ, i64_w, i32_w]
       rfl
      refine done_ (by kernel_rfl) ?_
      obtain ⟨Ao66, co66, eo66⟩ := Kd.R_slice HO178.out
      subst eo66
      try go_wp2_with (first | ((with_reducible refine gate_callee (f := 53) rfl ?_); refine goesL_ (some 52) rfl rfl Try.func53 (by kernel_rfl) rfl #[.slice Ao66 y176.length co66] rfl sL_ ?_; (with_reducible refine (spec_IsKernel.calls k1 _ _ y176 false _ ?side1 ?side2 A28.out).mono ?_); (case side1 => repeat (first | exact (Kd.R_reads' HO178.out).2.2 | (with_reducible refine Kd.C_alloc ?_ _) | (with_reducible refine Kd.C_drewN ?_ _) | (with_reducible refine Kd.C_drew ?_))); (case side2 => exact (Kd.R_reads' HO178.out).2.1); rintro e w67 ⟨rfl, hb⟩; refine ⟨_, rfl, ?_⟩; have n0_ := Aside0.mk (Kd.R_below (sR_ HO_3.out) hb); have n1_ := Aside0.mk (Kd.R_below (sR_ HO175.out) hb); have n2_ := Aside0.mk (Kd.R_below (sR_ HO178.out) hb); have n3_ := Aside0.mk (IsS70.below (by repeat (first | (with_reducible first | exact HI0.out | apply IsS70.alloc | apply IsS70.drewN | apply IsS70.drew | apply IsS70.set_1 | apply IsS70.set_2 | refine IsS70.far ?_ NB0_166.out _) | exact HI0.out)) hb); have n4_ := Aside0.mk (blk_below (sB_ BK166.out) hb); have n5_ := Aside0.mk (KeepBut.trans (by repeat (first | (with_reducible first | exact HK.out | apply KeepBut.set_ | apply keep_drewN | apply keep_drew | apply keep_alloc | refine keep_far ?_ GW166.out _) | exact HK.out)) (KeepBut.of_below hb g none) (.inl rfl)); have n6_ := Aside0.mk (below_step (by repeat (first | (with_reducible first | exact HB.out | apply below_alloc | apply pw_below_drewN | apply below_drew1 | refine below_set ?_ (IsS70.ge HI0.out) | refine below_set ?_ GE166.out) | exact HB.out)) hb); clear HO_3 HO175 HO178 HI0 BK166 HK HB; have HO_3 := n0_; have HO175 := n1_; have HO178 := n2_; have HI0 := n3_; have BK166 := n4_; have HK := n5_; have HB := n6_; clear n0_ n1_ n2_ n3_ n4_ n5_ n6_; (try clear hb); (try clear hb2); (try clear hk); (try clear hi)))
      go_roundg k1
      case measure => have := HK1.out; omega
      case rel => exact ⟨(x3_1), (wrap64 (x4_1 - 1)), (t164), (t165), (by first | rfl | (simp; done) | (simp [*]; done)), H', ⟨by have := HK1.out; omega⟩, ⟨by (with_reducible repeat (first | apply Kd.R_alloc | apply Kd.R_drewN | apply Kd.R_drew)); exact Kd.R_mono HO_3.out (fun _ hk => trivial)⟩, ⟨by repeat (first | (with_reducible first | exact HI0.out | apply IsS70.alloc | apply IsS70.drewN | apply IsS70.drew | apply IsS70.set_1 | apply IsS70.set_2 | refine IsS70.far ?_ NB0_166.out _) | exact HI0.out)⟩, ⟨by repeat (first | (with_reducible first | exact HK.out | apply KeepBut.set_ | apply keep_drewN | apply keep_drew | apply keep_alloc | refine keep_far ?_ GW166.out _) | exact HK.out)⟩, ⟨by repeat (first | (with_reducible first | exact HB.out | apply below_alloc | apply pw_below_drewN | apply below_drew1 | refine below_set ?_ (IsS70.ge HI0.out) | refine below_set ?_ GE166.out) | exact HB.out)⟩⟩
     rw [if_neg c27] at H
     exact absurd H (by simp)
    rw [if_neg c26] at H
    exact absurd H (by simp)
   rw [if_neg c22] at H
   have c22b0 : decide (0 < x4_1) = false := decide_eq_false c22
   clear c22
   simp only [Option.some.injEq, Prod.mk.injEq] at H
   obtain ⟨rfl, rfl, rfl⟩ := H
   go_wp2
   go_ret
   exact ⟨_, by first | rfl | (simp [errW_none, errW_some] <;> rfl) | (simp [*, errW_none, errW_some] <;> rfl), by (with_reducible repeat (first | apply Kd.R_alloc | apply Kd.R_drewN | apply Kd.R_drew)); exact HO_3.out, by repeat (first | (with_reducible first | exact HI0.out | apply IsS70.alloc | apply IsS70.drewN | apply IsS70.drew | apply IsS70.set_1 | apply IsS70.set_2) | exact HI0.out), by repeat (first | (with_reducible first | exact HB.out | apply below_alloc | apply pw_below_drewN | apply below_drew1 | refine below_set ?_ (IsS70.ge HI0.out)) | exact HB.out), by repeat (first | (with_reducible first | exact HK.out | apply KeepBut.set_ | apply keep_drewN | apply keep_drew | apply keep_alloc) | exact HK.out)⟩

end Go.Proofs.Ytndnklicfibkeaa.P
