-- Written by tools/seatprint.py (over the kit's print, changed in memory). Not trusted: Lean checks it.
import Derived.Test.YtndnklicfibkeaaP0
import Derived.Test.YtndnklicfibkeaaFimplIsPicture
import Derived.Test.YtndnklicfibkeaaFimpldiffused
import Derived.Test.YtndnklicfibkeaaFimplPlainKernel
namespace Go.Proofs.Ytndnklicfibkeaa.P
open Go.RowKit Go.Proofs.YtndnklicfibkeaaW.PrintWords Go.Proofs.YtndnklicfibkeaaW.PrintLast Go.Proofs.YtndnklicfibkeaaW.PrintMore
attribute [local go_sem] max2_int min2_int max_two min_two max_three min_three max_four min_four   -- for this text's walks alone
set_option linter.unusedVariables false
set_option linter.unusedSimpArgs false

/-! ### impl_RowDots: function 17 -/
def impl_RowDots.f (k : Nat) (l0 : List Int) : Option (List Int) := (impl_IsPicture.f (l0.length : Int) 1 l0).bind fun t374 => (if t374 = true then ((impl_PlainKernel.f).bind fun t375 => ((impl_diffused.f k t375 (l0.length : Int) 1 l0 false).bind fun bt378 => (some bt378.2.2.1))) else (some ([] : List Int)))
theorem impl_RowDots.mono : ∀ a0 k, LeO (impl_RowDots.f k a0) (impl_RowDots.f (k + 1) a0) := by
  intro a0 k
  unfold impl_RowDots.f
  repeat' first
      | (with_reducible exact impl_diffused.mono _ _ _ _ _ _)
      | (with_reducible exact LeO.refl _)
      | (with_reducible exact LeO.none _)
      | (with_reducible refine LeO.ite ?_ ?_)
      | (with_reducible refine LeO.bind ?_ (fun _ => ?_))
      | exact impl_diffused.mono _ _ _ _ _ _
      | exact LeO.none _
      | refine LeO.ite ?_ ?_
      | refine LeO.bind ?_ (fun _ => ?_)
def impl_RowDots.T4 : Bool × List (List Nat × List Nat) := (true, [([], []), ([], []), ([0, 1, 0], [0, 1]), ([2], [2]), ([3], [3]), ([3], [3]), ([3], [3]), ([], []), ([7, 4, 2, 0, 1, 2, 3, 4, 7], [4, 7]), ([5, 8, 0, 1, 2, 3, 4, 5, 7, 8], [5]), ([6, 9, 0, 1, 2, 3, 4, 5, 6, 7, 8, 9], [6])])
def impl_RowDots.B4 : List Nat := [0, 0, 3, 7, 15, 15, 15, 0, 159, 447, 1023]
theorem impl_RowDots.tab4 : rtab .any (opsOf Try.f17 4) = impl_RowDots.T4 := by kernel_rfl
theorem impl_RowDots.bits4 : waitsOk impl_RowDots.T4.2 impl_RowDots.B4 = true := by kernel_rfl
set_option maxHeartbeats 8000000 in
set_option maxRecDepth 100000 in
theorem impl_RowDots.calls (k : Nat) (A0 : Option Addr) (c0 : Nat) (l0 : List Int) (r : List Int) (w : World) (hr0 : Kd.C (Kd.int .i64) w A0 l0.length l0) (hc0 : l0.length ≤ c0) (h : impl_RowDots.f k l0 = some r) :
  Calls Try.prog 17 #[.slice A0 l0.length c0] w fun e w' => ∃ v0_ : Value, e = .returned (v0_) ∧ Kd.R (Kd.int .i64) 3 w' w.heap.size (fun _ => True) v0_ r ∧ Below w.heap.size w w' := by
 have hu27 := Try.underlying27
 have HR0 := Aside0.mk hr0
 have HC0 := Aside0.mk hc0
 clear hr0 hc0
 have HB := Aside0.mk (Below.refl w.heap.size w)
 have H : ((impl_IsPicture.f (l0.length : Int) 1 l0).bind fun t374 => (if t374 = true then ((impl_PlainKernel.f).bind fun t375 => ((impl_diffused.f k t375 (l0.length : Int) 1 l0 false).bind fun bt378 => (some bt378.2.2.1))) else (some ([] : List Int)))) = some r := h
 clear h
 replace H := Option.bind_eq_some_iff.mp H
 obtain ⟨t374, A20, H⟩ := H
 replace H : (if t374 = true then ((impl_PlainKernel.f).bind fun t375 => ((impl_diffused.f k t375 (l0.length : Int) 1 l0 false).bind fun bt378 => (some bt378.2.2.1))) else (some ([] : List Int))) = some r := H
 have A2 := Aside0.mk A20
 clear A20
 by_cases c3 : t374 = true
 ·subst c3
  have H1 : ((impl_PlainKernel.f).bind fun t375 => ((impl_diffused.f k t375 (l0.length : Int) 1 l0 false).bind fun bt378 => (some bt378.2.2.1))) = some r := by rw [if_pos rfl] at H; exact H
  clear H; have H := H1; clear H1
  replace H := Option.bind_eq_some_iff.mp H
  obtain ⟨t375, A40, H⟩ := H
  replace H : ((impl_diffused.f k t375 (l0.length : Int) 1 l0 false).bind fun bt378 => (some bt378.2.2.1)) = some r := H
  have A4 := Aside0.mk A40
  clear A40
  replace H := Option.bind_eq_some_iff.mp H
  obtain ⟨⟨t378, t379, t380, t383, t386⟩, A50, H⟩ := H
  replace H : (some t380) = some r := H
  have A5 := Aside0.mk A50
  clear A50
  obtain rfl := Option.some.inj H
  go_enter Try.func17, Try.ntmps17
  try go_wp2_with (first | ((with_reducible refine gate_dst (N := 3) rfl ?_); refine box_event ?hg (N := 3) ?hd (cs := #[.int .i64 0, .int .i64 0, .slice none 0 0]) (t := 27) ?hr ?_; (case hd => rfl); (case hg => rfl); (case hr => first | (go_simp; done) | (go_simp; rfl)); intro gb373 hg w6 hbox hb; have n0_ := Aside0.mk (below_step (sW_ HB.out) hb); have n1_ := Aside0.mk (hbox); have n2_ := Aside0.mk ((by rw [hg]; exact (below_size (sW_ HB.out)) : w.heap.size ≤ gb373)); have n3_ := n2_; clear HB; have HB := n0_; have BK373 := n1_; have GW373 := n2_; have GE373 := n3_; clear n0_ n1_ n2_ n3_; clear hb hbox hg; obtain ⟨hcz7_0, hcz7_1, hcz7_2, hfz7_0, hfz7_1, hfz7_2⟩ := sZ_ BK373.out) | ((with_reducible refine gate_callee (f := 35) rfl ?_); refine goesL_ (some 12) rfl rfl Try.func35 (by kernel_rfl) rfl #[.agg #[.int .i64 (l0.length : Int), .int .i64 1, .slice A0 l0.length c0]] rfl sL_ ?_; (with_reducible refine (impl_IsPicture.calls (l0.length : Int) 1 _ _ l0 true _ ?side1 ?side2 A2.out).mono ?_); (case side1 => exact Kd.C_below HR0.out (sW_ HB.out)); (case side2 => exact HC0.out); rintro e w8 ⟨rfl, hb⟩; refine ⟨_, rfl, ?_⟩; have n0_ := Aside0.mk (blk_below (g := gb373) (o := .cells #[.int .i64 (l0.length : Int), .int .i64 1, .slice A0 l0.length c0] 27 (0, 0)) (by refine sB_ ?_; refine blk_put (cs := #[.int .i64 (l0.length : Int), .int .i64 1, .slice none 0 0]) ?_ 2 _ rfl; refine sB_ ?_; refine blk_put (cs := #[.int .i64 (l0.length : Int), .int .i64 0, .slice none 0 0]) ?_ 1 _ rfl; refine sB_ ?_; refine blk_put (cs := #[.int .i64 0, .int .i64 0, .slice none 0 0]) ?_ 0 _ rfl; refine sB_ ?_; exact BK373.out) hb); have n1_ := Aside0.mk (below_step (sW_ HB.out) hb); clear BK373 HB; have BK373 := n0_; have HB := n1_; clear n0_ n1_; (try clear hb); (try clear hb2); (try clear hk); (try clear hi)))
  have n0_ := Aside0.mk (blk_drew BK373.out)
  have n1_ := Aside0.mk (below_drew1 HB.out)
  clear BK373 HB; have BK373 := n0_; have HB := n1_; clear n0_ n1_
  refine start_ (n := 11) (S := fun w' => w'.cell? ⟨gb373, 0, none⟩ = some (.int .i64 (l0.length : Int)) ∧ w'.cell? ⟨gb373, 1, none⟩ = some (.int .i64 1) ∧ w'.cell? ⟨gb373, 2, none⟩ = some (.slice A0 l0.length c0)) (ds := []) #[false, false, false, false, false, false, false, false, false, false, false] (by kernel_rfl) rfl rfl ⟨(blk_cell BK373.out 0).trans rfl, (blk_cell BK373.out 1).trans rfl, (blk_cell BK373.out 2).trans rfl⟩ (fun hHeld => ?_); refine with_tabW impl_RowDots.tab4 impl_RowDots.bits4 (fun HT_ HW_ => ?_)
  generalize w8.drew = w9 at BK373 HB hHeld ⊢
  refine take_ (i := 1) (N := some 16) (v := ?_) (a' := ?_) #[false, true, false, false, false, false, false, false, false, false, false] rfl rfl (take_ofW HT_.out HW_.out (by kernel_rfl)) (fun _ _ _ h => h) (Or.inl ⟨by rfl, ?_⟩) hHeld ?_ ?_
  rotate_left
  ·rintro w' ⟨s0, s1, s2⟩
   go_simp
   with_reducible rfl
  rotate_left
  ·simp only [Act.put, List.setIfInBounds_toArray, List.set_cons_zero, List.set_cons_succ, i64_w, i32_w]
   rfl
  refine join_ (σ := Value × Value × Value × Nat) 3 #[true, true, true, true, true, true, true, true, false, false, false] (fun s_ => [(15, s_.1), (17, .tuple #[.agg #[.int .i64 t378, .int .i64 t379, s_.2.1], s_.2.2.1, .int .i64 t386]), (4, .pointer (some ⟨s_.2.2.2, 0, none⟩)), (14, .tuple #[.agg #[.int .i64 t378, .int .i64 t379, s_.2.1], s_.2.2.1, .int .i64 t386]), (18, .agg #[.int .i64 t378, .int .i64 t379, s_.2.1]), (19, s_.2.2.1), (20, .int .i64 t386)]) (fun s_ w' => (w'.cell? ⟨gb373, 0, none⟩ = some (.int .i64 (l0.length : Int)) ∧ w'.cell? ⟨gb373, 1, none⟩ = some (.int .i64 1) ∧ w'.cell? ⟨gb373, 2, none⟩ = some (.slice A0 l0.length c0)) ∧ (Kd.R k68 68 w' w.heap.size (fun _ => True) s_.1 t375) ∧ (Kd.R (Kd.int .i64) 3 w' w.heap.size (fun k_ => some k_ ≠ (s_.2.2.1 : Value).ownBlock) s_.2.1 t380) ∧ (Kd.R (Kd.int .i64) 3 w' w.heap.size (fun k_ => some k_ ≠ (s_.2.1 : Value).ownBlock) s_.2.2.1 t383) ∧ (w'.heap[gb373]? = some (.cells #[.int .i64 (l0.length : Int), .int .i64 1, .slice A0 l0.length c0] 27 (0, 0))) ∧ (w'.heap[s_.2.2.2]? = some (.cells #[.int .i64 0, .int .i64 0, .slice none 0 0] 27 (0, 0))) ∧ (w.heap.size ≤ s_.2.2.2) ∧ (w.heap.size ≤ s_.2.2.2) ∧ (gb373 ≠ s_.2.2.2) ∧ (s_.2.2.2 ≠ gb373) ∧ (Below w.heap.size w w')) ?_ ?_
  rotate_left
  ·intro hCont
   refine two_ (i := 0) (j := 7) (Ni := some 15) (Nj := some 4) #[true, true, false, false, false, false, false, false, false, false, false] #[false, true, false, false, false, false, false, true, false, false, false] rfl rfl rfl rfl (two_of HT_.out (by kernel_rfl)) (by decide) (by decide) (fun K hK => ?_) (fun K hK => ?_)
   ·skip
    refine goes_ Try.func39 (by kernel_rfl) rfl #[] (by rfl) rfl rfl sL_ ?_
    with_reducible refine (impl_PlainKernel.calls  t375 _ A4.out).mono ?_
    rintro e w10 ⟨v376, rfl, ho0, hb⟩
    refine ⟨_, rfl, ?_⟩
    have n0_ := Aside0.mk (Kd.R_lower ho0 (below_size (sW_ HB.out)))
    have n1_ := Aside0.mk (blk_below (sB_ BK373.out) hb)
    have n2_ := Aside0.mk (below_step (sW_ HB.out) hb)
    clear BK373 HB; have HO377 := n0_; have BK373 := n1_; have HB := n2_; clear n0_ n1_ n2_
    (try clear hb)
    (try clear hb2)
    (try clear hk)
    (try clear hi)
    (try clear ho0)
    obtain ⟨Ao11, co11, eo11⟩ := Kd.R_slice HO377.out
    (first | subst eo11 | (injection eo11 with f1_ f2_ f3_; have f4_ := f1_.symm; have f5_ := f3_.symm; clear f1_ f2_ f3_; subst f4_; subst f5_))
    refine hK.out _ _ ⟨(blk_cell BK373.out 0).trans rfl, (blk_cell BK373.out 1).trans rfl, (blk_cell BK373.out 2).trans rfl⟩ (fun hHeld => ?_)
    clear hK K
    refine norm_ (a' := ?_) ?_ ?_
    rotate_left
    ·show Act.put _ (some 15) _ = _
     simp only [Act.put, List.setIfInBounds_toArray, List.set_cons_zero, List.set_cons_succ, i64_w, i32_w]
     rfl
    refine two_ (i := 2) (j := 7) (Ni := some 17) (Nj := some 4) #[true, true, true, false, false, false, false, false, false, false, false] #[true, true, false, false, false, false, false, true, false, false, false] rfl rfl rfl rfl (two_of HT_.out (by kernel_rfl)) (by decide) (by decide) (fun K hK => ?_) (fun K hK => ?_)
    ·skip
     refine goes_ Try.func36 (by kernel_rfl) rfl #[.slice Ao11 t375.length co11, .agg #[.int .i64 (l0.length : Int), .int .i64 1, .slice A0 l0.length c0], .bool false] (by rfl) rfl rfl sL_ ?_
     with_reducible refine (impl_diffused.calls k _ _ t375 (l0.length : Int) 1 _ _ l0 false t378 t379 t380 t383 t386 _ ?side1 ?side2 ?side3 ?side4 A5.out).mono ?_
     (case side1 => repeat (first | exact (Kd.R_reads' HO377.out).2.2 | (with_reducible refine Kd.C_alloc ?_ _) | (with_reducible refine Kd.C_drewN ?_ _) | (with_reducible refine Kd.C_drew ?_)))
     (case side2 => exact (Kd.R_reads' HO377.out).2.1)
     (case side3 => repeat (first | exact (Kd.C_below HR0.out HB.out) | (with_reducible refine Kd.C_alloc ?_ _) | (with_reducible refine Kd.C_drewN ?_ _) | (with_reducible refine Kd.C_drew ?_)))
     (case side4 => exact HC0.out)
     rintro e w12 ⟨v381, v384, rfl, ho0, ho1, hb⟩
     refine ⟨_, rfl, ?_⟩
     have n0_ := Aside0.mk (Kd.R_below (sR_ HO377.out) hb)
     have n1_ := Aside0.mk (Kd.R_lower ho0 (below_size (sW_ HB.out)))
     have n2_ := Aside0.mk (Kd.R_lower ho1 (below_size (sW_ HB.out)))
     have n3_ := Aside0.mk (blk_below (sB_ BK373.out) hb)
     have n4_ := Aside0.mk (below_step (sW_ HB.out) hb)
     clear HO377 BK373 HB; have HO377 := n0_; have HO382 := n1_; have HO385 := n2_; have BK373 := n3_; have HB := n4_; clear n0_ n1_ n2_ n3_ n4_
     (try clear hb)
     (try clear hb2)
     (try clear hk)
     (try clear hi)
     (try clear ho0)
     (try clear ho1)
     refine hK.out _ _ ⟨(blk_cell BK373.out 0).trans rfl, (blk_cell BK373.out 1).trans rfl, (blk_cell BK373.out 2).trans rfl⟩ (fun hHeld => ?_)
     clear hK K
     refine norm_ (a' := ?_) ?_ ?_
     rotate_left
     ·show Act.put _ (some 17) _ = _
      simp only [Act.put, List.setIfInBounds_toArray, List.set_cons_zero, List.set_cons_succ, i64_w, i32_w]
      rfl
     refine pure_ (i := 3) (N := some 14) (v := ?_) (a' := ?_) #[true, true, true, true, false, false, false, false, false, false, false] rfl rfl (any_of HT_.out (by kernel_rfl)) (fun _ _ _ h => h) (Or.inl ⟨by rfl, ?_⟩) ?_ ?_
     rotate_left
     ·intro w'
      go_simp
      with_reducible rfl
     rotate_left
     ·simp only [Act.put, List.setIfInBounds_toArray, List.set_cons_zero, List.set_cons_succ, i64_w, i32_w]
      rfl
     refine pure_ (i := 4) (N := some 18) (v := ?_) (a' := ?_) #[true, true, true, true, true, false, false, false, false, false, false] rfl rfl (any_of HT_.out (by kernel_rfl)) (fun _ _ _ h => h) (Or.inl ⟨by rfl, ?_⟩) ?_ ?_
     rotate_left
     ·intro w'
      go_simp
      with_reducible rfl
     rotate_left
     ·simp only [Act.put, List.setIfInBounds_toArray, List.set_cons_zero, List.set_cons_succ, i64_w, i32_w]
      rfl
     refine pure_ (i := 5) (N := some 19) (v := ?_) (a' := ?_) #[true, true, true, true, true, true, false, false, false, false, false] rfl rfl (any_of HT_.out (by kernel_rfl)) (fun _ _ _ h => h) (Or.inl ⟨by rfl, ?_⟩) ?_ ?_
     rotate_left
     ·intro w'
      go_simp
      with_reducible rfl
     rotate_left
     ·simp only [Act.put, List.setIfInBounds_toArray, List.set_cons_zero, List.set_cons_succ, i64_w, i32_w]
      rfl
     refine pure_ (i := 6) (N := some 20) (v := ?_) (a' := ?_) #[true, true, true, true, true, true, true, false, false, false, false] rfl rfl (any_of HT_.out (by kernel_rfl)) (fun _ _ _ h => h) (Or.inl ⟨by rfl, ?_⟩) ?_ ?_
     rotate_left
     ·intro w'
      go_simp
      with_reducible rfl
     rotate_left
     ·simp only [Act.put, List.setIfInBounds_toArray, List.set_cons_zero, List.set_cons_succ, i64_w, i32_w]
      rfl
     refine one_ (i := 7) (N := some 4) #[true, true, true, true, true, true, true, true, false, false, false] rfl rfl (one_of HT_.out (by kernel_rfl)) (by decide) (fun K hK => ?_)
     refine box_step ?hg (N := 4) ?hd (cs := #[.int .i64 0, .int .i64 0, .slice none 0 0]) (t := 27) ?hr ?_; (case hd => rfl); (case hg => rfl); (case hr => first | (go_simp; done) | (go_simp; rfl))
     intro gb387 hg w13 hbox hb
     have n0_ := Aside0.mk (Kd.R_below (sR_ HO377.out) hb)
     have n1_ := Aside0.mk (Kd.R_below (sR_ HO382.out) hb)
     have n2_ := Aside0.mk (Kd.R_below (sR_ HO385.out) hb)
     have n3_ := Aside0.mk (blk_below (sB_ BK373.out) hb)
     have n4_ := Aside0.mk (below_step (sW_ HB.out) hb)
     have n5_ := Aside0.mk (hbox)
     have n6_ := Aside0.mk ((by rw [hg]; exact (below_size (sW_ HB.out)) : w.heap.size ≤ gb387))
     have n7_ := n6_
     have n8_ := Aside0.mk (sN_ hg (blk_lt (sB_ BK373.out)))
     have n9_ := Aside0.mk n8_.out.symm
     clear HO377 HO382 HO385 BK373 HB; have HO377 := n0_; have HO382 := n1_; have HO385 := n2_; have BK373 := n3_; have HB := n4_; have BK387 := n5_; have GW387 := n6_; have GE387 := n7_; have NB373_387 := n8_; have NB387_373 := n9_; clear n0_ n1_ n2_ n3_ n4_ n5_ n6_ n7_ n8_ n9_ hb hbox hg
     refine hK.out _ _ ⟨(blk_cell BK373.out 0).trans rfl, (blk_cell BK373.out 1).trans rfl, (blk_cell BK373.out 2).trans rfl⟩ (fun hHeld => ?_)
     clear hK K
     refine norm_ (a' := ?_) ?_ ?_
     rotate_left
     ·show Act.put _ (some 4) _ = _
      simp only [Act.put, List.setIfInBounds_toArray, List.set_cons_zero, List.set_cons_succ, i64_w, i32_w]
      rfl
     exact norm_ sP_ (hCont (.slice Ao11 t375.length co11, v381, v384, gb387) _ ⟨hHeld, (sR_ HO377.out), (sR_ HO382.out), (sR_ HO385.out), (sB_ BK373.out), (sB_ BK387.out), GW387.out, GE387.out, NB373_387.out, NB387_373.out, (sW_ HB.out)⟩)
    skip
    refine box_step ?hg (N := 4) ?hd (cs := #[.int .i64 0, .int .i64 0, .slice none 0 0]) (t := 27) ?hr ?_; (case hd => rfl); (case hg => rfl); (case hr => first | (go_simp; done) | (go_simp; rfl))
    intro gb387 hg w11 hbox hb
    have n0_ := Aside0.mk (Kd.R_below (sR_ HO377.out) hb)
    have n1_ := Aside0.mk (blk_below (sB_ BK373.out) hb)
    have n2_ := Aside0.mk (below_step (sW_ HB.out) hb)
    have n3_ := Aside0.mk (hbox)
    have n4_ := Aside0.mk ((by rw [hg]; exact (below_size (sW_ HB.out)) : w.heap.size ≤ gb387))
    have n5_ := n4_
    have n6_ := Aside0.mk (sN_ hg (blk_lt (sB_ BK373.out)))
    have n7_ := Aside0.mk n6_.out.symm
    clear HO377 BK373 HB; have HO377 := n0_; have BK373 := n1_; have HB := n2_; have BK387 := n3_; have GW387 := n4_; have GE387 := n5_; have NB373_387 := n6_; have NB387_373 := n7_; clear n0_ n1_ n2_ n3_ n4_ n5_ n6_ n7_ hb hbox hg
    obtain ⟨Ao12, co12, eo12⟩ := Kd.R_slice HO377.out
    (first | subst eo12 | (injection eo12 with f1_ f2_ f3_; have f4_ := f1_.symm; have f5_ := f3_.symm; clear f1_ f2_ f3_; subst f4_; subst f5_))
    refine hK.out _ _ ⟨(blk_cell BK373.out 0).trans rfl, (blk_cell BK373.out 1).trans rfl, (blk_cell BK373.out 2).trans rfl⟩ (fun hHeld => ?_)
    clear hK K
    refine norm_ (a' := ?_) ?_ ?_
    rotate_left
    ·show Act.put _ (some 4) _ = _
     simp only [Act.put, List.setIfInBounds_toArray, List.set_cons_zero, List.set_cons_succ, i64_w, i32_w]
     rfl
    refine one_ (i := 2) (N := some 17) #[true, true, true, false, false, false, false, true, false, false, false] rfl rfl (one_of HT_.out (by kernel_rfl)) (by decide) (fun K hK => ?_)
    refine goes_ Try.func36 (by kernel_rfl) rfl #[.slice Ao12 t375.length co12, .agg #[.int .i64 (l0.length : Int), .int .i64 1, .slice A0 l0.length c0], .bool false] (by rfl) rfl rfl sL_ ?_
    with_reducible refine (impl_diffused.calls k _ _ t375 (l0.length : Int) 1 _ _ l0 false t378 t379 t380 t383 t386 _ ?side1 ?side2 ?side3 ?side4 A5.out).mono ?_
    (case side1 => repeat (first | exact (Kd.R_reads' HO377.out).2.2 | (with_reducible refine Kd.C_alloc ?_ _) | (with_reducible refine Kd.C_drewN ?_ _) | (with_reducible refine Kd.C_drew ?_)))
    (case side2 => exact (Kd.R_reads' HO377.out).2.1)
    (case side3 => repeat (first | exact (Kd.C_below HR0.out HB.out) | (with_reducible refine Kd.C_alloc ?_ _) | (with_reducible refine Kd.C_drewN ?_ _) | (with_reducible refine Kd.C_drew ?_)))
    (case side4 => exact HC0.out)
    rintro e w13 ⟨v381, v384, rfl, ho0, ho1, hb⟩
    refine ⟨_, rfl, ?_⟩
    have n0_ := Aside0.mk (Kd.R_below (sR_ HO377.out) hb)
    have n1_ := Aside0.mk (Kd.R_lower ho0 (below_size (sW_ HB.out)))
    have n2_ := Aside0.mk (Kd.R_lower ho1 (below_size (sW_ HB.out)))
    have n3_ := Aside0.mk (blk_below (sB_ BK373.out) hb)
    have n4_ := Aside0.mk (blk_below (sB_ BK387.out) hb)
    have n5_ := Aside0.mk (below_step (sW_ HB.out) hb)
    clear HO377 BK373 BK387 HB; have HO377 := n0_; have HO382 := n1_; have HO385 := n2_; have BK373 := n3_; have BK387 := n4_; have HB := n5_; clear n0_ n1_ n2_ n3_ n4_ n5_
    (try clear hb)
    (try clear hb2)
    (try clear hk)
    (try clear hi)
    (try clear ho0)
    (try clear ho1)
    refine hK.out _ _ ⟨(blk_cell BK373.out 0).trans rfl, (blk_cell BK373.out 1).trans rfl, (blk_cell BK373.out 2).trans rfl⟩ (fun hHeld => ?_)
    clear hK K
    refine norm_ (a' := ?_) ?_ ?_
    rotate_left
    ·show Act.put _ (some 17) _ = _
     simp only [Act.put, List.setIfInBounds_toArray, List.set_cons_zero, List.set_cons_succ, i64_w, i32_w]
     rfl
    refine pure_ (i := 3) (N := some 14) (v := ?_) (a' := ?_) #[true, true, true, true, false, false, false, true, false, false, false] rfl rfl (any_of HT_.out (by kernel_rfl)) (fun _ _ _ h => h) (Or.inl ⟨by rfl, ?_⟩) ?_ ?_
    rotate_left
    ·intro w'
     go_simp
     with_reducible rfl
    rotate_left
    ·simp only [Act.put, List.setIfInBounds_toArray, List.set_cons_zero, List.set_cons_succ, i64_w, i32_w]
     rfl
    refine pure_ (i := 4) (N := some 18) (v := ?_) (a' := ?_) #[true, true, true, true, true, false, false, true, false, false, false] rfl rfl (any_of HT_.out (by kernel_rfl)) (fun _ _ _ h => h) (Or.inl ⟨by rfl, ?_⟩) ?_ ?_
    rotate_left
    ·intro w'
     go_simp
     with_reducible rfl
    rotate_left
    ·simp only [Act.put, List.setIfInBounds_toArray, List.set_cons_zero, List.set_cons_succ, i64_w, i32_w]
     rfl
    refine pure_ (i := 5) (N := some 19) (v := ?_) (a' := ?_) #[true, true, true, true, true, true, false, true, false, false, false] rfl rfl (any_of HT_.out (by kernel_rfl)) (fun _ _ _ h => h) (Or.inl ⟨by rfl, ?_⟩) ?_ ?_
    rotate_left
    ·intro w'
     go_simp
     with_reducible rfl
    rotate_left
    ·simp only [Act.put, List.setIfInBounds_toArray, List.set_cons_zero, List.set_cons_succ, i64_w, i32_w]
     rfl
    refine pure_ (i := 6) (N := some 20) (v := ?_) (a' := ?_) #[true, true, true, true, true, true, true, true, false, false, false] rfl rfl (any_of HT_.out (by kernel_rfl)) (fun _ _ _ h => h) (Or.inl ⟨by rfl, ?_⟩) ?_ ?_
    rotate_left
    ·intro w'
     go_simp
     with_reducible rfl
    rotate_left
    ·simp only [Act.put, List.setIfInBounds_toArray, List.set_cons_zero, List.set_cons_succ, i64_w, i32_w]
     rfl
    exact norm_ sP_ (hCont (.slice Ao12 t375.length co12, v381, v384, gb387) _ ⟨hHeld, (sR_ HO377.out), (sR_ HO382.out), (sR_ HO385.out), (sB_ BK373.out), (sB_ BK387.out), GW387.out, GE387.out, NB373_387.out, NB387_373.out, (sW_ HB.out)⟩)
   skip
   refine box_step ?hg (N := 4) ?hd (cs := #[.int .i64 0, .int .i64 0, .slice none 0 0]) (t := 27) ?hr ?_; (case hd => rfl); (case hg => rfl); (case hr => first | (go_simp; done) | (go_simp; rfl))
   intro gb387 hg w10 hbox hb
   have n0_ := Aside0.mk (blk_below (sB_ BK373.out) hb)
   have n1_ := Aside0.mk (below_step (sW_ HB.out) hb)
   have n2_ := Aside0.mk (hbox)
   have n3_ := Aside0.mk ((by rw [hg]; exact (below_size (sW_ HB.out)) : w.heap.size ≤ gb387))
   have n4_ := n3_
   have n5_ := Aside0.mk (sN_ hg (blk_lt (sB_ BK373.out)))
   have n6_ := Aside0.mk n5_.out.symm
   clear BK373 HB; have BK373 := n0_; have HB := n1_; have BK387 := n2_; have GW387 := n3_; have GE387 := n4_; have NB373_387 := n5_; have NB387_373 := n6_; clear n0_ n1_ n2_ n3_ n4_ n5_ n6_ hb hbox hg
   refine hK.out _ _ ⟨(blk_cell BK373.out 0).trans rfl, (blk_cell BK373.out 1).trans rfl, (blk_cell BK373.out 2).trans rfl⟩ (fun hHeld => ?_)
   clear hK K
   refine norm_ (a' := ?_) ?_ ?_
   rotate_left
   ·show Act.put _ (some 4) _ = _
    simp only [Act.put, List.setIfInBounds_toArray, List.set_cons_zero, List.set_cons_succ, i64_w, i32_w]
    rfl
   refine one_ (i := 0) (N := some 15) #[true, true, false, false, false, false, false, true, false, false, false] rfl rfl (one_of HT_.out (by kernel_rfl)) (by decide) (fun K hK => ?_)
   refine goes_ Try.func39 (by kernel_rfl) rfl #[] (by rfl) rfl rfl sL_ ?_
   with_reducible refine (impl_PlainKernel.calls  t375 _ A4.out).mono ?_
   rintro e w11 ⟨v376, rfl, ho0, hb⟩
   refine ⟨_, rfl, ?_⟩
   have n0_ := Aside0.mk (Kd.R_lower ho0 (below_size (sW_ HB.out)))
   have n1_ := Aside0.mk (blk_below (sB_ BK373.out) hb)
   have n2_ := Aside0.mk (blk_below (sB_ BK387.out) hb)
   have n3_ := Aside0.mk (below_step (sW_ HB.out) hb)
   clear BK373 BK387 HB; have HO377 := n0_; have BK373 := n1_; have BK387 := n2_; have HB := n3_; clear n0_ n1_ n2_ n3_
   (try clear hb)
   (try clear hb2)
   (try clear hk)
   (try clear hi)
   (try clear ho0)
   obtain ⟨Ao12, co12, eo12⟩ := Kd.R_slice HO377.out
   (first | subst eo12 | (injection eo12 with f1_ f2_ f3_; have f4_ := f1_.symm; have f5_ := f3_.symm; clear f1_ f2_ f3_; subst f4_; subst f5_))
   refine hK.out _ _ ⟨(blk_cell BK373.out 0).trans rfl, (blk_cell BK373.out 1).trans rfl, (blk_cell BK373.out 2).trans rfl⟩ (fun hHeld => ?_)
   clear hK K
   refine norm_ (a' := ?_) ?_ ?_
   rotate_left
   ·show Act.put _ (some 15) _ = _
    simp only [Act.put, List.setIfInBounds_toArray, List.set_cons_zero, List.set_cons_succ, i64_w, i32_w]
    rfl
   refine one_ (i := 2) (N := some 17) #[true, true, true, false, false, false, false, true, false, false, false] rfl rfl (one_of HT_.out (by kernel_rfl)) (by decide) (fun K hK => ?_)
   refine goes_ Try.func36 (by kernel_rfl) rfl #[.slice Ao12 t375.length co12, .agg #[.int .i64 (l0.length : Int), .int .i64 1, .slice A0 l0.length c0], .bool false] (by rfl) rfl rfl sL_ ?_
   with_reducible refine (impl_diffused.calls k _ _ t375 (l0.length : Int) 1 _ _ l0 false t378 t379 t380 t383 t386 _ ?side1 ?side2 ?side3 ?side4 A5.out).mono ?_
   (case side1 => repeat (first | exact (Kd.R_reads' HO377.out).2.2 | (with_reducible refine Kd.C_alloc ?_ _) | (with_reducible refine Kd.C_drewN ?_ _) | (with_reducible refine Kd.C_drew ?_)))
   (case side2 => exact (Kd.R_reads' HO377.out).2.1)
   (case side3 => repeat (first | exact (Kd.C_below HR0.out HB.out) | (with_reducible refine Kd.C_alloc ?_ _) | (with_reducible refine Kd.C_drewN ?_ _) | (with_reducible refine Kd.C_drew ?_)))
   (case side4 => exact HC0.out)
   rintro e w13 ⟨v381, v384, rfl, ho0, ho1, hb⟩
   refine ⟨_, rfl, ?_⟩
   have n0_ := Aside0.mk (Kd.R_below (sR_ HO377.out) hb)
   have n1_ := Aside0.mk (Kd.R_lower ho0 (below_size (sW_ HB.out)))
   have n2_ := Aside0.mk (Kd.R_lower ho1 (below_size (sW_ HB.out)))
   have n3_ := Aside0.mk (blk_below (sB_ BK373.out) hb)
   have n4_ := Aside0.mk (blk_below (sB_ BK387.out) hb)
   have n5_ := Aside0.mk (below_step (sW_ HB.out) hb)
   clear HO377 BK373 BK387 HB; have HO377 := n0_; have HO382 := n1_; have HO385 := n2_; have BK373 := n3_; have BK387 := n4_; have HB := n5_; clear n0_ n1_ n2_ n3_ n4_ n5_
   (try clear hb)
   (try clear hb2)
   (try clear hk)
   (try clear hi)
   (try clear ho0)
   (try clear ho1)
   refine hK.out _ _ ⟨(blk_cell BK373.out 0).trans rfl, (blk_cell BK373.out 1).trans rfl, (blk_cell BK373.out 2).trans rfl⟩ (fun hHeld => ?_)
   clear hK K
   refine norm_ (a' := ?_) ?_ ?_
   rotate_left
   ·show Act.put _ (some 17) _ = _
    simp only [Act.put, List.setIfInBounds_toArray, List.set_cons_zero, List.set_cons_succ, i64_w, i32_w]
    rfl
   refine pure_ (i := 3) (N := some 14) (v := ?_) (a' := ?_) #[true, true, true, true, false, false, false, true, false, false, false] rfl rfl (any_of HT_.out (by kernel_rfl)) (fun _ _ _ h => h) (Or.inl ⟨by rfl, ?_⟩) ?_ ?_
   rotate_left
   ·intro w'
    go_simp
    with_reducible rfl
   rotate_left
   ·simp only [Act.put, List.setIfInBounds_toArray, List.set_cons_zero, List.set_cons_succ, i64_w, i32_w]
    rfl
   refine pure_ (i := 4) (N := some 18) (v := ?_) (a' := ?_) #[true, true, true, true, true, false, false, true, false, false, false] rfl rfl (any_of HT_.out (by kernel_rfl)) (fun _ _ _ h => h) (Or.inl ⟨by rfl, ?_⟩) ?_ ?_
   rotate_left
   ·intro w'
    go_simp
    with_reducible rfl
   rotate_left
   ·simp only [Act.put, List.setIfInBounds_toArray, List.set_cons_zero, List.set_cons_succ, i64_w, i32_w]
    rfl
   refine pure_ (i := 5) (N := some 19) (v := ?_) (a' := ?_) #[true, true, true, true, true, true, false, true, false, false, false] rfl rfl (any_of HT_.out (by kernel_rfl)) (fun _ _ _ h => h) (Or.inl ⟨by rfl, ?_⟩) ?_ ?_
   rotate_left
   ·intro w'
    go_simp
    with_reducible rfl
   rotate_left
   ·simp only [Act.put, List.setIfInBounds_toArray, List.set_cons_zero, List.set_cons_succ, i64_w, i32_w]
    rfl
   refine pure_ (i := 6) (N := some 20) (v := ?_) (a' := ?_) #[true, true, true, true, true, true, true, true, false, false, false] rfl rfl (any_of HT_.out (by kernel_rfl)) (fun _ _ _ h => h) (Or.inl ⟨by rfl, ?_⟩) ?_ ?_
   rotate_left
   ·intro w'
    go_simp
    with_reducible rfl
   rotate_left
   ·simp only [Act.put, List.setIfInBounds_toArray, List.set_cons_zero, List.set_cons_succ, i64_w, i32_w]
    rfl
   exact norm_ sP_ (hCont (.slice Ao12 t375.length co12, v381, v384, gb387) _ ⟨hHeld, (sR_ HO377.out), (sR_ HO382.out), (sR_ HO385.out), (sB_ BK373.out), (sB_ BK387.out), GW387.out, GE387.out, NB373_387.out, NB387_373.out, (sW_ HB.out)⟩)
  rintro ⟨v376, v381, v384, gb387⟩ w14 ⟨hS_, h0_, h1_, h2_, h3_, h4_, h5_, h6_, h7_, h8_, h9_⟩
  have n0_ : Aside0 (Kd.R k68 68 w14 w.heap.size (fun _ => True) v376 t375) := ⟨h0_⟩
  have n1_ : Aside0 (Kd.R (Kd.int .i64) 3 w14 w.heap.size (fun k_ => some k_ ≠ (v384 : Value).ownBlock) v381 t380) := ⟨h1_⟩
  have n2_ : Aside0 (Kd.R (Kd.int .i64) 3 w14 w.heap.size (fun k_ => some k_ ≠ (v381 : Value).ownBlock) v384 t383) := ⟨h2_⟩
  have n3_ : Aside0 (w14.heap[gb373]? = some (.cells #[.int .i64 (l0.length : Int), .int .i64 1, .slice A0 l0.length c0] 27 (0, 0))) := ⟨h3_⟩
  have n4_ : Aside0 (w14.heap[gb387]? = some (.cells #[.int .i64 0, .int .i64 0, .slice none 0 0] 27 (0, 0))) := ⟨h4_⟩
  have n5_ : Aside0 (w.heap.size ≤ gb387) := ⟨h5_⟩
  have n6_ : Aside0 (w.heap.size ≤ gb387) := ⟨h6_⟩
  have n7_ : Aside0 (gb373 ≠ gb387) := ⟨h7_⟩
  have n8_ : Aside0 (gb387 ≠ gb373) := ⟨h8_⟩
  have n9_ : Aside0 (Below w.heap.size w w14) := ⟨h9_⟩
  clear BK373 HB h0_ h1_ h2_ h3_ h4_ h5_ h6_ h7_ h8_ h9_; have HO377 := n0_; have HO382 := n1_; have HO385 := n2_; have BK373 := n3_; have BK387 := n4_; have GW387 := n5_; have GE387 := n6_; have NB373_387 := n7_; have NB387_373 := n8_; have HB := n9_; clear n0_ n1_ n2_ n3_ n4_ n5_ n6_ n7_ n8_ n9_
  have hHeld : w14.cell? ⟨gb373, 0, none⟩ = some (.int .i64 (l0.length : Int)) ∧ w14.cell? ⟨gb373, 1, none⟩ = some (.int .i64 1) ∧ w14.cell? ⟨gb373, 2, none⟩ = some (.slice A0 l0.length c0) := hS_
  obtain ⟨Ao17, co17, eo17⟩ := Kd.R_slice HO382.out
  (first | subst eo17 | (injection eo17 with f1_ f2_ f3_; have f4_ := f1_.symm; have f5_ := f3_.symm; clear f1_ f2_ f3_; subst f4_; subst f5_))
  refine norm_ (a' := ?_) ?_ ?_
  rotate_left
  ·simp only [putAll, Act.put, List.setIfInBounds_toArray, List.set_cons_zero, List.set_cons_succ]
   rfl
  refine one_ (i := 8) (N := none) #[true, true, true, true, true, true, true, true, true, false, false] rfl rfl (one_of HT_.out (by kernel_rfl)) (by decide) (fun K hK => ?_)
  have hs15 : w14.cell? ⟨gb387, 0, none⟩ = some (.int .i64 0) := (blk_cell BK387.out 0).trans rfl
  have hfs15 := blk_frozen BK387.out 0
  have hns15_0 := NB373_387.out; have hms15_0 := NB387_373.out
  have hs16 : w14.cell? ⟨gb387, 1, none⟩ = some (.int .i64 0) := (blk_cell BK387.out 1).trans rfl
  have hfs16 := blk_frozen BK387.out 1
  have hns16_0 := NB373_387.out; have hms16_0 := NB387_373.out
  have hs18 : w14.cell? ⟨gb387, 2, none⟩ = some (.slice none 0 0) := (blk_cell BK387.out 2).trans rfl
  have hfs18 := blk_frozen BK387.out 2
  have hns18_0 := NB373_387.out; have hms18_0 := NB387_373.out
  refine skip_ (w1 := ?_) (by rfl) rfl ?_ ?_
  rotate_left
  ·go_simp
   rfl
  refine hK.out _ _ ⟨((cell_far (p := ⟨gb387, _, none⟩) NB373_387.out _).trans (((cell_far (p := ⟨gb387, _, none⟩) NB373_387.out _).trans (((cell_far (p := ⟨gb387, _, none⟩) NB373_387.out _).trans (hHeld.1)))))), ((cell_far (p := ⟨gb387, _, none⟩) NB373_387.out _).trans (((cell_far (p := ⟨gb387, _, none⟩) NB373_387.out _).trans (((cell_far (p := ⟨gb387, _, none⟩) NB373_387.out _).trans (hHeld.2.1)))))), ((cell_far (p := ⟨gb387, _, none⟩) NB373_387.out _).trans (((cell_far (p := ⟨gb387, _, none⟩) NB373_387.out _).trans (((cell_far (p := ⟨gb387, _, none⟩) NB373_387.out _).trans (hHeld.2.2))))))⟩ (fun hHeld => ?_)
  clear hK K
  refine pure_ (i := 9) (N := some 5) (v := ?_) (a' := ?_) #[true, true, true, true, true, true, true, true, true, true, false] rfl rfl (any_of HT_.out (by kernel_rfl)) (fun _ _ _ h => h) (Or.inl ⟨by rfl, ?_⟩) ?_ ?_
  rotate_left
  ·intro w'
   go_simp
   with_reducible rfl
  rotate_left
  ·simp only [Act.put, List.setIfInBounds_toArray, List.set_cons_zero, List.set_cons_succ, i64_w, i32_w]
   rfl
  refine pure_ (i := 10) (N := some 6) (v := ?_) (a' := ?_) #[true, true, true, true, true, true, true, true, true, true, true] rfl rfl (any_of HT_.out (by kernel_rfl)) (fun _ _ _ h => h) (Or.inl ⟨by rfl, ?_⟩) ?_ ?_
  rotate_left
  ·intro w'
   go_simp
   with_reducible rfl
  rotate_left
  ·simp only [Act.put, List.setIfInBounds_toArray, List.set_cons_zero, List.set_cons_succ, i64_w, i32_w]
   rfl
  refine done_ (done_of HT_.out (by kernel_rfl)) ?_
  have hnb19 := NB387_373.out; have hnc19 := NB373_387.out
  obtain ⟨hcz20_0, hcz20_1, hcz20_2, hfz20_0, hfz20_1, hfz20_2⟩ := sZ_ BK387.out
  try go_wp2
  go_ret
  exact ⟨_, by first | rfl | (simp [errW_none, errW_some] <;> rfl) | (simp [*, errW_none, errW_some] <;> rfl), by (with_reducible repeat (first | apply Kd.R_alloc | apply Kd.R_drewN | apply Kd.R_drew)); exact Kd.R_mono (Kd.R_far (p := ⟨gb387, 2, none⟩) (Kd.R_far (p := ⟨gb387, 1, none⟩) (Kd.R_far (p := ⟨gb387, 0, none⟩) (Kd.R_types HO382.out BK387.out (by decide)) (fun _ hk => hk.2) (.int .i64 t378)) (fun _ hk => hk.2) (.int .i64 t379)) (fun _ hk => hk.2) (.slice Ao17 t380.length co17)) (fun _ hk => trivial), by repeat (first | (with_reducible first | exact HB.out | apply below_alloc | apply pw_below_drewN | apply below_drew1 | refine below_set ?_ GE373.out | refine below_set ?_ GE387.out) | exact HB.out)⟩
 replace c3 := Bool.eq_false_iff.mpr c3
 subst c3
 have H1 : (some ([] : List Int)) = some r := by rw [if_neg (show ¬ (false = true) by decide)] at H; exact H
 clear H; have H := H1; clear H1
 obtain rfl := Option.some.inj H
 go_enter Try.func17, Try.ntmps17
 go_wp2_with (first | ((with_reducible refine gate_dst (N := 3) rfl ?_); refine box_event ?hg (N := 3) ?hd (cs := #[.int .i64 0, .int .i64 0, .slice none 0 0]) (t := 27) ?hr ?_; (case hd => rfl); (case hg => rfl); (case hr => first | (go_simp; done) | (go_simp; rfl)); intro gb373 hg w21 hbox hb; have n0_ := Aside0.mk (below_step (sW_ HB.out) hb); have n1_ := Aside0.mk (hbox); have n2_ := Aside0.mk ((by rw [hg]; exact (below_size (sW_ HB.out)) : w.heap.size ≤ gb373)); have n3_ := n2_; clear HB; have HB := n0_; have BK373 := n1_; have GW373 := n2_; have GE373 := n3_; clear n0_ n1_ n2_ n3_; clear hb hbox hg; obtain ⟨hcz22_0, hcz22_1, hcz22_2, hfz22_0, hfz22_1, hfz22_2⟩ := sZ_ BK373.out) | ((with_reducible refine gate_callee (f := 35) rfl ?_); refine goesL_ (some 12) rfl rfl Try.func35 (by kernel_rfl) rfl #[.agg #[.int .i64 (l0.length : Int), .int .i64 1, .slice A0 l0.length c0]] rfl sL_ ?_; (with_reducible refine (impl_IsPicture.calls (l0.length : Int) 1 _ _ l0 false _ ?side1 ?side2 A2.out).mono ?_); (case side1 => exact Kd.C_below HR0.out (sW_ HB.out)); (case side2 => exact HC0.out); rintro e w23 ⟨rfl, hb⟩; refine ⟨_, rfl, ?_⟩; have n0_ := Aside0.mk (blk_below (g := gb373) (o := .cells #[.int .i64 (l0.length : Int), .int .i64 1, .slice A0 l0.length c0] 27 (0, 0)) (by refine sB_ ?_; refine blk_put (cs := #[.int .i64 (l0.length : Int), .int .i64 1, .slice none 0 0]) ?_ 2 _ rfl; refine sB_ ?_; refine blk_put (cs := #[.int .i64 (l0.length : Int), .int .i64 0, .slice none 0 0]) ?_ 1 _ rfl; refine sB_ ?_; refine blk_put (cs := #[.int .i64 0, .int .i64 0, .slice none 0 0]) ?_ 0 _ rfl; refine sB_ ?_; exact BK373.out) hb); have n1_ := Aside0.mk (below_step (sW_ HB.out) hb); clear BK373 HB; have BK373 := n0_; have HB := n1_; clear n0_ n1_; (try clear hb); (try clear hb2); (try clear hk); (try clear hi)))
 go_ret
 exact ⟨_, by first | rfl | (simp [errW_none, errW_some] <;> rfl) | (simp [*, errW_none, errW_some] <;> rfl), by first | exact Kd.R_nil _ _ _ _ _ | exact Kd.N_nil _ _ _ _ _ | exact Kd.V_nil _ _ _ _ _ | exact Kd.Q_nil _ _ _ _ _ | exact Kd.S_nil _ _ _ _ _, by repeat (first | (with_reducible first | exact HB.out | apply below_alloc | apply pw_below_drewN | apply below_drew1 | refine below_set ?_ GE373.out) | exact HB.out)⟩

end Go.Proofs.Ytndnklicfibkeaa.P
