-- Written by tools/seatprint.py (over the kit's print, changed in memory). Not trusted: Lean checks it.
import Derived.Test.YtdlehfnlibddcaaP0
import Derived.Test.YtdlehfnlibddcaaFimplIsMatrix
import Derived.Test.YtdlehfnlibddcaaFimplDoubleMatrix
import Derived.Test.YtdlehfnlibddcaaFspecMakeMatrix
namespace Go.Proofs.Ytdlehfnlibddcaa.P
open Go.RowKit Go.Proofs.YtdlehfnlibddcaaW.PrintWords Go.Proofs.YtdlehfnlibddcaaW.PrintLast Go.Proofs.YtdlehfnlibddcaaW.PrintMore
attribute [local go_sem] max2_int min2_int max_two min_two max_three min_three max_four min_four   -- for this text's walks alone
set_option linter.unusedVariables false
set_option linter.unusedSimpArgs false

/-! ### laws_FnDoubled: function 11 -/
mutual
def laws_FnDoubled.j0 : Nat → Bool → Int → Int → List Int → Int → Int → List Int → Option (Bool)
  | 0, _, _, _, _, _, _, _ => none
  | k + 1, x50, x667000, x667001, x667002, x674000, x674001, x674002 => if x50 = true then (some false) else (laws_FnDoubled.l0 k x674002 (x674002.length : Int) 0 x667000 x667001 x667002 x674000 x674001 x674002)
def laws_FnDoubled.l0 : Nat → List Int → Int → Int → Int → Int → List Int → Int → Int → List Int → Option (Bool)
  | 0, _, _, _, _, _, _, _, _, _ => none
  | k + 1, x52, x53, x54, x667000, x667001, x667002, x674000, x674001, x674002 => if x54 < x53 then (if 0 ≤ x54 then (if x54 < (x52.length : Int) then (if x674000 = 0 then (none) else ((some (([0, 2, 3, 1] : List Int) : List Int)).bind fun y676 => (if x667000 = 0 then (none) else (if x667001 = 0 then (none) else (if 0 ≤ (wrap64 ((wrap64 (Int.tdiv (Int.tmod x54 x674000) x667000)) + (wrap64 (2 * (wrap64 (Int.tdiv (wrap64 (Int.tdiv x54 x674000)) x667001)))))) then (if (wrap64 ((wrap64 (Int.tdiv (Int.tmod x54 x674000) x667000)) + (wrap64 (2 * (wrap64 (Int.tdiv (wrap64 (Int.tdiv x54 x674000)) x667001)))))) < (y676.length : Int) then (if 0 ≤ (wrap64 ((wrap64 ((Int.tmod (wrap64 (Int.tdiv x54 x674000)) x667001) * x667000)) + (Int.tmod (Int.tmod x54 x674000) x667000))) then (if (wrap64 ((wrap64 ((Int.tmod (wrap64 (Int.tdiv x54 x674000)) x667001) * x667000)) + (Int.tmod (Int.tmod x54 x674000) x667000))) < (x667002.length : Int) then (if (rd x52 x54) = (wrap64 ((wrap64 (4 * (rd x667002 (wrap64 ((wrap64 ((Int.tmod (wrap64 (Int.tdiv x54 x674000)) x667001) * x667000)) + (Int.tmod (Int.tmod x54 x674000) x667000)))))) + (rd y676 (wrap64 ((wrap64 (Int.tdiv (Int.tmod x54 x674000) x667000)) + (wrap64 (2 * (wrap64 (Int.tdiv (wrap64 (Int.tdiv x54 x674000)) x667001))))))))) then (laws_FnDoubled.l0 k x52 x53 (wrap64 (x54 + 1)) x667000 x667001 x667002 x674000 x674001 x674002) else (some false)) else (none)) else (none)) else (none)) else (none)))))) else (none)) else (none)) else (some true)
end
def laws_FnDoubled.f (k : Nat) (l0 : List Int) : Option (Bool) := if (l0.length : Int) > 1048576 then (some true) else ((spec_MakeMatrix.f k l0).bind fun bt661 => ((impl_DoubleMatrix.f bt661.1 bt661.2.1 bt661.2.2).bind fun bt667 => (if (bt667.2.2.2 != (decide ((wrap64 (4 * (bt661.2.2.length : Int))) ≤ 256))) = true then (some false) else (if bt667.2.2.2 = true then ((impl_IsMatrix.f bt667.1 bt667.2.1 bt667.2.2.1).bind fun t674 => (if t674 = true then (if bt667.1 = (wrap64 (2 * bt661.1)) then (laws_FnDoubled.j0 k ((bt667.2.2.1.length : Int) != (wrap64 (4 * (bt661.2.2.length : Int)))) bt661.1 bt661.2.1 bt661.2.2 bt667.1 bt667.2.1 bt667.2.2.1) else (laws_FnDoubled.j0 k true bt661.1 bt661.2.1 bt661.2.2 bt667.1 bt667.2.1 bt667.2.2.1)) else (laws_FnDoubled.j0 k true bt661.1 bt661.2.1 bt661.2.2 bt667.1 bt667.2.1 bt667.2.2.1))) else (some true)))))
theorem laws_FnDoubled.mono_l : ∀ k, (∀ y0 y1 y2 y3 y4 y5 y6, LeO (laws_FnDoubled.j0 k y0 y1 y2 y3 y4 y5 y6) (laws_FnDoubled.j0 (k + 1) y0 y1 y2 y3 y4 y5 y6)) ∧ (∀ y0 y1 y2 y3 y4 y5 y6 y7 y8, LeO (laws_FnDoubled.l0 k y0 y1 y2 y3 y4 y5 y6 y7 y8) (laws_FnDoubled.l0 (k + 1) y0 y1 y2 y3 y4 y5 y6 y7 y8))
  | 0 => ⟨fun _ _ _ _ _ _ _ r h => by simp [laws_FnDoubled.j0] at h, fun _ _ _ _ _ _ _ _ _ r h => by simp [laws_FnDoubled.l0] at h⟩
  | k + 1 => by
    obtain ⟨ih0, ih1⟩ := laws_FnDoubled.mono_l k
    refine ⟨?_, ?_⟩
    · intro y0 y1 y2 y3 y4 y5 y6
      unfold laws_FnDoubled.j0
      repeat' first
      | (with_reducible exact ih0 _ _ _ _ _ _ _)
      | (with_reducible exact ih1 _ _ _ _ _ _ _ _ _)
      | (with_reducible exact spec_MakeMatrix.mono _ _)
      | (with_reducible exact LeO.refl _)
      | (with_reducible exact LeO.none _)
      | (with_reducible refine LeO.ite ?_ ?_)
      | (with_reducible refine LeO.bind ?_ (fun _ => ?_))
      | exact ih0 _ _ _ _ _ _ _
      | exact ih1 _ _ _ _ _ _ _ _ _
      | exact spec_MakeMatrix.mono _ _
      | exact LeO.none _
      | refine LeO.ite ?_ ?_
      | refine LeO.bind ?_ (fun _ => ?_)
    · intro y0 y1 y2 y3 y4 y5 y6 y7 y8
      unfold laws_FnDoubled.l0
      repeat' first
      | (with_reducible exact ih0 _ _ _ _ _ _ _)
      | (with_reducible exact ih1 _ _ _ _ _ _ _ _ _)
      | (with_reducible exact spec_MakeMatrix.mono _ _)
      | (with_reducible exact LeO.refl _)
      | (with_reducible exact LeO.none _)
      | (with_reducible refine LeO.ite ?_ ?_)
      | (with_reducible refine LeO.bind ?_ (fun _ => ?_))
      | exact ih0 _ _ _ _ _ _ _
      | exact ih1 _ _ _ _ _ _ _ _ _
      | exact spec_MakeMatrix.mono _ _
      | exact LeO.none _
      | refine LeO.ite ?_ ?_
      | refine LeO.bind ?_ (fun _ => ?_)
theorem laws_FnDoubled.mono : ∀ a0 k, LeO (laws_FnDoubled.f k a0) (laws_FnDoubled.f (k + 1) a0) := by
  intro a0 k
  obtain ⟨ih0, ih1⟩ := laws_FnDoubled.mono_l k
  unfold laws_FnDoubled.f
  repeat' first
      | (with_reducible exact ih0 _ _ _ _ _ _ _)
      | (with_reducible exact ih1 _ _ _ _ _ _ _ _ _)
      | (with_reducible exact spec_MakeMatrix.mono _ _)
      | (with_reducible exact LeO.refl _)
      | (with_reducible exact LeO.none _)
      | (with_reducible refine LeO.ite ?_ ?_)
      | (with_reducible refine LeO.bind ?_ (fun _ => ?_))
      | exact ih0 _ _ _ _ _ _ _
      | exact ih1 _ _ _ _ _ _ _ _ _
      | exact spec_MakeMatrix.mono _ _
      | exact LeO.none _
      | refine LeO.ite ?_ ?_
      | refine LeO.bind ?_ (fun _ => ?_)
def laws_FnDoubled.T16 : Bool × List (List Nat × List Nat) := (true, [([], []), ([], []), ([], []), ([2], [2]), ([1, 3], [1, 3]), ([], []), ([], []), ([6], [6]), ([5, 7], [5, 7]), ([8], [8]), ([4, 9], [4, 9]), ([0, 10], [0, 10]), ([11], [11]), ([12, 0, 1, 2, 3, 4, 5, 6, 7, 8, 9, 10, 11, 12], [12])])
def laws_FnDoubled.B16 : List Nat := [0, 0, 0, 4, 14, 0, 0, 64, 224, 480, 1022, 2047, 4095, 8191]
theorem laws_FnDoubled.tab16 : rtab .any (opsOf Try.f11 16) = laws_FnDoubled.T16 := by kernel_rfl
theorem laws_FnDoubled.bits16 : waitsOk laws_FnDoubled.T16.2 laws_FnDoubled.B16 = true := by kernel_rfl
def laws_FnDoubled.T17 : Bool × List (List Nat × List Nat) := (true, [([], []), ([], []), ([1], [1]), ([], []), ([], []), ([4], [4]), ([3, 5], [3, 5]), ([], []), ([7], [7]), ([6, 8], [6, 8]), ([], []), ([], []), ([11], [11]), ([10, 12], [10, 12]), ([9, 13], [9, 13]), ([2, 14], [2, 14]), ([15], [15]), ([16], [16]), ([], []), ([17, 18], [17, 18]), ([0, 19], [0, 19])])
def laws_FnDoubled.B17 : List Nat := [0, 0, 2, 0, 0, 16, 56, 0, 128, 504, 0, 0, 2048, 7168, 16376, 32766, 65534, 131070, 0, 524286, 1048575]
theorem laws_FnDoubled.tab17 : rtab .any (opsOf Try.f11 17) = laws_FnDoubled.T17 := by kernel_rfl
theorem laws_FnDoubled.bits17 : waitsOk laws_FnDoubled.T17.2 laws_FnDoubled.B17 = true := by kernel_rfl
set_option maxHeartbeats 8000000 in
set_option maxRecDepth 100000 in
theorem laws_FnDoubled.calls (k : Nat) (A0 : Option Addr) (c0 : Nat) (l0 : List Int) (r : Bool) (w : World) (hr0 : Kd.C (Kd.int .u8) w A0 l0.length l0) (hc0 : l0.length ≤ c0) (hT : Aside0 (r = true)) (h : laws_FnDoubled.f k l0 = some r) :
    Calls Try.prog 11 #[.slice A0 l0.length c0] w fun e w' => e = .returned (.bool r) ∧ Below w.heap.size w w' := by
  have hu26 := Try.underlying26
  have HR0 := Aside0.mk hr0
  have HC0 := Aside0.mk hc0
  clear hr0 hc0
  have HB := Aside0.mk (Below.refl w.heap.size w)
  have H : (if (l0.length : Int) > 1048576 then (some true) else ((spec_MakeMatrix.f k l0).bind fun bt661 => ((impl_DoubleMatrix.f bt661.1 bt661.2.1 bt661.2.2).bind fun bt667 => (if (bt667.2.2.2 != (decide ((wrap64 (4 * (bt661.2.2.length : Int))) ≤ 256))) = true then (some false) else (if bt667.2.2.2 = true then ((impl_IsMatrix.f bt667.1 bt667.2.1 bt667.2.2.1).bind fun t674 => (if t674 = true then (if bt667.1 = (wrap64 (2 * bt661.1)) then (laws_FnDoubled.j0 k ((bt667.2.2.1.length : Int) != (wrap64 (4 * (bt661.2.2.length : Int)))) bt661.1 bt661.2.1 bt661.2.2 bt667.1 bt667.2.1 bt667.2.2.1) else (laws_FnDoubled.j0 k true bt661.1 bt661.2.1 bt661.2.2 bt667.1 bt667.2.1 bt667.2.2.1)) else (laws_FnDoubled.j0 k true bt661.1 bt661.2.1 bt661.2.2 bt667.1 bt667.2.1 bt667.2.2.1))) else (some true)))))) = some r := h
  clear h
  by_cases c2 : (l0.length : Int) > 1048576
  · rw [if_pos c2] at H
    have c2b0 : decide (1048576 < (l0.length : Int)) = true := decide_eq_true c2
    have c2b1 : decide (1048576 < l0.length) = true := decide_eq_true (by omega)
    clear c2
    obtain rfl := Option.some.inj H
    go_enter Try.func11, Try.ntmps11
    go_wp2
    go_ret
    exact ⟨by first | rfl | (simp [errW_none, errW_some] <;> rfl) | (simp [*, errW_none, errW_some] <;> rfl), by repeat (first | (with_reducible first | exact HB.out | apply below_alloc | apply pw_below_drewN | apply below_drew1) | exact HB.out)⟩
  · rw [if_neg c2] at H
    have c2b0 : decide (1048576 < (l0.length : Int)) = false := decide_eq_false c2
    have c2b1 : decide (1048576 < l0.length) = false := decide_eq_false (by omega)
    clear c2
    replace H := Option.bind_eq_some_iff.mp H
    obtain ⟨⟨t661, t662, t663⟩, A30, H⟩ := H
    replace H : ((impl_DoubleMatrix.f t661 t662 t663).bind fun bt667 => (if (bt667.2.2.2 != (decide ((wrap64 (4 * (t663.length : Int))) ≤ 256))) = true then (some false) else (if bt667.2.2.2 = true then ((impl_IsMatrix.f bt667.1 bt667.2.1 bt667.2.2.1).bind fun t674 => (if t674 = true then (if bt667.1 = (wrap64 (2 * t661)) then (laws_FnDoubled.j0 k ((bt667.2.2.1.length : Int) != (wrap64 (4 * (t663.length : Int)))) t661 t662 t663 bt667.1 bt667.2.1 bt667.2.2.1) else (laws_FnDoubled.j0 k true t661 t662 t663 bt667.1 bt667.2.1 bt667.2.2.1)) else (laws_FnDoubled.j0 k true t661 t662 t663 bt667.1 bt667.2.1 bt667.2.2.1))) else (some true)))) = some r := H
    have A3 := Aside0.mk A30
    clear A30
    replace H := Option.bind_eq_some_iff.mp H
    obtain ⟨⟨t667, t668, t669, t672⟩, A40, H⟩ := H
    replace H : (if (t672 != (decide ((wrap64 (4 * (t663.length : Int))) ≤ 256))) = true then (some false) else (if t672 = true then ((impl_IsMatrix.f t667 t668 t669).bind fun t674 => (if t674 = true then (if t667 = (wrap64 (2 * t661)) then (laws_FnDoubled.j0 k ((t669.length : Int) != (wrap64 (4 * (t663.length : Int)))) t661 t662 t663 t667 t668 t669) else (laws_FnDoubled.j0 k true t661 t662 t663 t667 t668 t669)) else (laws_FnDoubled.j0 k true t661 t662 t663 t667 t668 t669))) else (some true))) = some r := H
    have A4 := Aside0.mk A40
    clear A40
    by_cases c5 : (t672 != (decide ((wrap64 (4 * (t663.length : Int))) ≤ 256))) = true
    · rw [if_pos c5] at H
      have c5b0 : (t672 != (decide ((wrap64 (4 * (t663.length : Int))) ≤ 256))) = true := c5
      (try (have c5b1 : decide (t672 = (decide ((wrap64 (4 * (t663.length : Int))) ≤ 256))) = false := by simpa using c5))
      (try (have c5b2 : (t672 == (decide ((wrap64 (4 * (t663.length : Int))) ≤ 256))) = false := by simpa using c5))
      (try (have c5b3 : ¬ (t672 = (decide ((wrap64 (4 * (t663.length : Int))) ≤ 256))) := by simpa using c5))
      clear c5
      exact absurd ((Option.some.inj H).trans hT.out) (by decide)
    · rw [if_neg c5] at H
      have c5b0 : (t672 != (decide ((wrap64 (4 * (t663.length : Int))) ≤ 256))) = false := by simpa using c5
      (try (have c5b1 : decide (t672 = (decide ((wrap64 (4 * (t663.length : Int))) ≤ 256))) = true := by simpa using c5))
      (try (have c5b2 : (t672 == (decide ((wrap64 (4 * (t663.length : Int))) ≤ 256))) = true := by simpa using c5))
      clear c5
      by_cases c6 : t672 = true
      · subst c6
        have H1 : ((impl_IsMatrix.f t667 t668 t669).bind fun t674 => (if t674 = true then (if t667 = (wrap64 (2 * t661)) then (laws_FnDoubled.j0 k ((t669.length : Int) != (wrap64 (4 * (t663.length : Int)))) t661 t662 t663 t667 t668 t669) else (laws_FnDoubled.j0 k true t661 t662 t663 t667 t668 t669)) else (laws_FnDoubled.j0 k true t661 t662 t663 t667 t668 t669))) = some r := by rw [if_pos rfl] at H; exact H
        clear H
        have H := H1
        clear H1
        have HC7 := Aside0.mk H
        clear H
        go_enter Try.func11, Try.ntmps11
        go_upto_region 9 with (first | ((with_reducible refine gate_callee (f := 37) rfl ?_); refine goesL_ (some 15) rfl rfl Try.func37 (by kernel_rfl) rfl #[.slice A0 l0.length c0] rfl (by (try simp only [List.map_toArray, List.map_cons, List.map_nil]); first | done | rfl | (simp only [List.length_drop, List.length_take]; rfl)) ?_; (with_reducible refine (spec_MakeMatrix.calls k _ _ l0 t661 t662 t663 _ ?side1 ?side2 A3.out).mono ?_); (case side1 => repeat (first | exact HR0.out | (with_reducible refine Kd.C_alloc ?_ _) | (with_reducible refine Kd.C_drewN ?_ _) | (with_reducible refine Kd.C_drew ?_))); (case side2 => exact HC0.out); rintro e w8 ⟨v664, rfl, ho0, hb⟩; refine ⟨_, rfl, ?_⟩; have n0_ := Aside0.mk (Kd.R_lower ho0 (below_size (by repeat (first | (with_reducible first | exact HB.out | apply below_alloc | apply pw_below_drewN | apply below_drew1) | exact HB.out)))); have n1_ := Aside0.mk (below_step (by repeat (first | (with_reducible first | exact HB.out | apply below_alloc | apply pw_below_drewN | apply below_drew1) | exact HB.out)) hb); clear HB; have HO665 := n0_; have HB := n1_; clear n0_ n1_; (try clear hb); (try clear hb2); (try clear hk); (try clear hi); (try clear ho0)) | ((with_reducible refine gate_dst (N := 3) rfl ?_); refine box_event ?hg (N := 3) ?hd (cs := #[.int .i64 0, .int .i64 0, .slice none 0 0]) (t := 26) ?hr ?_; (case hd => rfl); (case hg => rfl); (case hr => first | (go_simp; done) | (go_simp; rfl)); intro gb666 hg w9 hbox hb; have n0_ := Aside0.mk (Kd.R_below (by (with_reducible repeat (first | apply Kd.R_alloc | apply Kd.R_drewN | apply Kd.R_drew)); exact HO665.out) hb); have n1_ := Aside0.mk (below_step (by repeat (first | (with_reducible first | exact HB.out | apply below_alloc | apply pw_below_drewN | apply below_drew1) | exact HB.out)) hb); have n2_ := Aside0.mk (hbox); have n3_ := Aside0.mk ((by rw [hg]; exact (below_size (by repeat (first | (with_reducible first | exact HB.out | apply below_alloc | apply pw_below_drewN | apply below_drew1) | exact HB.out))) : w.heap.size ≤ gb666)); have n4_ := Aside0.mk ((by rw [hg]; exact (below_size (by repeat (first | (with_reducible first | exact HB.out | apply below_alloc | apply pw_below_drewN | apply below_drew1) | exact HB.out))) : w.heap.size ≤ gb666)); clear HO665; clear HB; have HO665 := n0_; have HB := n1_; have BK666 := n2_; have GW666 := n3_; have GE666 := n4_; clear n0_ n1_ n2_ n3_ n4_; clear hb hbox hg; have hcz10_0 : w9.cell? ⟨gb666, 0, none⟩ = some (.int .i64 0) := (blk_cell BK666.out 0).trans rfl; have hcz10_1 : w9.cell? ⟨gb666, 1, none⟩ = some (.int .i64 0) := (blk_cell BK666.out 1).trans rfl; have hcz10_2 : w9.cell? ⟨gb666, 2, none⟩ = some (.slice none 0 0) := (blk_cell BK666.out 2).trans rfl; have hfz10_0 := blk_frozen BK666.out 0; have hfz10_1 := blk_frozen BK666.out 1; have hfz10_2 := blk_frozen BK666.out 2; obtain ⟨Ao11, co11, eo11⟩ := Kd.R_slice HO665.out; subst eo11) | ((with_reducible refine gate_callee (f := 31) rfl ?_); refine goesL_ (some 18) rfl rfl Try.func31 (by kernel_rfl) rfl #[.agg #[.int .i64 t661, .int .i64 t662, .slice Ao11 t663.length co11]] rfl (by (try simp only [List.map_toArray, List.map_cons, List.map_nil]); first | done | rfl | (simp only [List.length_drop, List.length_take]; rfl)) ?_; (with_reducible refine (impl_DoubleMatrix.calls t661 t662 _ _ t663 t667 t668 t669 true _ ?side1 ?side2 A4.out).mono ?_); (case side1 => refine (Kd.R_reads' (e := 3) (base := w.heap.size) (ok := fun k_ => True) (n := t663.length) (c := co11) ?_).2.2; exact (by (with_reducible repeat (first | apply Kd.R_alloc | apply Kd.R_drewN | apply Kd.R_drew)); exact (Kd.R_mono (Kd.R_far (p := ⟨gb666, 2, none⟩) (Kd.R_far (p := ⟨gb666, 1, none⟩) (Kd.R_far (p := ⟨gb666, 0, none⟩) (Kd.R_types HO665.out BK666.out (by decide)) (fun _ hk => hk.2) (.int .i64 t661)) (fun _ hk => hk.2) (.int .i64 t662)) (fun _ hk => hk.2) (.slice Ao11 t663.length co11)) (fun _ h_ => h_.1)))); (case side2 => exact (Kd.R_reads' HO665.out).2.1); rintro e w12 ⟨v670, rfl, ho0, hb⟩; refine ⟨_, rfl, ?_⟩; have n0_ := Aside0.mk (Kd.R_elder' (by (with_reducible repeat (first | apply Kd.R_alloc | apply Kd.R_drewN | apply Kd.R_drew)); exact (Kd.R_mono (Kd.R_far (p := ⟨gb666, 2, none⟩) (Kd.R_far (p := ⟨gb666, 1, none⟩) (Kd.R_far (p := ⟨gb666, 0, none⟩) (Kd.R_types HO665.out BK666.out (by decide)) (fun _ hk => hk.2) (.int .i64 t661)) (fun _ hk => hk.2) (.int .i64 t662)) (fun _ hk => hk.2) (.slice Ao11 t663.length co11)) (fun _ h_ => h_.1))) (Kd.R_base ho0) hb); have n1_ := Aside0.mk (Kd.R_lower (Kd.R_new' ho0 (Kd.R_lt (by (with_reducible repeat (first | apply Kd.R_alloc | apply Kd.R_drewN | apply Kd.R_drew)); exact (Kd.R_mono (Kd.R_far (p := ⟨gb666, 2, none⟩) (Kd.R_far (p := ⟨gb666, 1, none⟩) (Kd.R_far (p := ⟨gb666, 0, none⟩) (Kd.R_types HO665.out BK666.out (by decide)) (fun _ hk => hk.2) (.int .i64 t661)) (fun _ hk => hk.2) (.int .i64 t662)) (fun _ hk => hk.2) (.slice Ao11 t663.length co11)) (fun _ h_ => h_.1))))) (below_size (by repeat (first | (with_reducible first | exact HB.out | apply below_alloc | apply pw_below_drewN | apply below_drew1 | refine below_set ?_ GE666.out) | exact HB.out)))); have n2_ := Aside0.mk (blk_below (g := gb666) (o := .cells #[.int .i64 t661, .int .i64 t662, .slice Ao11 t663.length co11] 26 (0, 0)) (by (with_reducible repeat (first | refine blk_drewN ?_ _ | refine blk_drew ?_ | refine blk_alloc ?_ _)); refine blk_put (cs := #[.int .i64 t661, .int .i64 t662, .slice none 0 0]) ?_ 2 _ rfl; (with_reducible repeat (first | refine blk_drewN ?_ _ | refine blk_drew ?_ | refine blk_alloc ?_ _)); refine blk_put (cs := #[.int .i64 t661, .int .i64 0, .slice none 0 0]) ?_ 1 _ rfl; (with_reducible repeat (first | refine blk_drewN ?_ _ | refine blk_drew ?_ | refine blk_alloc ?_ _)); refine blk_put (cs := #[.int .i64 0, .int .i64 0, .slice none 0 0]) ?_ 0 _ rfl; (with_reducible repeat (first | refine blk_drewN ?_ _ | refine blk_drew ?_ | refine blk_alloc ?_ _)); exact BK666.out) hb); have n3_ := Aside0.mk (below_step (by repeat (first | (with_reducible first | exact HB.out | apply below_alloc | apply pw_below_drewN | apply below_drew1 | refine below_set ?_ GE666.out) | exact HB.out)) hb); clear HO665; clear BK666; clear HB; have HO665 := n0_; have HO671 := n1_; have BK666 := n2_; have HB := n3_; clear n0_ n1_ n2_ n3_; (try clear hb); (try clear hb2); (try clear hk); (try clear hi); (try clear ho0)) | ((with_reducible refine gate_dst (N := 4) rfl ?_); refine box_event ?hg (N := 4) ?hd (cs := #[.int .i64 0, .int .i64 0, .slice none 0 0]) (t := 26) ?hr ?_; (case hd => rfl); (case hg => rfl); (case hr => first | (go_simp; done) | (go_simp; rfl)); intro gb673 hg w13 hbox hb; have n0_ := Aside0.mk (Kd.R_below (by (with_reducible repeat (first | apply Kd.R_alloc | apply Kd.R_drewN | apply Kd.R_drew)); exact HO665.out) hb); have n1_ := Aside0.mk (Kd.R_below (by (with_reducible repeat (first | apply Kd.R_alloc | apply Kd.R_drewN | apply Kd.R_drew)); exact HO671.out) hb); have n2_ := Aside0.mk (blk_below (g := gb666) (o := .cells #[.int .i64 t661, .int .i64 t662, .slice Ao11 t663.length co11] 26 (0, 0)) (by (with_reducible repeat (first | refine blk_drewN ?_ _ | refine blk_drew ?_ | refine blk_alloc ?_ _)); exact BK666.out) hb); have n3_ := Aside0.mk (below_step (by repeat (first | (with_reducible first | exact HB.out | apply below_alloc | apply pw_below_drewN | apply below_drew1 | refine below_set ?_ GE666.out) | exact HB.out)) hb); have n4_ := Aside0.mk (hbox); have n5_ := Aside0.mk ((by rw [hg]; exact (below_size (by repeat (first | (with_reducible first | exact HB.out | apply below_alloc | apply pw_below_drewN | apply below_drew1 | refine below_set ?_ GE666.out) | exact HB.out))) : w.heap.size ≤ gb673)); have n6_ := Aside0.mk ((by rw [hg]; exact (below_size (by repeat (first | (with_reducible first | exact HB.out | apply below_alloc | apply pw_below_drewN | apply below_drew1 | refine below_set ?_ GE666.out) | exact HB.out))) : w.heap.size ≤ gb673)); have n7_ := Aside0.mk ((by rw [hg]; exact Nat.ne_of_lt (blk_lt (g := gb666) (o := .cells #[.int .i64 t661, .int .i64 t662, .slice Ao11 t663.length co11] 26 (0, 0)) (by (with_reducible repeat (first | refine blk_drewN ?_ _ | refine blk_drew ?_ | refine blk_alloc ?_ _)); exact BK666.out)) : gb666 ≠ gb673)); have n8_ := Aside0.mk ((by rw [hg]; exact Nat.ne_of_gt (blk_lt (g := gb666) (o := .cells #[.int .i64 t661, .int .i64 t662, .slice Ao11 t663.length co11] 26 (0, 0)) (by (with_reducible repeat (first | refine blk_drewN ?_ _ | refine blk_drew ?_ | refine blk_alloc ?_ _)); exact BK666.out)) : gb673 ≠ gb666)); clear HO665; clear HO671; clear BK666; clear HB; have HO665 := n0_; have HO671 := n1_; have BK666 := n2_; have HB := n3_; have BK673 := n4_; have GW673 := n5_; have GE673 := n6_; have NB666_673 := n7_; have NB673_666 := n8_; clear n0_ n1_ n2_ n3_ n4_ n5_ n6_ n7_ n8_; clear hb hbox hg; have hnb14 := NB673_666.out; have hnc14 := NB666_673.out; have hcz15_0 : w13.cell? ⟨gb673, 0, none⟩ = some (.int .i64 0) := (blk_cell BK673.out 0).trans rfl; have hcz15_1 : w13.cell? ⟨gb673, 1, none⟩ = some (.int .i64 0) := (blk_cell BK673.out 1).trans rfl; have hcz15_2 : w13.cell? ⟨gb673, 2, none⟩ = some (.slice none 0 0) := (blk_cell BK673.out 2).trans rfl; have hfz15_0 := blk_frozen BK673.out 0; have hfz15_1 := blk_frozen BK673.out 1; have hfz15_2 := blk_frozen BK673.out 2; obtain ⟨Ao16, co16, eo16⟩ := Kd.R_slice HO671.out; subst eo16; have hcz17_0 : w13.cell? ⟨gb666, 0, none⟩ = some (.int .i64 t661) := (blk_cell BK666.out 0).trans rfl; have hcz17_1 : w13.cell? ⟨gb666, 1, none⟩ = some (.int .i64 t662) := (blk_cell BK666.out 1).trans rfl; have hcz17_2 : w13.cell? ⟨gb666, 2, none⟩ = some (.slice Ao11 t663.length co11) := (blk_cell BK666.out 2).trans rfl; have hfz17_0 := blk_frozen BK666.out 0; have hfz17_1 := blk_frozen BK666.out 1; have hfz17_2 := blk_frozen BK666.out 2))
        (try simp only [Act.put, List.setIfInBounds_toArray, List.set_cons_zero, List.set_cons_succ])
        go_cut [50] (fun v50 wc => ∃ (kq : Nat) (x50_6 : Bool), v50 = .bool x50_6 ∧ Aside0 (laws_FnDoubled.j0 kq x50_6 t661 t662 t663 t667 t668 t669 = some r) ∧ Aside0 (kq ≤ k) ∧ Aside0 (Kd.R (Kd.int .i64) 3 wc w.heap.size (fun k_ => some k_ ≠ ((.slice Ao16 t669.length co16) : Value).ownBlock) (.slice Ao11 t663.length co11) t663) ∧ Aside0 (Kd.R (Kd.int .i64) 3 wc w.heap.size (fun k_ => some k_ ≠ ((.slice Ao11 t663.length co11) : Value).ownBlock) (.slice Ao16 t669.length co16) t669) ∧ Aside0 (wc.heap[gb666]? = some (.cells #[.int .i64 t661, .int .i64 t662, (.slice Ao11 t663.length co11)] 26 (0, 0))) ∧ Aside0 (wc.heap[gb673]? = some (.cells #[.int .i64 t667, .int .i64 t668, (.slice Ao16 t669.length co16)] 26 (0, 0))) ∧ Aside0 (Below w.heap.size w wc))
        case first =>
          have H := HC7.out
          clear HC7
          replace H := Option.bind_eq_some_iff.mp H
          obtain ⟨t674, A180, H⟩ := H
          replace H : (if t674 = true then (if t667 = (wrap64 (2 * t661)) then (laws_FnDoubled.j0 k ((t669.length : Int) != (wrap64 (4 * (t663.length : Int)))) t661 t662 t663 t667 t668 t669) else (laws_FnDoubled.j0 k true t661 t662 t663 t667 t668 t669)) else (laws_FnDoubled.j0 k true t661 t662 t663 t667 t668 t669)) = some r := H
          have A18 := Aside0.mk A180
          clear A180
          by_cases c19 : t674 = true
          · subst c19
            have H1 : (if t667 = (wrap64 (2 * t661)) then (laws_FnDoubled.j0 k ((t669.length : Int) != (wrap64 (4 * (t663.length : Int)))) t661 t662 t663 t667 t668 t669) else (laws_FnDoubled.j0 k true t661 t662 t663 t667 t668 t669)) = some r := by rw [if_pos rfl] at H; exact H
            clear H
            have H := H1
            clear H1
            by_cases c20 : t667 = (wrap64 (2 * t661))
            · rw [if_pos c20] at H
              have c20b0 : (t667 == (wrap64 (2 * t661))) = true := beq_iff_eq.mpr c20
              have c20b1 : (t667 != (wrap64 (2 * t661))) = false := bne_eq_false_iff_eq.mpr c20
              clear c20
              (first | rw [c20b0] | (simp only [i64_w, i32_w]; rw [c20b0]) | skip)
              have H' := Aside0.mk H
              clear H
              have hnb21 := NB673_666.out
              have hnc21 := NB666_673.out
              have hcz22_0 : w13.cell? ⟨gb673, 0, none⟩ = some (.int .i64 0) := (blk_cell BK673.out 0).trans rfl
              have hcz22_1 : w13.cell? ⟨gb673, 1, none⟩ = some (.int .i64 0) := (blk_cell BK673.out 1).trans rfl
              have hcz22_2 : w13.cell? ⟨gb673, 2, none⟩ = some (.slice none 0 0) := (blk_cell BK673.out 2).trans rfl
              have hfz22_0 := blk_frozen BK673.out 0
              have hfz22_1 := blk_frozen BK673.out 1
              have hfz22_2 := blk_frozen BK673.out 2
              go_wp2_with (first | ((with_reducible refine gate_callee (f := 28) rfl ?_); refine goesL_ (some 31) rfl rfl Try.func28 (by kernel_rfl) rfl #[.agg #[.int .i64 t667, .int .i64 t668, .slice Ao16 t669.length co16]] rfl (by (try simp only [List.map_toArray, List.map_cons, List.map_nil]); first | done | rfl | (simp only [List.length_drop, List.length_take]; rfl)) ?_; (with_reducible refine (impl_IsMatrix.calls t667 t668 _ _ t669 true _ ?side1 ?side2 A18.out).mono ?_); (case side1 => refine (Kd.R_reads' (e := 3) (base := w.heap.size) (ok := fun k_ => (True ∧ some k_ ≠ (.slice Ao11 t663.length co11 : Value).ownBlock)) (n := t669.length) (c := co16) ?_).2.2; exact (by (with_reducible repeat (first | apply Kd.R_alloc | apply Kd.R_drewN | apply Kd.R_drew)); exact (Kd.R_mono (Kd.R_far (p := ⟨gb673, 2, none⟩) (Kd.R_far (p := ⟨gb673, 1, none⟩) (Kd.R_far (p := ⟨gb673, 0, none⟩) (Kd.R_types HO671.out BK673.out (by decide)) (fun _ hk => hk.2) (.int .i64 t667)) (fun _ hk => hk.2) (.int .i64 t668)) (fun _ hk => hk.2) (.slice Ao16 t669.length co16)) (fun _ h_ => h_.1)))); (case side2 => exact (Kd.R_reads' HO671.out).2.1); rintro e w23 ⟨rfl, hb⟩; refine ⟨_, rfl, ?_⟩; have n0_ := Aside0.mk (Kd.R_below (by (with_reducible repeat (first | apply Kd.R_alloc | apply Kd.R_drewN | apply Kd.R_drew)); exact (Kd.R_mono (Kd.R_far (p := ⟨gb673, 2, none⟩) (Kd.R_far (p := ⟨gb673, 1, none⟩) (Kd.R_far (p := ⟨gb673, 0, none⟩) (Kd.R_types HO665.out BK673.out (by decide)) (fun _ hk => hk.2) (.int .i64 t667)) (fun _ hk => hk.2) (.int .i64 t668)) (fun _ hk => hk.2) (.slice Ao16 t669.length co16)) (fun _ h_ => h_.1))) hb); have n1_ := Aside0.mk (Kd.R_below (by (with_reducible repeat (first | apply Kd.R_alloc | apply Kd.R_drewN | apply Kd.R_drew)); exact (Kd.R_mono (Kd.R_far (p := ⟨gb673, 2, none⟩) (Kd.R_far (p := ⟨gb673, 1, none⟩) (Kd.R_far (p := ⟨gb673, 0, none⟩) (Kd.R_types HO671.out BK673.out (by decide)) (fun _ hk => hk.2) (.int .i64 t667)) (fun _ hk => hk.2) (.int .i64 t668)) (fun _ hk => hk.2) (.slice Ao16 t669.length co16)) (fun _ h_ => h_.1))) hb); have n2_ := Aside0.mk (blk_below (g := gb666) (o := .cells #[.int .i64 t661, .int .i64 t662, .slice Ao11 t663.length co11] 26 (0, 0)) (by (with_reducible repeat (first | refine blk_drewN ?_ _ | refine blk_drew ?_ | refine blk_alloc ?_ _)); refine blk_far ?_ NB666_673.out _; (with_reducible repeat (first | refine blk_drewN ?_ _ | refine blk_drew ?_ | refine blk_alloc ?_ _)); refine blk_far ?_ NB666_673.out _; (with_reducible repeat (first | refine blk_drewN ?_ _ | refine blk_drew ?_ | refine blk_alloc ?_ _)); refine blk_far ?_ NB666_673.out _; (with_reducible repeat (first | refine blk_drewN ?_ _ | refine blk_drew ?_ | refine blk_alloc ?_ _)); exact BK666.out) hb); have n3_ := Aside0.mk (blk_below (g := gb673) (o := .cells #[.int .i64 t667, .int .i64 t668, .slice Ao16 t669.length co16] 26 (0, 0)) (by (with_reducible repeat (first | refine blk_drewN ?_ _ | refine blk_drew ?_ | refine blk_alloc ?_ _)); refine blk_put (cs := #[.int .i64 t667, .int .i64 t668, .slice none 0 0]) ?_ 2 _ rfl; (with_reducible repeat (first | refine blk_drewN ?_ _ | refine blk_drew ?_ | refine blk_alloc ?_ _)); refine blk_put (cs := #[.int .i64 t667, .int .i64 0, .slice none 0 0]) ?_ 1 _ rfl; (with_reducible repeat (first | refine blk_drewN ?_ _ | refine blk_drew ?_ | refine blk_alloc ?_ _)); refine blk_put (cs := #[.int .i64 0, .int .i64 0, .slice none 0 0]) ?_ 0 _ rfl; (with_reducible repeat (first | refine blk_drewN ?_ _ | refine blk_drew ?_ | refine blk_alloc ?_ _)); exact BK673.out) hb); have n4_ := Aside0.mk (below_step (by repeat (first | (with_reducible first | exact HB.out | apply below_alloc | apply pw_below_drewN | apply below_drew1 | refine below_set ?_ GE666.out | refine below_set ?_ GE673.out) | exact HB.out)) hb); clear HO665; clear HO671; clear BK666; clear BK673; clear HB; have HO665 := n0_; have HO671 := n1_; have BK666 := n2_; have BK673 := n3_; have HB := n4_; clear n0_ n1_ n2_ n3_ n4_; (try clear hb); (try clear hb2); (try clear hk); (try clear hi); have hcz24_0 : w23.cell? ⟨gb673, 0, none⟩ = some (.int .i64 t667) := (blk_cell BK673.out 0).trans rfl; have hcz24_1 : w23.cell? ⟨gb673, 1, none⟩ = some (.int .i64 t668) := (blk_cell BK673.out 1).trans rfl; have hcz24_2 : w23.cell? ⟨gb673, 2, none⟩ = some (.slice Ao16 t669.length co16) := (blk_cell BK673.out 2).trans rfl; have hfz24_0 := blk_frozen BK673.out 0; have hfz24_1 := blk_frozen BK673.out 1; have hfz24_2 := blk_frozen BK673.out 2; have hcz25_0 : w23.cell? ⟨gb666, 0, none⟩ = some (.int .i64 t661) := (blk_cell BK666.out 0).trans rfl; have hcz25_1 : w23.cell? ⟨gb666, 1, none⟩ = some (.int .i64 t662) := (blk_cell BK666.out 1).trans rfl; have hcz25_2 : w23.cell? ⟨gb666, 2, none⟩ = some (.slice Ao11 t663.length co11) := (blk_cell BK666.out 2).trans rfl; have hfz25_0 := blk_frozen BK666.out 0; have hfz25_1 := blk_frozen BK666.out 1; have hfz25_2 := blk_frozen BK666.out 2))
              go_meet
              case rel => exact ⟨_, (((t669.length : Int) != (wrap64 (4 * (t663.length : Int))))), (by first | rfl | (simp; done) | (simp [*]; done)), H', ⟨by first | omega | exact Nat.le_refl _⟩, ⟨by (with_reducible repeat (first | apply Kd.R_alloc | apply Kd.R_drewN | apply Kd.R_drew)); exact Kd.R_mono HO665.out (fun _ hk => hk.2)⟩, ⟨by (with_reducible repeat (first | apply Kd.R_alloc | apply Kd.R_drewN | apply Kd.R_drew)); exact Kd.R_mono HO671.out (fun _ hk => hk.2)⟩, ⟨by (with_reducible repeat (first | refine blk_drewN ?_ _ | refine blk_drew ?_ | refine blk_alloc ?_ _)); exact BK666.out⟩, ⟨by (with_reducible repeat (first | refine blk_drewN ?_ _ | refine blk_drew ?_ | refine blk_alloc ?_ _)); exact BK673.out⟩, ⟨by repeat (first | (with_reducible first | exact HB.out | apply below_alloc | apply pw_below_drewN | apply below_drew1 | refine below_set ?_ GE666.out | refine below_set ?_ GE673.out) | exact HB.out)⟩⟩
            · rw [if_neg c20] at H
              have c20b0 : (t667 == (wrap64 (2 * t661))) = false := beq_eq_false_iff_ne.mpr c20
              have c20b1 : (t667 != (wrap64 (2 * t661))) = true := bne_iff_ne.mpr c20
              (first | rw [c20b0] | (simp only [i64_w, i32_w]; rw [c20b0]) | skip)
              have H' := Aside0.mk H
              clear H
              have hnb26 := NB673_666.out
              have hnc26 := NB666_673.out
              have hcz27_0 : w13.cell? ⟨gb673, 0, none⟩ = some (.int .i64 0) := (blk_cell BK673.out 0).trans rfl
              have hcz27_1 : w13.cell? ⟨gb673, 1, none⟩ = some (.int .i64 0) := (blk_cell BK673.out 1).trans rfl
              have hcz27_2 : w13.cell? ⟨gb673, 2, none⟩ = some (.slice none 0 0) := (blk_cell BK673.out 2).trans rfl
              have hfz27_0 := blk_frozen BK673.out 0
              have hfz27_1 := blk_frozen BK673.out 1
              have hfz27_2 := blk_frozen BK673.out 2
              go_wp2_with (first | ((with_reducible refine gate_callee (f := 28) rfl ?_); refine goesL_ (some 31) rfl rfl Try.func28 (by kernel_rfl) rfl #[.agg #[.int .i64 t667, .int .i64 t668, .slice Ao16 t669.length co16]] rfl (by (try simp only [List.map_toArray, List.map_cons, List.map_nil]); first | done | rfl | (simp only [List.length_drop, List.length_take]; rfl)) ?_; (with_reducible refine (impl_IsMatrix.calls t667 t668 _ _ t669 true _ ?side1 ?side2 A18.out).mono ?_); (case side1 => refine (Kd.R_reads' (e := 3) (base := w.heap.size) (ok := fun k_ => (True ∧ some k_ ≠ (.slice Ao11 t663.length co11 : Value).ownBlock)) (n := t669.length) (c := co16) ?_).2.2; exact (by (with_reducible repeat (first | apply Kd.R_alloc | apply Kd.R_drewN | apply Kd.R_drew)); exact (Kd.R_mono (Kd.R_far (p := ⟨gb673, 2, none⟩) (Kd.R_far (p := ⟨gb673, 1, none⟩) (Kd.R_far (p := ⟨gb673, 0, none⟩) (Kd.R_types HO671.out BK673.out (by decide)) (fun _ hk => hk.2) (.int .i64 t667)) (fun _ hk => hk.2) (.int .i64 t668)) (fun _ hk => hk.2) (.slice Ao16 t669.length co16)) (fun _ h_ => h_.1)))); (case side2 => exact (Kd.R_reads' HO671.out).2.1); rintro e w28 ⟨rfl, hb⟩; refine ⟨_, rfl, ?_⟩; have n0_ := Aside0.mk (Kd.R_below (by (with_reducible repeat (first | apply Kd.R_alloc | apply Kd.R_drewN | apply Kd.R_drew)); exact (Kd.R_mono (Kd.R_far (p := ⟨gb673, 2, none⟩) (Kd.R_far (p := ⟨gb673, 1, none⟩) (Kd.R_far (p := ⟨gb673, 0, none⟩) (Kd.R_types HO665.out BK673.out (by decide)) (fun _ hk => hk.2) (.int .i64 t667)) (fun _ hk => hk.2) (.int .i64 t668)) (fun _ hk => hk.2) (.slice Ao16 t669.length co16)) (fun _ h_ => h_.1))) hb); have n1_ := Aside0.mk (Kd.R_below (by (with_reducible repeat (first | apply Kd.R_alloc | apply Kd.R_drewN | apply Kd.R_drew)); exact (Kd.R_mono (Kd.R_far (p := ⟨gb673, 2, none⟩) (Kd.R_far (p := ⟨gb673, 1, none⟩) (Kd.R_far (p := ⟨gb673, 0, none⟩) (Kd.R_types HO671.out BK673.out (by decide)) (fun _ hk => hk.2) (.int .i64 t667)) (fun _ hk => hk.2) (.int .i64 t668)) (fun _ hk => hk.2) (.slice Ao16 t669.length co16)) (fun _ h_ => h_.1))) hb); have n2_ := Aside0.mk (blk_below (g := gb666) (o := .cells #[.int .i64 t661, .int .i64 t662, .slice Ao11 t663.length co11] 26 (0, 0)) (by (with_reducible repeat (first | refine blk_drewN ?_ _ | refine blk_drew ?_ | refine blk_alloc ?_ _)); refine blk_far ?_ NB666_673.out _; (with_reducible repeat (first | refine blk_drewN ?_ _ | refine blk_drew ?_ | refine blk_alloc ?_ _)); refine blk_far ?_ NB666_673.out _; (with_reducible repeat (first | refine blk_drewN ?_ _ | refine blk_drew ?_ | refine blk_alloc ?_ _)); refine blk_far ?_ NB666_673.out _; (with_reducible repeat (first | refine blk_drewN ?_ _ | refine blk_drew ?_ | refine blk_alloc ?_ _)); exact BK666.out) hb); have n3_ := Aside0.mk (blk_below (g := gb673) (o := .cells #[.int .i64 t667, .int .i64 t668, .slice Ao16 t669.length co16] 26 (0, 0)) (by (with_reducible repeat (first | refine blk_drewN ?_ _ | refine blk_drew ?_ | refine blk_alloc ?_ _)); refine blk_put (cs := #[.int .i64 t667, .int .i64 t668, .slice none 0 0]) ?_ 2 _ rfl; (with_reducible repeat (first | refine blk_drewN ?_ _ | refine blk_drew ?_ | refine blk_alloc ?_ _)); refine blk_put (cs := #[.int .i64 t667, .int .i64 0, .slice none 0 0]) ?_ 1 _ rfl; (with_reducible repeat (first | refine blk_drewN ?_ _ | refine blk_drew ?_ | refine blk_alloc ?_ _)); refine blk_put (cs := #[.int .i64 0, .int .i64 0, .slice none 0 0]) ?_ 0 _ rfl; (with_reducible repeat (first | refine blk_drewN ?_ _ | refine blk_drew ?_ | refine blk_alloc ?_ _)); exact BK673.out) hb); have n4_ := Aside0.mk (below_step (by repeat (first | (with_reducible first | exact HB.out | apply below_alloc | apply pw_below_drewN | apply below_drew1 | refine below_set ?_ GE666.out | refine below_set ?_ GE673.out) | exact HB.out)) hb); clear HO665; clear HO671; clear BK666; clear BK673; clear HB; have HO665 := n0_; have HO671 := n1_; have BK666 := n2_; have BK673 := n3_; have HB := n4_; clear n0_ n1_ n2_ n3_ n4_; (try clear hb); (try clear hb2); (try clear hk); (try clear hi); have hcz29_0 : w28.cell? ⟨gb673, 0, none⟩ = some (.int .i64 t667) := (blk_cell BK673.out 0).trans rfl; have hcz29_1 : w28.cell? ⟨gb673, 1, none⟩ = some (.int .i64 t668) := (blk_cell BK673.out 1).trans rfl; have hcz29_2 : w28.cell? ⟨gb673, 2, none⟩ = some (.slice Ao16 t669.length co16) := (blk_cell BK673.out 2).trans rfl; have hfz29_0 := blk_frozen BK673.out 0; have hfz29_1 := blk_frozen BK673.out 1; have hfz29_2 := blk_frozen BK673.out 2; have hcz30_0 : w28.cell? ⟨gb666, 0, none⟩ = some (.int .i64 t661) := (blk_cell BK666.out 0).trans rfl; have hcz30_1 : w28.cell? ⟨gb666, 1, none⟩ = some (.int .i64 t662) := (blk_cell BK666.out 1).trans rfl; have hcz30_2 : w28.cell? ⟨gb666, 2, none⟩ = some (.slice Ao11 t663.length co11) := (blk_cell BK666.out 2).trans rfl; have hfz30_0 := blk_frozen BK666.out 0; have hfz30_1 := blk_frozen BK666.out 1; have hfz30_2 := blk_frozen BK666.out 2))
              go_meet
              case rel => exact ⟨_, (true), (by first | rfl | (simp; done) | (simp [*]; done)), H', ⟨by first | omega | exact Nat.le_refl _⟩, ⟨by (with_reducible repeat (first | apply Kd.R_alloc | apply Kd.R_drewN | apply Kd.R_drew)); exact Kd.R_mono HO665.out (fun _ hk => hk.2)⟩, ⟨by (with_reducible repeat (first | apply Kd.R_alloc | apply Kd.R_drewN | apply Kd.R_drew)); exact Kd.R_mono HO671.out (fun _ hk => hk.2)⟩, ⟨by (with_reducible repeat (first | refine blk_drewN ?_ _ | refine blk_drew ?_ | refine blk_alloc ?_ _)); exact BK666.out⟩, ⟨by (with_reducible repeat (first | refine blk_drewN ?_ _ | refine blk_drew ?_ | refine blk_alloc ?_ _)); exact BK673.out⟩, ⟨by repeat (first | (with_reducible first | exact HB.out | apply below_alloc | apply pw_below_drewN | apply below_drew1 | refine below_set ?_ GE666.out | refine below_set ?_ GE673.out) | exact HB.out)⟩⟩
          · replace c19 := Bool.eq_false_iff.mpr c19
            subst c19
            have H1 : (laws_FnDoubled.j0 k true t661 t662 t663 t667 t668 t669) = some r := by rw [if_neg (show ¬ (false = true) by decide)] at H; exact H
            clear H
            have H := H1
            clear H1
            have H' := Aside0.mk H
            clear H
            have hnb31 := NB673_666.out
            have hnc31 := NB666_673.out
            have hcz32_0 : w13.cell? ⟨gb673, 0, none⟩ = some (.int .i64 0) := (blk_cell BK673.out 0).trans rfl
            have hcz32_1 : w13.cell? ⟨gb673, 1, none⟩ = some (.int .i64 0) := (blk_cell BK673.out 1).trans rfl
            have hcz32_2 : w13.cell? ⟨gb673, 2, none⟩ = some (.slice none 0 0) := (blk_cell BK673.out 2).trans rfl
            have hfz32_0 := blk_frozen BK673.out 0
            have hfz32_1 := blk_frozen BK673.out 1
            have hfz32_2 := blk_frozen BK673.out 2
            go_wp2_with (first | ((with_reducible refine gate_callee (f := 28) rfl ?_); refine goesL_ (some 31) rfl rfl Try.func28 (by kernel_rfl) rfl #[.agg #[.int .i64 t667, .int .i64 t668, .slice Ao16 t669.length co16]] rfl (by (try simp only [List.map_toArray, List.map_cons, List.map_nil]); first | done | rfl | (simp only [List.length_drop, List.length_take]; rfl)) ?_; (with_reducible refine (impl_IsMatrix.calls t667 t668 _ _ t669 false _ ?side1 ?side2 A18.out).mono ?_); (case side1 => refine (Kd.R_reads' (e := 3) (base := w.heap.size) (ok := fun k_ => (True ∧ some k_ ≠ (.slice Ao11 t663.length co11 : Value).ownBlock)) (n := t669.length) (c := co16) ?_).2.2; exact (by (with_reducible repeat (first | apply Kd.R_alloc | apply Kd.R_drewN | apply Kd.R_drew)); exact (Kd.R_mono (Kd.R_far (p := ⟨gb673, 2, none⟩) (Kd.R_far (p := ⟨gb673, 1, none⟩) (Kd.R_far (p := ⟨gb673, 0, none⟩) (Kd.R_types HO671.out BK673.out (by decide)) (fun _ hk => hk.2) (.int .i64 t667)) (fun _ hk => hk.2) (.int .i64 t668)) (fun _ hk => hk.2) (.slice Ao16 t669.length co16)) (fun _ h_ => h_.1)))); (case side2 => exact (Kd.R_reads' HO671.out).2.1); rintro e w33 ⟨rfl, hb⟩; refine ⟨_, rfl, ?_⟩; have n0_ := Aside0.mk (Kd.R_below (by (with_reducible repeat (first | apply Kd.R_alloc | apply Kd.R_drewN | apply Kd.R_drew)); exact (Kd.R_mono (Kd.R_far (p := ⟨gb673, 2, none⟩) (Kd.R_far (p := ⟨gb673, 1, none⟩) (Kd.R_far (p := ⟨gb673, 0, none⟩) (Kd.R_types HO665.out BK673.out (by decide)) (fun _ hk => hk.2) (.int .i64 t667)) (fun _ hk => hk.2) (.int .i64 t668)) (fun _ hk => hk.2) (.slice Ao16 t669.length co16)) (fun _ h_ => h_.1))) hb); have n1_ := Aside0.mk (Kd.R_below (by (with_reducible repeat (first | apply Kd.R_alloc | apply Kd.R_drewN | apply Kd.R_drew)); exact (Kd.R_mono (Kd.R_far (p := ⟨gb673, 2, none⟩) (Kd.R_far (p := ⟨gb673, 1, none⟩) (Kd.R_far (p := ⟨gb673, 0, none⟩) (Kd.R_types HO671.out BK673.out (by decide)) (fun _ hk => hk.2) (.int .i64 t667)) (fun _ hk => hk.2) (.int .i64 t668)) (fun _ hk => hk.2) (.slice Ao16 t669.length co16)) (fun _ h_ => h_.1))) hb); have n2_ := Aside0.mk (blk_below (g := gb666) (o := .cells #[.int .i64 t661, .int .i64 t662, .slice Ao11 t663.length co11] 26 (0, 0)) (by (with_reducible repeat (first | refine blk_drewN ?_ _ | refine blk_drew ?_ | refine blk_alloc ?_ _)); refine blk_far ?_ NB666_673.out _; (with_reducible repeat (first | refine blk_drewN ?_ _ | refine blk_drew ?_ | refine blk_alloc ?_ _)); refine blk_far ?_ NB666_673.out _; (with_reducible repeat (first | refine blk_drewN ?_ _ | refine blk_drew ?_ | refine blk_alloc ?_ _)); refine blk_far ?_ NB666_673.out _; (with_reducible repeat (first | refine blk_drewN ?_ _ | refine blk_drew ?_ | refine blk_alloc ?_ _)); exact BK666.out) hb); have n3_ := Aside0.mk (blk_below (g := gb673) (o := .cells #[.int .i64 t667, .int .i64 t668, .slice Ao16 t669.length co16] 26 (0, 0)) (by (with_reducible repeat (first | refine blk_drewN ?_ _ | refine blk_drew ?_ | refine blk_alloc ?_ _)); refine blk_put (cs := #[.int .i64 t667, .int .i64 t668, .slice none 0 0]) ?_ 2 _ rfl; (with_reducible repeat (first | refine blk_drewN ?_ _ | refine blk_drew ?_ | refine blk_alloc ?_ _)); refine blk_put (cs := #[.int .i64 t667, .int .i64 0, .slice none 0 0]) ?_ 1 _ rfl; (with_reducible repeat (first | refine blk_drewN ?_ _ | refine blk_drew ?_ | refine blk_alloc ?_ _)); refine blk_put (cs := #[.int .i64 0, .int .i64 0, .slice none 0 0]) ?_ 0 _ rfl; (with_reducible repeat (first | refine blk_drewN ?_ _ | refine blk_drew ?_ | refine blk_alloc ?_ _)); exact BK673.out) hb); have n4_ := Aside0.mk (below_step (by repeat (first | (with_reducible first | exact HB.out | apply below_alloc | apply pw_below_drewN | apply below_drew1 | refine below_set ?_ GE666.out | refine below_set ?_ GE673.out) | exact HB.out)) hb); clear HO665; clear HO671; clear BK666; clear BK673; clear HB; have HO665 := n0_; have HO671 := n1_; have BK666 := n2_; have BK673 := n3_; have HB := n4_; clear n0_ n1_ n2_ n3_ n4_; (try clear hb); (try clear hb2); (try clear hk); (try clear hi)))
            go_meet
            case rel => exact ⟨_, (true), (by first | rfl | (simp; done) | (simp [*]; done)), H', ⟨by first | omega | exact Nat.le_refl _⟩, ⟨by (with_reducible repeat (first | apply Kd.R_alloc | apply Kd.R_drewN | apply Kd.R_drew)); exact Kd.R_mono HO665.out (fun _ hk => hk.2)⟩, ⟨by (with_reducible repeat (first | apply Kd.R_alloc | apply Kd.R_drewN | apply Kd.R_drew)); exact Kd.R_mono HO671.out (fun _ hk => hk.2)⟩, ⟨by (with_reducible repeat (first | refine blk_drewN ?_ _ | refine blk_drew ?_ | refine blk_alloc ?_ _)); exact BK666.out⟩, ⟨by (with_reducible repeat (first | refine blk_drewN ?_ _ | refine blk_drew ?_ | refine blk_alloc ?_ _)); exact BK673.out⟩, ⟨by repeat (first | (with_reducible first | exact HB.out | apply below_alloc | apply pw_below_drewN | apply below_drew1 | refine below_set ?_ GE666.out | refine below_set ?_ GE673.out) | exact HB.out)⟩⟩
        case rest =>
          clear HC7
          try clear c1
          try clear c2
          try clear c2b0
          try clear c2b1
          try clear p2
          try clear c3
          try clear c5
          try clear c5b0
          try clear c5b1
          try clear c5b2
          try clear c6
          try clear p6
          try clear c11
          try clear c14
          try clear c19
          try clear c20
          try clear c20b0
          try clear c20b1
          try clear c21
          try clear c26
          try clear c28
          try clear c31
          try clear hcz10_0
          try clear hcz10_1
          try clear hcz10_2
          try clear hcz15_0
          try clear hcz15_1
          try clear hcz15_2
          try clear hcz17_0
          try clear hcz17_1
          try clear hcz17_2
          try clear hcz22_0
          try clear hcz22_1
          try clear hcz22_2
          try clear hcz24_0
          try clear hcz24_1
          try clear hcz24_2
          try clear hcz25_0
          try clear hcz25_1
          try clear hcz25_2
          try clear hcz27_0
          try clear hcz27_1
          try clear hcz27_2
          try clear hcz29_0
          try clear hcz29_1
          try clear hcz29_2
          try clear hcz30_0
          try clear hcz30_1
          try clear hcz30_2
          try clear hcz32_0
          try clear hcz32_1
          try clear hcz32_2
          try clear hfz10_0
          try clear hfz10_1
          try clear hfz10_2
          try clear hfz15_0
          try clear hfz15_1
          try clear hfz15_2
          try clear hfz17_0
          try clear hfz17_1
          try clear hfz17_2
          try clear hfz22_0
          try clear hfz22_1
          try clear hfz22_2
          try clear hfz24_0
          try clear hfz24_1
          try clear hfz24_2
          try clear hfz25_0
          try clear hfz25_1
          try clear hfz25_2
          try clear hfz27_0
          try clear hfz27_1
          try clear hfz27_2
          try clear hfz29_0
          try clear hfz29_1
          try clear hfz29_2
          try clear hfz30_0
          try clear hfz30_1
          try clear hfz30_2
          try clear hfz32_0
          try clear hfz32_1
          try clear hfz32_2
          obtain ⟨kq, x50_6, rfl, HA, HJ6, HO_667002, HO_674002, BK666, BK673, HB⟩ := hcut
          cases kq with
          | zero => exact absurd HA.out (by simp [laws_FnDoubled.j0])
          | succ kj6 =>
            have H := HA.out
            clear HA
            simp only [laws_FnDoubled.j0] at H
            by_cases c34 : x50_6 = true
            · subst c34
              have H1 : (some false) = some r := by rw [if_pos rfl] at H; exact H
              clear H
              have H := H1
              clear H1
              exact absurd ((Option.some.inj H).trans hT.out) (by decide)
            · replace c34 := Bool.eq_false_iff.mpr c34
              subst c34
              have H1 : (laws_FnDoubled.l0 kj6 t669 (t669.length : Int) 0 t661 t662 t663 t667 t668 t669) = some r := by rw [if_neg (show ¬ (false = true) by decide)] at H; exact H
              clear H
              have H := H1
              clear H1
              have H' := Aside0.mk H
              clear H
              have hnb35 := NB673_666.out
              have hnc35 := NB666_673.out
              have hcz36_0 : wc.cell? ⟨gb673, 0, none⟩ = some (.int .i64 t667) := (blk_cell BK673.out 0).trans rfl
              have hcz36_1 : wc.cell? ⟨gb673, 1, none⟩ = some (.int .i64 t668) := (blk_cell BK673.out 1).trans rfl
              have hcz36_2 : wc.cell? ⟨gb673, 2, none⟩ = some (.slice Ao16 t669.length co16) := (blk_cell BK673.out 2).trans rfl
              have hfz36_0 := blk_frozen BK673.out 0
              have hfz36_1 := blk_frozen BK673.out 1
              have hfz36_2 := blk_frozen BK673.out 2
              go_wp2
              go_loopg [54] kj6 (fun kq v54 w' => ∃ (x54_2 : Int), v54 = .int .i64 x54_2 ∧ Aside0 (laws_FnDoubled.l0 kq t669 (t669.length : Int) x54_2 t661 t662 t663 t667 t668 t669 = some r) ∧ Aside0 (kq ≤ kj6) ∧ Aside0 (Kd.R (Kd.int .i64) 3 w' w.heap.size (fun k_ => some k_ ≠ ((.slice Ao11 t663.length co11) : Value).ownBlock) (.slice Ao16 t669.length co16) t669) ∧ Aside0 (Kd.R (Kd.int .i64) 3 w' w.heap.size (fun k_ => some k_ ≠ ((.slice Ao16 t669.length co16) : Value).ownBlock ∧ some k_ ≠ ((.slice Ao16 t669.length co16) : Value).ownBlock) (.slice Ao11 t663.length co11) t663) ∧ Aside0 (Kd.R (Kd.int .i64) 3 w' w.heap.size (fun k_ => some k_ ≠ ((.slice Ao11 t663.length co11) : Value).ownBlock) (.slice Ao16 t669.length co16) t669) ∧ Aside0 (w'.heap[gb666]? = some (.cells #[.int .i64 t661, .int .i64 t662, (.slice Ao11 t663.length co11)] 26 (0, 0))) ∧ Aside0 (w'.heap[gb673]? = some (.cells #[.int .i64 t667, .int .i64 t668, (.slice Ao16 t669.length co16)] 26 (0, 0))) ∧ Aside0 (Below w.heap.size w w'))
              case atStart => exact ⟨(0), (by first | rfl | (simp; done) | (simp [*]; done)), H', ⟨Nat.le_refl _⟩, ⟨by (with_reducible repeat (first | apply Kd.R_alloc | apply Kd.R_drewN | apply Kd.R_drew)); exact HO_674002.out⟩, ⟨by (with_reducible repeat (first | apply Kd.R_alloc | apply Kd.R_drewN | apply Kd.R_drew)); exact Kd.R_mono HO_667002.out (fun _ hk => ⟨hk, hk⟩)⟩, ⟨by (with_reducible repeat (first | apply Kd.R_alloc | apply Kd.R_drewN | apply Kd.R_drew)); exact HO_674002.out⟩, ⟨by (with_reducible repeat (first | refine blk_drewN ?_ _ | refine blk_drew ?_ | refine blk_alloc ?_ _)); exact BK666.out⟩, ⟨by (with_reducible repeat (first | refine blk_drewN ?_ _ | refine blk_drew ?_ | refine blk_alloc ?_ _)); exact BK673.out⟩, ⟨by repeat (first | (with_reducible first | exact HB.out | apply below_alloc | apply pw_below_drewN | apply below_drew1 | refine below_set ?_ GE666.out | refine below_set ?_ GE673.out) | exact HB.out)⟩⟩
              case round =>
                clear H'
                try clear c1
                try clear c2
                try clear c2b0
                try clear c2b1
                try clear p2
                try clear c3
                try clear c5
                try clear c5b0
                try clear c5b1
                try clear c5b2
                try clear c6
                try clear p6
                try clear c11
                try clear c14
                try clear c19
                try clear c20
                try clear c20b0
                try clear c20b1
                try clear c21
                try clear c26
                try clear c28
                try clear c31
                try clear c34
                try clear c35
                try clear hcz10_0
                try clear hcz10_1
                try clear hcz10_2
                try clear hcz15_0
                try clear hcz15_1
                try clear hcz15_2
                try clear hcz17_0
                try clear hcz17_1
                try clear hcz17_2
                try clear hcz22_0
                try clear hcz22_1
                try clear hcz22_2
                try clear hcz24_0
                try clear hcz24_1
                try clear hcz24_2
                try clear hcz25_0
                try clear hcz25_1
                try clear hcz25_2
                try clear hcz27_0
                try clear hcz27_1
                try clear hcz27_2
                try clear hcz29_0
                try clear hcz29_1
                try clear hcz29_2
                try clear hcz30_0
                try clear hcz30_1
                try clear hcz30_2
                try clear hcz32_0
                try clear hcz32_1
                try clear hcz32_2
                try clear hcz36_0
                try clear hcz36_1
                try clear hcz36_2
                try clear hfz10_0
                try clear hfz10_1
                try clear hfz10_2
                try clear hfz15_0
                try clear hfz15_1
                try clear hfz15_2
                try clear hfz17_0
                try clear hfz17_1
                try clear hfz17_2
                try clear hfz22_0
                try clear hfz22_1
                try clear hfz22_2
                try clear hfz24_0
                try clear hfz24_1
                try clear hfz24_2
                try clear hfz25_0
                try clear hfz25_1
                try clear hfz25_2
                try clear hfz27_0
                try clear hfz27_1
                try clear hfz27_2
                try clear hfz29_0
                try clear hfz29_1
                try clear hfz29_2
                try clear hfz30_0
                try clear hfz30_1
                try clear hfz30_2
                try clear hfz32_0
                try clear hfz32_1
                try clear hfz32_2
                try clear hfz36_0
                try clear hfz36_1
                try clear hfz36_2
                try clear p2
                try clear p6
                obtain ⟨x54_2, rfl, HA, HK2, HO_52, HO_667002, HO_674002, BK666, BK673, HB⟩ := hrel
                cases gk with
                | zero => exact absurd HA.out (by simp [laws_FnDoubled.l0])
                | succ k2 =>
                  have H := HA.out
                  clear HA
                  simp only [laws_FnDoubled.l0] at H
                  by_cases c37 : x54_2 < (t669.length : Int)
                  · rw [if_pos c37] at H
                    have c37b0 : decide (x54_2 < (t669.length : Int)) = true := decide_eq_true c37
                    clear c37
                    by_cases c38 : 0 ≤ x54_2
                    · rw [if_pos c38] at H
                      have c38b0 : decide (0 ≤ x54_2) = true := decide_eq_true c38
                      clear c38
                      by_cases c39 : x54_2 < (t669.length : Int)
                      · rw [if_pos c39] at H
                        have c39b0 : decide (x54_2 < (t669.length : Int)) = true := decide_eq_true c39
                        clear c39
                        by_cases c40 : t667 = 0
                        · rw [if_pos c40] at H
                          exact absurd H (by simp)
                        · rw [if_neg c40] at H
                          have c40b0 : (t667 == 0) = false := beq_eq_false_iff_ne.mpr c40
                          have c40b1 : (t667 != 0) = true := bne_iff_ne.mpr c40
                          obtain ⟨y676, hy676⟩ : ∃ y_ : List Int, y_ = (([0, 2, 3, 1] : List Int)) := ⟨_, rfl⟩
                          replace H : (if t661 = 0 then (none) else (if t662 = 0 then (none) else (if 0 ≤ (wrap64 ((wrap64 (Int.tdiv (Int.tmod x54_2 t667) t661)) + (wrap64 (2 * (wrap64 (Int.tdiv (wrap64 (Int.tdiv x54_2 t667)) t662)))))) then (if (wrap64 ((wrap64 (Int.tdiv (Int.tmod x54_2 t667) t661)) + (wrap64 (2 * (wrap64 (Int.tdiv (wrap64 (Int.tdiv x54_2 t667)) t662)))))) < (y676.length : Int) then (if 0 ≤ (wrap64 ((wrap64 ((Int.tmod (wrap64 (Int.tdiv x54_2 t667)) t662) * t661)) + (Int.tmod (Int.tmod x54_2 t667) t661))) then (if (wrap64 ((wrap64 ((Int.tmod (wrap64 (Int.tdiv x54_2 t667)) t662) * t661)) + (Int.tmod (Int.tmod x54_2 t667) t661))) < (t663.length : Int) then (if (rd t669 x54_2) = (wrap64 ((wrap64 (4 * (rd t663 (wrap64 ((wrap64 ((Int.tmod (wrap64 (Int.tdiv x54_2 t667)) t662) * t661)) + (Int.tmod (Int.tmod x54_2 t667) t661)))))) + (rd y676 (wrap64 ((wrap64 (Int.tdiv (Int.tmod x54_2 t667) t661)) + (wrap64 (2 * (wrap64 (Int.tdiv (wrap64 (Int.tdiv x54_2 t667)) t662))))))))) then (laws_FnDoubled.l0 k2 t669 (t669.length : Int) (wrap64 (x54_2 + 1)) t661 t662 t663 t667 t668 t669) else (some false)) else (none)) else (none)) else (none)) else (none)))) = some r := by first | (rw [hy676]; with_reducible exact H) | (have H2_ := (Option.bind_some _ _).symm.trans H; rw [hy676]; with_reducible exact H2_) | (have H2_ := (Option.bind_some _ _).symm.trans H; with_reducible exact H2_) | with_reducible exact H | (rw [hy676]; exact H) | exact H
                          have Ny676 := Aside0.mk hy676
                          clear hy676
                          by_cases c41 : t661 = 0
                          · rw [if_pos c41] at H
                            exact absurd H (by simp)
                          · rw [if_neg c41] at H
                            have c41b0 : (t661 == 0) = false := beq_eq_false_iff_ne.mpr c41
                            have c41b1 : (t661 != 0) = true := bne_iff_ne.mpr c41
                            by_cases c42 : t662 = 0
                            · rw [if_pos c42] at H
                              exact absurd H (by simp)
                            · rw [if_neg c42] at H
                              have c42b0 : (t662 == 0) = false := beq_eq_false_iff_ne.mpr c42
                              have c42b1 : (t662 != 0) = true := bne_iff_ne.mpr c42
                              obtain ⟨ji43, hji43⟩ : ∃ j_ : Int, (wrap64 ((wrap64 (Int.tdiv (Int.tmod x54_2 t667) t661)) + (wrap64 (2 * (wrap64 (Int.tdiv (wrap64 (Int.tdiv x54_2 t667)) t662)))))) = j_ := ⟨_, rfl⟩
                              replace H : (if 0 ≤ (ji43) then (if (ji43) < (y676.length : Int) then (if 0 ≤ (wrap64 ((wrap64 ((Int.tmod (wrap64 (Int.tdiv x54_2 t667)) t662) * t661)) + (Int.tmod (Int.tmod x54_2 t667) t661))) then (if (wrap64 ((wrap64 ((Int.tmod (wrap64 (Int.tdiv x54_2 t667)) t662) * t661)) + (Int.tmod (Int.tmod x54_2 t667) t661))) < (t663.length : Int) then (if (rd t669 x54_2) = (wrap64 ((wrap64 (4 * (rd t663 (wrap64 ((wrap64 ((Int.tmod (wrap64 (Int.tdiv x54_2 t667)) t662) * t661)) + (Int.tmod (Int.tmod x54_2 t667) t661)))))) + (rd y676 (ji43)))) then (laws_FnDoubled.l0 k2 t669 (t669.length : Int) (wrap64 (x54_2 + 1)) t661 t662 t663 t667 t668 t669) else (some false)) else (none)) else (none)) else (none)) else (none)) = some r := by first | (rw [hji43] at H; exact H) | (simp only [hji43] at H ⊢; exact H)
                              have hji43w : (IntKind.i64.wrap ((wrap64 (Int.tdiv (Int.tmod x54_2 t667) t661)) + (wrap64 (2 * (wrap64 (Int.tdiv (wrap64 (Int.tdiv x54_2 t667)) t662)))))) = ji43 := (i64_w _).trans hji43
                              have hji43n : (IntKind.i64.wrap ((IntKind.i64.wrap (Int.tdiv (Int.tmod x54_2 t667) t661)) + (IntKind.i64.wrap (2 * (IntKind.i64.wrap (Int.tdiv (IntKind.i64.wrap (Int.tdiv x54_2 t667)) t662)))))) = ji43 := by first | (simpa only [i64_w] using hji43) | (simp only [i64_w]; exact hji43)
                              by_cases c44 : 0 ≤ (ji43)
                              · rw [if_pos c44] at H
                                have c44b0 : decide (0 ≤ (ji43)) = true := decide_eq_true c44
                                clear c44
                                by_cases c45 : (ji43) < (y676.length : Int)
                                · rw [if_pos c45] at H
                                  have c45b0 : decide ((ji43) < (y676.length : Int)) = true := decide_eq_true c45
                                  clear c45
                                  obtain ⟨ji46, hji46⟩ : ∃ j_ : Int, (wrap64 ((wrap64 ((Int.tmod (wrap64 (Int.tdiv x54_2 t667)) t662) * t661)) + (Int.tmod (Int.tmod x54_2 t667) t661))) = j_ := ⟨_, rfl⟩
                                  replace H : (if 0 ≤ (ji46) then (if (ji46) < (t663.length : Int) then (if (rd t669 x54_2) = (wrap64 ((wrap64 (4 * (rd t663 (ji46)))) + (rd y676 (ji43)))) then (laws_FnDoubled.l0 k2 t669 (t669.length : Int) (wrap64 (x54_2 + 1)) t661 t662 t663 t667 t668 t669) else (some false)) else (none)) else (none)) = some r := by first | (rw [hji46] at H; exact H) | (simp only [hji46] at H ⊢; exact H)
                                  have hji46w : (IntKind.i64.wrap ((wrap64 ((Int.tmod (wrap64 (Int.tdiv x54_2 t667)) t662) * t661)) + (Int.tmod (Int.tmod x54_2 t667) t661))) = ji46 := (i64_w _).trans hji46
                                  have hji46n : (IntKind.i64.wrap ((IntKind.i64.wrap ((Int.tmod (IntKind.i64.wrap (Int.tdiv x54_2 t667)) t662) * t661)) + (Int.tmod (Int.tmod x54_2 t667) t661))) = ji46 := by first | (simpa only [i64_w] using hji46) | (simp only [i64_w]; exact hji46)
                                  by_cases c47 : 0 ≤ (ji46)
                                  · rw [if_pos c47] at H
                                    have c47b0 : decide (0 ≤ (ji46)) = true := decide_eq_true c47
                                    clear c47
                                    by_cases c48 : (ji46) < (t663.length : Int)
                                    · rw [if_pos c48] at H
                                      have c48b0 : decide ((ji46) < (t663.length : Int)) = true := decide_eq_true c48
                                      clear c48
                                      by_cases c49 : (rd t669 x54_2) = (wrap64 ((wrap64 (4 * (rd t663 (ji46)))) + (rd y676 (ji43))))
                                      · rw [if_pos c49] at H
                                        have c49b0 : ((rd t669 x54_2) == (wrap64 ((wrap64 (4 * (rd t663 (ji46)))) + (rd y676 (ji43))))) = true := beq_iff_eq.mpr c49
                                        have c49b1 : ((rd t669 x54_2) != (wrap64 ((wrap64 (4 * (rd t663 (ji46)))) + (rd y676 (ji43))))) = false := bne_eq_false_iff_eq.mpr c49
                                        clear c49
                                        have H' := Aside0.mk H
                                        clear H
                                        have p675 : 0 ≤ (x54_2 : Int) := of_decide_eq_true (by first | (with_reducible assumption) | assumption)
                                        have q675 : x54_2 < (t669.length : Int) := of_decide_eq_true (by first | (with_reducible assumption) | assumption)
                                        obtain ⟨ad675, e675, hx675_0⟩ := Kd.at_int (Kd.R_reads' HO_52.out).2.2 x54_2 p675 q675
                                        cases e675
                                        replace p675 := eq_true p675
                                        replace q675 := eq_true q675
                                        have hnb50 := NB673_666.out
                                        have hnc50 := NB666_673.out
                                        have hcz51_0 : wr.cell? ⟨gb673, 0, none⟩ = some (.int .i64 t667) := (blk_cell BK673.out 0).trans rfl
                                        have hcz51_1 : wr.cell? ⟨gb673, 1, none⟩ = some (.int .i64 t668) := (blk_cell BK673.out 1).trans rfl
                                        have hcz51_2 : wr.cell? ⟨gb673, 2, none⟩ = some (.slice (some ad675) t669.length co16) := (blk_cell BK673.out 2).trans rfl
                                        have hfz51_0 := blk_frozen BK673.out 0
                                        have hfz51_1 := blk_frozen BK673.out 1
                                        have hfz51_2 := blk_frozen BK673.out 2
                                        try go_wp2
                                        have pi679 : (0 ≤ ((ji43) : Int)) = True := eq_true (of_decide_eq_true (by first | (with_reducible assumption) | assumption))
                                        have qi679 : ((ji43) < (y676.length : Int)) = True := eq_true (of_decide_eq_true (by first | (with_reducible assumption) | assumption))
                                        have n0_ := Aside0.mk (Kd.R_drew HO_52.out)
                                        have n1_ := Aside0.mk (Kd.R_drew HO_667002.out)
                                        have n2_ := Aside0.mk (Kd.R_drew HO_674002.out)
                                        have n3_ := Aside0.mk (blk_drew BK666.out)
                                        have n4_ := Aside0.mk (blk_drew BK673.out)
                                        have n5_ := Aside0.mk (below_drew1 HB.out)
                                        clear HO_52
                                        clear HO_667002
                                        clear HO_674002
                                        clear BK666
                                        clear BK673
                                        clear HB
                                        have HO_52 := n0_
                                        have HO_667002 := n1_
                                        have HO_674002 := n2_
                                        have BK666 := n3_
                                        have BK673 := n4_
                                        have HB := n5_
                                        clear n0_ n1_ n2_ n3_ n4_ n5_
                                        refine start_ (n := 14) (S := fun w' => w'.cell? ⟨gb666, 0, none⟩ = some (.int .i64 t661) ∧ w'.cell? ⟨gb666, 1, none⟩ = some (.int .i64 t662) ∧ w'.cell? ⟨gb666, 2, none⟩ = some (.slice Ao11 t663.length co11)) (ds := []) #[false, false, false, false, false, false, false, false, false, false, false, false, false, false] (by kernel_rfl) rfl rfl ⟨(blk_cell BK666.out 0).trans rfl, (blk_cell BK666.out 1).trans rfl, (blk_cell BK666.out 2).trans rfl⟩ (fun hHeld => ?_); refine with_tabW laws_FnDoubled.tab16 laws_FnDoubled.bits16 (fun HT_ HW_ => ?_)
                                        generalize wr.drew = w52 at HO_52 HO_667002 HO_674002 BK666 BK673 HB hHeld ⊢
                                        refine pure_ (i := 1) (N := some 68) (v := ?_) (a' := ?_) #[false, true, false, false, false, false, false, false, false, false, false, false, false, false] rfl rfl (any_of HT_.out (by kernel_rfl)) (fun _ _ _ h => h) (Or.inl ⟨by rfl, ?_⟩) ?_ ?_
                                        rotate_left
                                        · intro w'
                                          go_simp
                                          with_reducible rfl
                                        rotate_left
                                        · simp only [Act.put, List.setIfInBounds_toArray, List.set_cons_zero, List.set_cons_succ, i64_w, i32_w]
                                          rfl
                                        refine pure_ (i := 2) (N := some 69) (v := ?_) (a' := ?_) #[false, true, true, false, false, false, false, false, false, false, false, false, false, false] rfl rfl (any_of HT_.out (by kernel_rfl)) (fun _ _ _ h => h) (Or.inl ⟨by rfl, ?_⟩) ?_ ?_
                                        rotate_left
                                        · intro w'
                                          go_simp
                                          with_reducible rfl
                                        rotate_left
                                        · simp only [Act.put, List.setIfInBounds_toArray, List.set_cons_zero, List.set_cons_succ, i64_w, i32_w]
                                          rfl
                                        refine pure_ (i := 5) (N := some 72) (v := ?_) (a' := ?_) #[false, true, true, false, false, true, false, false, false, false, false, false, false, false] rfl rfl (any_of HT_.out (by kernel_rfl)) (fun _ _ _ h => h) (Or.inl ⟨by rfl, ?_⟩) ?_ ?_
                                        rotate_left
                                        · intro w'
                                          go_simp
                                          with_reducible rfl
                                        rotate_left
                                        · simp only [Act.put, List.setIfInBounds_toArray, List.set_cons_zero, List.set_cons_succ, i64_w, i32_w]
                                          rfl
                                        refine pure_ (i := 6) (N := some 73) (v := ?_) (a' := ?_) #[false, true, true, false, false, true, true, false, false, false, false, false, false, false] rfl rfl (any_of HT_.out (by kernel_rfl)) (fun _ _ _ h => h) (Or.inl ⟨by rfl, ?_⟩) ?_ ?_
                                        rotate_left
                                        · intro w'
                                          go_simp
                                          with_reducible rfl
                                        rotate_left
                                        · simp only [Act.put, List.setIfInBounds_toArray, List.set_cons_zero, List.set_cons_succ, i64_w, i32_w]
                                          rfl
                                        refine take_ (i := 3) (N := some 70) (v := ?_) (a' := ?_) #[false, true, true, true, false, true, true, false, false, false, false, false, false, false] rfl rfl (take_ofW HT_.out HW_.out (by kernel_rfl)) (fun _ _ _ h => h) (Or.inl ⟨by rfl, ?_⟩) hHeld ?_ ?_
                                        rotate_left
                                        · rintro w' ⟨s0, s1, s2⟩
                                          go_simp
                                          with_reducible rfl
                                        rotate_left
                                        · simp only [Act.put, List.setIfInBounds_toArray, List.set_cons_zero, List.set_cons_succ, i64_w, i32_w]
                                          rfl
                                        refine pure_ (i := 4) (N := some 71) (v := ?_) (a' := ?_) #[false, true, true, true, true, true, true, false, false, false, false, false, false, false] rfl rfl (any_of HT_.out (by kernel_rfl)) (fun _ _ _ h => h) (Or.inl ⟨by rfl, ?_⟩) ?_ ?_
                                        rotate_left
                                        · intro w'
                                          go_simp
                                          with_reducible rfl
                                        rotate_left
                                        · simp only [Act.put, List.setIfInBounds_toArray, List.set_cons_zero, List.set_cons_succ, i64_w, i32_w]
                                          rfl
                                        refine take_ (i := 7) (N := some 74) (v := ?_) (a' := ?_) #[false, true, true, true, true, true, true, true, false, false, false, false, false, false] rfl rfl (take_ofW HT_.out HW_.out (by kernel_rfl)) (fun _ _ _ h => h) (Or.inl ⟨by rfl, ?_⟩) hHeld ?_ ?_
                                        rotate_left
                                        · rintro w' ⟨s0, s1, s2⟩
                                          go_simp
                                          with_reducible rfl
                                        rotate_left
                                        · simp only [Act.put, List.setIfInBounds_toArray, List.set_cons_zero, List.set_cons_succ, i64_w, i32_w]
                                          rfl
                                        refine pure_ (i := 8) (N := some 75) (v := ?_) (a' := ?_) #[false, true, true, true, true, true, true, true, true, false, false, false, false, false] rfl rfl (any_of HT_.out (by kernel_rfl)) (fun _ _ _ h => h) (Or.inl ⟨by rfl, ?_⟩) ?_ ?_
                                        rotate_left
                                        · intro w'
                                          go_simp
                                          with_reducible rfl
                                        rotate_left
                                        · simp only [Act.put, List.setIfInBounds_toArray, List.set_cons_zero, List.set_cons_succ, i64_w, i32_w]
                                          rfl
                                        refine pure_ (i := 9) (N := some 76) (v := ?_) (a' := ?_) #[false, true, true, true, true, true, true, true, true, true, false, false, false, false] rfl rfl (any_of HT_.out (by kernel_rfl)) (fun _ _ _ h => h) (Or.inl ⟨by rfl, ?_⟩) ?_ ?_
                                        rotate_left
                                        · intro w'
                                          go_simp
                                          with_reducible rfl
                                        rotate_left
                                        · simp only [Act.put, List.setIfInBounds_toArray, List.set_cons_zero, List.set_cons_succ, i64_w, i32_w]
                                          rfl
                                        refine pure_ (i := 10) (N := some 77) (v := ?_) (a' := ?_) #[false, true, true, true, true, true, true, true, true, true, true, false, false, false] rfl rfl (any_of HT_.out (by kernel_rfl)) (fun _ _ _ h => h) (Or.inl ⟨by rfl, ?_⟩) ?_ ?_
                                        rotate_left
                                        · intro w'
                                          go_simp
                                          with_reducible rfl
                                        rotate_left
                                        · simp only [Act.put, List.setIfInBounds_toArray, List.set_cons_zero, List.set_cons_succ, i64_w, i32_w]
                                          rfl
                                        refine one_ (i := 0) (N := some 67) #[true, true, true, true, true, true, true, true, true, true, true, false, false, false] rfl rfl (one_of HT_.out (by kernel_rfl)) (by decide) (fun K hK => ?_)
                                        refine Kd.R_lit_step (Kd.int .i64) _ 3 ?hg (N := 67) ?hd (xs := ([0, 2, 3, 1] : List Int)) (inner := [.int .i64 0, .int .i64 2, .int .i64 3, .int .i64 1]) (ok := fun _ => True) (okp := fun _ => True) ?hr ?hp (fun _ hk => hk) trivial (Below.refl _ _) (Nat.le_refl _) (by simp) ?_; (case hd => rfl); (case hg => rfl); (case hr => first | (go_simp; done) | (go_simp; rfl)); (case hp => exact (Reps.one (show Kd.M (Kd.int .i64) _ _ _ 0 [.int .i64 0] from rfl) (Reps.one (show Kd.M (Kd.int .i64) _ _ _ 2 [.int .i64 2] from rfl) (Reps.one (show Kd.M (Kd.int .i64) _ _ _ 3 [.int .i64 3] from rfl) (Reps.one (show Kd.M (Kd.int .i64) _ _ _ 1 [.int .i64 1] from rfl) (Reps.none _ _))))))
                                        intro v677 w53 ho54 hb hg_ hnew_
                                        clear hg_ hnew_
                                        (first | rw [← Ny676.out] at ho54 | (simp only [Int.reduceToNat] at ho54; rw [← Ny676.out] at ho54))
                                        have n0_ := Aside0.mk (Kd.R_elder' (by (with_reducible repeat (first | apply Kd.R_alloc | apply Kd.R_drewN | apply Kd.R_drew)); exact HO_52.out) (Kd.R_base ho54) hb)
                                        have n1_ := Aside0.mk (Kd.R_elder' (by (with_reducible repeat (first | apply Kd.R_alloc | apply Kd.R_drewN | apply Kd.R_drew)); exact HO_667002.out) (Kd.R_base ho54) hb)
                                        have n2_ := Aside0.mk (Kd.R_elder' (by (with_reducible repeat (first | apply Kd.R_alloc | apply Kd.R_drewN | apply Kd.R_drew)); exact HO_674002.out) (Kd.R_base ho54) hb)
                                        have n3_ := Aside0.mk (Kd.R_lower (Kd.R_new' (Kd.R_new' (Kd.R_new' ho54 (Kd.R_lt (by (with_reducible repeat (first | apply Kd.R_alloc | apply Kd.R_drewN | apply Kd.R_drew)); exact HO_52.out))) (Kd.R_lt (by (with_reducible repeat (first | apply Kd.R_alloc | apply Kd.R_drewN | apply Kd.R_drew)); exact HO_667002.out))) (Kd.R_lt (by (with_reducible repeat (first | apply Kd.R_alloc | apply Kd.R_drewN | apply Kd.R_drew)); exact HO_674002.out))) (below_size (by repeat (first | (with_reducible first | exact HB.out | apply below_alloc | apply pw_below_drewN | apply below_drew1 | refine below_set ?_ GE666.out | refine below_set ?_ GE673.out) | exact HB.out))))
                                        have n4_ := Aside0.mk (blk_below (g := gb666) (o := .cells #[.int .i64 t661, .int .i64 t662, .slice Ao11 t663.length co11] 26 (0, 0)) (by (with_reducible repeat (first | refine blk_drewN ?_ _ | refine blk_drew ?_ | refine blk_alloc ?_ _)); exact BK666.out) hb)
                                        have n5_ := Aside0.mk (blk_below (g := gb673) (o := .cells #[.int .i64 t667, .int .i64 t668, .slice (some ad675) t669.length co16] 26 (0, 0)) (by (with_reducible repeat (first | refine blk_drewN ?_ _ | refine blk_drew ?_ | refine blk_alloc ?_ _)); exact BK673.out) hb)
                                        have n6_ := Aside0.mk (below_step (by repeat (first | (with_reducible first | exact HB.out | apply below_alloc | apply pw_below_drewN | apply below_drew1 | refine below_set ?_ GE666.out | refine below_set ?_ GE673.out) | exact HB.out)) hb)
                                        clear HO_52
                                        clear HO_667002
                                        clear HO_674002
                                        clear BK666
                                        clear BK673
                                        clear HB
                                        have HO_52 := n0_
                                        have HO_667002 := n1_
                                        have HO_674002 := n2_
                                        have HO678 := n3_
                                        have BK666 := n4_
                                        have BK673 := n5_
                                        have HB := n6_
                                        clear n0_ n1_ n2_ n3_ n4_ n5_ n6_
                                        clear hb ho54
                                        obtain ⟨Ao55, co55, eo55⟩ := Kd.R_slice HO678.out
                                        subst eo55
                                        obtain ⟨ado55, fo55, _⟩ := Kd.at_int (Kd.R_reads' HO678.out).2.2 0 (by decide) (by rw [Ny676.out]; simp)
                                        cases fo55
                                        refine hK.out _ _ ⟨(blk_cell BK666.out 0).trans rfl, (blk_cell BK666.out 1).trans rfl, (blk_cell BK666.out 2).trans rfl⟩ (fun hHeld => ?_)
                                        clear hK K
                                        refine norm_ (a' := ?_) ?_ ?_
                                        rotate_left
                                        · show Act.put _ (some 67) _ = _
                                          simp only [Act.put, List.setIfInBounds_toArray, List.set_cons_zero, List.set_cons_succ, i64_w, i32_w]
                                          rfl
                                        refine pure_ (i := 11) (N := some 78) (v := ?_) (a' := ?_) #[true, true, true, true, true, true, true, true, true, true, true, true, false, false] rfl rfl (any_of HT_.out (by kernel_rfl)) (fun _ _ _ h => h) (Or.inl ⟨by rfl, ?_⟩) ?_ ?_
                                        rotate_left
                                        · intro w'
                                          go_simp
                                          with_reducible rfl
                                        rotate_left
                                        · simp only [Act.put, List.setIfInBounds_toArray, List.set_cons_zero, List.set_cons_succ, i64_w, i32_w]
                                          rfl
                                        refine one_ (i := 12) (N := some 79) #[true, true, true, true, true, true, true, true, true, true, true, true, true, false] rfl rfl (one_of HT_.out (by kernel_rfl)) (by decide) (fun K hK => ?_)
                                        (have p679 : 0 ≤ ((ji43) : Int) := of_decide_eq_true (by first | (with_reducible assumption) | assumption); have q679 : (ji43) < (y676.length : Int) := of_decide_eq_true (by first | (with_reducible assumption) | assumption); obtain ⟨ad679, e679, hx679_0⟩ := Kd.at_int (Kd.R_reads' HO678.out).2.2 (ji43) p679 q679; obtain rfl : ado55 = ad679 := (by injection e679))
                                        refine value_ (w1 := ?_) (v := ?_) (by rfl) rfl ?_ ?_
                                        rotate_left 2
                                        · go_simp
                                          constructor
                                          · rfl
                                          · rfl
                                        clear hx679_0
                                        refine hK.out _ _ ⟨(blk_cell BK666.out 0).trans rfl, (blk_cell BK666.out 1).trans rfl, (blk_cell BK666.out 2).trans rfl⟩ (fun hHeld => ?_)
                                        clear hK K
                                        refine norm_ (a' := ?_) ?_ ?_
                                        rotate_left
                                        · show Act.put _ (some 79) _ = _
                                          simp only [Act.put, List.setIfInBounds_toArray, List.set_cons_zero, List.set_cons_succ, i64_w, i32_w]
                                          rfl
                                        refine pure_ (i := 13) (N := some 10) (v := ?_) (a' := ?_) #[true, true, true, true, true, true, true, true, true, true, true, true, true, true] rfl rfl (any_of HT_.out (by kernel_rfl)) (fun _ _ _ h => h) (Or.inl ⟨by rfl, ?_⟩) ?_ ?_
                                        rotate_left
                                        · intro w'
                                          go_simp
                                          with_reducible rfl
                                        rotate_left
                                        · simp only [Act.put, List.setIfInBounds_toArray, List.set_cons_zero, List.set_cons_succ, i64_w, i32_w]
                                          rfl
                                        refine done_ (done_of HT_.out (by kernel_rfl)) ?_
                                        try go_wp2
                                        have n0_ := Aside0.mk (Kd.R_drew HO_52.out)
                                        have n1_ := Aside0.mk (Kd.R_drew HO_667002.out)
                                        have n2_ := Aside0.mk (Kd.R_drew HO_674002.out)
                                        have n3_ := Aside0.mk (Kd.R_drew HO678.out)
                                        have n4_ := Aside0.mk (blk_drew BK666.out)
                                        have n5_ := Aside0.mk (blk_drew BK673.out)
                                        have n6_ := Aside0.mk (below_drew1 HB.out)
                                        clear HO_52
                                        clear HO_667002
                                        clear HO_674002
                                        clear HO678
                                        clear BK666
                                        clear BK673
                                        clear HB
                                        have HO_52 := n0_
                                        have HO_667002 := n1_
                                        have HO_674002 := n2_
                                        have HO678 := n3_
                                        have BK666 := n4_
                                        have BK673 := n5_
                                        have HB := n6_
                                        clear n0_ n1_ n2_ n3_ n4_ n5_ n6_
                                        have p680 : 0 ≤ ((ji46) : Int) := of_decide_eq_true (by first | (with_reducible assumption) | assumption)
                                        have q680 : (ji46) < (t663.length : Int) := of_decide_eq_true (by first | (with_reducible assumption) | assumption)
                                        obtain ⟨ad680, e680, hx680_0⟩ := Kd.at_int (Kd.R_reads' HO_667002.out).2.2 (ji46) p680 q680
                                        cases e680
                                        replace p680 := eq_true p680
                                        replace q680 := eq_true q680
                                        refine start_ (n := 21) (S := fun w' => w'.cell? ⟨gb666, 0, none⟩ = some (.int .i64 t661) ∧ w'.cell? ⟨gb666, 1, none⟩ = some (.int .i64 t662) ∧ w'.cell? ⟨gb666, 2, none⟩ = some (.slice (some ad680) t663.length co11) ∧ w'.cell? (ad680.add ((ji46)).toNat) = some (.int .i64 (rd t663 (ji46)))) (ds := []) #[false, false, false, false, false, false, false, false, false, false, false, false, false, false, false, false, false, false, false, false, false] (by kernel_rfl) rfl rfl ⟨(blk_cell BK666.out 0).trans rfl, (blk_cell BK666.out 1).trans rfl, (blk_cell BK666.out 2).trans rfl, hx680_0⟩ (fun hHeld => ?_); refine with_tabW laws_FnDoubled.tab17 laws_FnDoubled.bits17 (fun HT_ HW_ => ?_)
                                        generalize w53.drew = w56 at HO_52 HO_667002 HO_674002 HO678 BK666 BK673 HB hx680_0 hHeld ⊢
                                        refine pure_ (i := 0) (N := some 80) (v := ?_) (a' := ?_) #[true, false, false, false, false, false, false, false, false, false, false, false, false, false, false, false, false, false, false, false, false] rfl rfl (any_of HT_.out (by kernel_rfl)) (fun _ _ _ h => h) (Or.inl ⟨by rfl, ?_⟩) ?_ ?_
                                        rotate_left
                                        · intro w'
                                          go_simp
                                          with_reducible rfl
                                        rotate_left
                                        · simp only [Act.put, List.setIfInBounds_toArray, List.set_cons_zero, List.set_cons_succ, i64_w, i32_w]
                                          rfl
                                        refine pure_ (i := 1) (N := some 81) (v := ?_) (a' := ?_) #[true, true, false, false, false, false, false, false, false, false, false, false, false, false, false, false, false, false, false, false, false] rfl rfl (any_of HT_.out (by kernel_rfl)) (fun _ _ _ h => h) (Or.inl ⟨by rfl, ?_⟩) ?_ ?_
                                        rotate_left
                                        · intro w'
                                          go_simp
                                          with_reducible rfl
                                        rotate_left
                                        · simp only [Act.put, List.setIfInBounds_toArray, List.set_cons_zero, List.set_cons_succ, i64_w, i32_w]
                                          rfl
                                        refine pure_ (i := 3) (N := some 83) (v := ?_) (a' := ?_) #[true, true, false, true, false, false, false, false, false, false, false, false, false, false, false, false, false, false, false, false, false] rfl rfl (any_of HT_.out (by kernel_rfl)) (fun _ _ _ h => h) (Or.inl ⟨by rfl, ?_⟩) ?_ ?_
                                        rotate_left
                                        · intro w'
                                          go_simp
                                          with_reducible rfl
                                        rotate_left
                                        · simp only [Act.put, List.setIfInBounds_toArray, List.set_cons_zero, List.set_cons_succ, i64_w, i32_w]
                                          rfl
                                        refine pure_ (i := 4) (N := some 84) (v := ?_) (a' := ?_) #[true, true, false, true, true, false, false, false, false, false, false, false, false, false, false, false, false, false, false, false, false] rfl rfl (any_of HT_.out (by kernel_rfl)) (fun _ _ _ h => h) (Or.inl ⟨by rfl, ?_⟩) ?_ ?_
                                        rotate_left
                                        · intro w'
                                          go_simp
                                          with_reducible rfl
                                        rotate_left
                                        · simp only [Act.put, List.setIfInBounds_toArray, List.set_cons_zero, List.set_cons_succ, i64_w, i32_w]
                                          rfl
                                        refine pure_ (i := 7) (N := some 87) (v := ?_) (a' := ?_) #[true, true, false, true, true, false, false, true, false, false, false, false, false, false, false, false, false, false, false, false, false] rfl rfl (any_of HT_.out (by kernel_rfl)) (fun _ _ _ h => h) (Or.inl ⟨by rfl, ?_⟩) ?_ ?_
                                        rotate_left
                                        · intro w'
                                          go_simp
                                          with_reducible rfl
                                        rotate_left
                                        · simp only [Act.put, List.setIfInBounds_toArray, List.set_cons_zero, List.set_cons_succ, i64_w, i32_w]
                                          rfl
                                        refine pure_ (i := 10) (N := some 90) (v := ?_) (a' := ?_) #[true, true, false, true, true, false, false, true, false, false, true, false, false, false, false, false, false, false, false, false, false] rfl rfl (any_of HT_.out (by kernel_rfl)) (fun _ _ _ h => h) (Or.inl ⟨by rfl, ?_⟩) ?_ ?_
                                        rotate_left
                                        · intro w'
                                          go_simp
                                          with_reducible rfl
                                        rotate_left
                                        · simp only [Act.put, List.setIfInBounds_toArray, List.set_cons_zero, List.set_cons_succ, i64_w, i32_w]
                                          rfl
                                        refine pure_ (i := 11) (N := some 91) (v := ?_) (a' := ?_) #[true, true, false, true, true, false, false, true, false, false, true, true, false, false, false, false, false, false, false, false, false] rfl rfl (any_of HT_.out (by kernel_rfl)) (fun _ _ _ h => h) (Or.inl ⟨by rfl, ?_⟩) ?_ ?_
                                        rotate_left
                                        · intro w'
                                          go_simp
                                          with_reducible rfl
                                        rotate_left
                                        · simp only [Act.put, List.setIfInBounds_toArray, List.set_cons_zero, List.set_cons_succ, i64_w, i32_w]
                                          rfl
                                        refine pure_ (i := 18) (N := some 98) (v := ?_) (a' := ?_) #[true, true, false, true, true, false, false, true, false, false, true, true, false, false, false, false, false, false, true, false, false] rfl rfl (any_of HT_.out (by kernel_rfl)) (fun _ _ _ h => h) (Or.inl ⟨by rfl, ?_⟩) ?_ ?_
                                        rotate_left
                                        · intro w'
                                          go_simp
                                          with_reducible rfl
                                        rotate_left
                                        · simp only [Act.put, List.setIfInBounds_toArray, List.set_cons_zero, List.set_cons_succ, i64_w, i32_w]
                                          rfl
                                        refine take_ (i := 2) (N := some 82) (v := ?_) (a' := ?_) #[true, true, true, true, true, false, false, true, false, false, true, true, false, false, false, false, false, false, true, false, false] rfl rfl (take_ofW HT_.out HW_.out (by kernel_rfl)) (fun _ _ _ h => h) (Or.inl ⟨by rfl, ?_⟩) hHeld ?_ ?_
                                        rotate_left
                                        · rintro w' ⟨s0, s1, s2, s3⟩
                                          go_simp
                                          with_reducible rfl
                                        rotate_left
                                        · simp only [Act.put, List.setIfInBounds_toArray, List.set_cons_zero, List.set_cons_succ, i64_w, i32_w]
                                          rfl
                                        refine take_ (i := 5) (N := some 85) (v := ?_) (a' := ?_) #[true, true, true, true, true, true, false, true, false, false, true, true, false, false, false, false, false, false, true, false, false] rfl rfl (take_ofW HT_.out HW_.out (by kernel_rfl)) (fun _ _ _ h => h) (Or.inl ⟨by rfl, ?_⟩) hHeld ?_ ?_
                                        rotate_left
                                        · rintro w' ⟨s0, s1, s2, s3⟩
                                          go_simp
                                          with_reducible rfl
                                        rotate_left
                                        · simp only [Act.put, List.setIfInBounds_toArray, List.set_cons_zero, List.set_cons_succ, i64_w, i32_w]
                                          rfl
                                        refine pure_ (i := 6) (N := some 86) (v := ?_) (a' := ?_) #[true, true, true, true, true, true, true, true, false, false, true, true, false, false, false, false, false, false, true, false, false] rfl rfl (any_of HT_.out (by kernel_rfl)) (fun _ _ _ h => h) (Or.inl ⟨by rfl, ?_⟩) ?_ ?_
                                        rotate_left
                                        · intro w'
                                          go_simp
                                          with_reducible rfl
                                        rotate_left
                                        · simp only [Act.put, List.setIfInBounds_toArray, List.set_cons_zero, List.set_cons_succ, i64_w, i32_w]
                                          rfl
                                        refine take_ (i := 8) (N := some 88) (v := ?_) (a' := ?_) #[true, true, true, true, true, true, true, true, true, false, true, true, false, false, false, false, false, false, true, false, false] rfl rfl (take_ofW HT_.out HW_.out (by kernel_rfl)) (fun _ _ _ h => h) (Or.inl ⟨by rfl, ?_⟩) hHeld ?_ ?_
                                        rotate_left
                                        · rintro w' ⟨s0, s1, s2, s3⟩
                                          go_simp
                                          with_reducible rfl
                                        rotate_left
                                        · simp only [Act.put, List.setIfInBounds_toArray, List.set_cons_zero, List.set_cons_succ, i64_w, i32_w]
                                          rfl
                                        refine pure_ (i := 9) (N := some 89) (v := ?_) (a' := ?_) #[true, true, true, true, true, true, true, true, true, true, true, true, false, false, false, false, false, false, true, false, false] rfl rfl (any_of HT_.out (by kernel_rfl)) (fun _ _ _ h => h) (Or.inl ⟨by rfl, ?_⟩) ?_ ?_
                                        rotate_left
                                        · intro w'
                                          go_simp
                                          with_reducible rfl
                                        rotate_left
                                        · simp only [Act.put, List.setIfInBounds_toArray, List.set_cons_zero, List.set_cons_succ, i64_w, i32_w]
                                          rfl
                                        refine take_ (i := 12) (N := some 92) (v := ?_) (a' := ?_) #[true, true, true, true, true, true, true, true, true, true, true, true, true, false, false, false, false, false, true, false, false] rfl rfl (take_ofW HT_.out HW_.out (by kernel_rfl)) (fun _ _ _ h => h) (Or.inl ⟨by rfl, ?_⟩) hHeld ?_ ?_
                                        rotate_left
                                        · rintro w' ⟨s0, s1, s2, s3⟩
                                          go_simp
                                          with_reducible rfl
                                        rotate_left
                                        · simp only [Act.put, List.setIfInBounds_toArray, List.set_cons_zero, List.set_cons_succ, i64_w, i32_w]
                                          rfl
                                        refine pure_ (i := 13) (N := some 93) (v := ?_) (a' := ?_) #[true, true, true, true, true, true, true, true, true, true, true, true, true, true, false, false, false, false, true, false, false] rfl rfl (any_of HT_.out (by kernel_rfl)) (fun _ _ _ h => h) (Or.inl ⟨by rfl, ?_⟩) ?_ ?_
                                        rotate_left
                                        · intro w'
                                          go_simp
                                          with_reducible rfl
                                        rotate_left
                                        · simp only [Act.put, List.setIfInBounds_toArray, List.set_cons_zero, List.set_cons_succ, i64_w, i32_w]
                                          rfl
                                        refine pure_ (i := 14) (N := some 94) (v := ?_) (a' := ?_) #[true, true, true, true, true, true, true, true, true, true, true, true, true, true, true, false, false, false, true, false, false] rfl rfl (any_of HT_.out (by kernel_rfl)) (fun _ _ _ h => h) (Or.inl ⟨by rfl, ?_⟩) ?_ ?_
                                        rotate_left
                                        · intro w'
                                          go_simp
                                          with_reducible rfl
                                        rotate_left
                                        · simp only [Act.put, List.setIfInBounds_toArray, List.set_cons_zero, List.set_cons_succ, i64_w, i32_w]
                                          rfl
                                        refine pure_ (i := 15) (N := some 95) (v := ?_) (a' := ?_) #[true, true, true, true, true, true, true, true, true, true, true, true, true, true, true, true, false, false, true, false, false] rfl rfl (any_of HT_.out (by kernel_rfl)) (fun _ _ _ h => h) (Or.inl ⟨by rfl, ?_⟩) ?_ ?_
                                        rotate_left
                                        · intro w'
                                          go_simp
                                          with_reducible rfl
                                        rotate_left
                                        · simp only [Act.put, List.setIfInBounds_toArray, List.set_cons_zero, List.set_cons_succ, i64_w, i32_w]
                                          rfl
                                        refine take_ (i := 16) (N := some 96) (v := ?_) (a' := ?_) #[true, true, true, true, true, true, true, true, true, true, true, true, true, true, true, true, true, false, true, false, false] rfl rfl (take_ofW HT_.out HW_.out (by kernel_rfl)) (fun _ _ _ h => h) (Or.inl ⟨by rfl, ?_⟩) hHeld ?_ ?_
                                        rotate_left
                                        · rintro w' ⟨s0, s1, s2, s3⟩
                                          go_simp
                                          with_reducible rfl
                                        rotate_left
                                        · simp only [Act.put, List.setIfInBounds_toArray, List.set_cons_zero, List.set_cons_succ, i64_w, i32_w]
                                          rfl
                                        refine pure_ (i := 17) (N := some 97) (v := ?_) (a' := ?_) #[true, true, true, true, true, true, true, true, true, true, true, true, true, true, true, true, true, true, true, false, false] rfl rfl (any_of HT_.out (by kernel_rfl)) (fun _ _ _ h => h) (Or.inl ⟨by rfl, ?_⟩) ?_ ?_
                                        rotate_left
                                        · intro w'
                                          go_simp
                                          with_reducible rfl
                                        rotate_left
                                        · simp only [Act.put, List.setIfInBounds_toArray, List.set_cons_zero, List.set_cons_succ, i64_w, i32_w]
                                          rfl
                                        refine pure_ (i := 19) (N := some 99) (v := ?_) (a' := ?_) #[true, true, true, true, true, true, true, true, true, true, true, true, true, true, true, true, true, true, true, true, false] rfl rfl (any_of HT_.out (by kernel_rfl)) (fun _ _ _ h => h) (Or.inl ⟨by rfl, ?_⟩) ?_ ?_
                                        rotate_left
                                        · intro w'
                                          go_simp
                                          with_reducible rfl
                                        rotate_left
                                        · simp only [Act.put, List.setIfInBounds_toArray, List.set_cons_zero, List.set_cons_succ, i64_w, i32_w]
                                          rfl
                                        refine pure_ (i := 20) (N := some 100) (v := ?_) (a' := ?_) #[true, true, true, true, true, true, true, true, true, true, true, true, true, true, true, true, true, true, true, true, true] rfl rfl (any_of HT_.out (by kernel_rfl)) (fun _ _ _ h => h) (Or.inl ⟨by rfl, ?_⟩) ?_ ?_
                                        rotate_left
                                        · intro w'
                                          go_simp
                                          with_reducible rfl
                                        rotate_left
                                        · simp only [Act.put, List.setIfInBounds_toArray, List.set_cons_zero, List.set_cons_succ, i64_w, i32_w]
                                          rfl
                                        refine done_ (done_of HT_.out (by kernel_rfl)) ?_
                                        try go_wp2
                                        go_roundg k2
                                        case measure => have := HJ6.out; have := HK2.out; omega
                                        case rel => exact ⟨(wrap64 (x54_2 + 1)), (by first | rfl | (simp; done) | (simp [*]; done)), H', ⟨by have := HJ6.out; have := HK2.out; omega⟩, ⟨by (with_reducible repeat (first | apply Kd.R_alloc | apply Kd.R_drewN | apply Kd.R_drew)); exact Kd.R_mono HO_52.out (fun _ hk => hk.1)⟩, ⟨by (with_reducible repeat (first | apply Kd.R_alloc | apply Kd.R_drewN | apply Kd.R_drew)); exact Kd.R_mono HO_667002.out (fun _ hk => ⟨hk.1.1, hk.1.2⟩)⟩, ⟨by (with_reducible repeat (first | apply Kd.R_alloc | apply Kd.R_drewN | apply Kd.R_drew)); exact Kd.R_mono HO_674002.out (fun _ hk => hk.1)⟩, ⟨by (with_reducible repeat (first | refine blk_drewN ?_ _ | refine blk_drew ?_ | refine blk_alloc ?_ _)); exact BK666.out⟩, ⟨by (with_reducible repeat (first | refine blk_drewN ?_ _ | refine blk_drew ?_ | refine blk_alloc ?_ _)); exact BK673.out⟩, ⟨by repeat (first | (with_reducible first | exact HB.out | apply below_alloc | apply pw_below_drewN | apply below_drew1 | refine below_set ?_ GE666.out | refine below_set ?_ GE673.out) | exact HB.out)⟩⟩
                                      · rw [if_neg c49] at H
                                        have c49b0 : ((rd t669 x54_2) == (wrap64 ((wrap64 (4 * (rd t663 (ji46)))) + (rd y676 (ji43))))) = false := beq_eq_false_iff_ne.mpr c49
                                        have c49b1 : ((rd t669 x54_2) != (wrap64 ((wrap64 (4 * (rd t663 (ji46)))) + (rd y676 (ji43))))) = true := bne_iff_ne.mpr c49
                                        exact absurd ((Option.some.inj H).trans hT.out) (by decide)
                                    · rw [if_neg c48] at H
                                      exact absurd H (by simp)
                                  · rw [if_neg c47] at H
                                    exact absurd H (by simp)
                                · rw [if_neg c45] at H
                                  exact absurd H (by simp)
                              · rw [if_neg c44] at H
                                exact absurd H (by simp)
                      · rw [if_neg c39] at H
                        exact absurd H (by simp)
                    · rw [if_neg c38] at H
                      exact absurd H (by simp)
                  · rw [if_neg c37] at H
                    have c37b0 : decide (x54_2 < (t669.length : Int)) = false := decide_eq_false c37
                    clear c37
                    obtain rfl := Option.some.inj H
                    go_wp2
                    go_ret
                    exact ⟨by first | rfl | (simp [errW_none, errW_some] <;> rfl) | (simp [*, errW_none, errW_some] <;> rfl), by repeat (first | (with_reducible first | exact HB.out | apply below_alloc | apply pw_below_drewN | apply below_drew1 | refine below_set ?_ GE666.out | refine below_set ?_ GE673.out) | exact HB.out)⟩
      · replace c6 := Bool.eq_false_iff.mpr c6
        subst c6
        have H1 : (some true) = some r := by rw [if_neg (show ¬ (false = true) by decide)] at H; exact H
        clear H
        have H := H1
        clear H1
        obtain rfl := Option.some.inj H
        go_enter Try.func11, Try.ntmps11
        go_wp2_with (first | ((with_reducible refine gate_callee (f := 37) rfl ?_); refine goesL_ (some 15) rfl rfl Try.func37 (by kernel_rfl) rfl #[.slice A0 l0.length c0] rfl (by (try simp only [List.map_toArray, List.map_cons, List.map_nil]); first | done | rfl | (simp only [List.length_drop, List.length_take]; rfl)) ?_; (with_reducible refine (spec_MakeMatrix.calls k _ _ l0 t661 t662 t663 _ ?side1 ?side2 A3.out).mono ?_); (case side1 => repeat (first | exact HR0.out | (with_reducible refine Kd.C_alloc ?_ _) | (with_reducible refine Kd.C_drewN ?_ _) | (with_reducible refine Kd.C_drew ?_))); (case side2 => exact HC0.out); rintro e w57 ⟨v664, rfl, ho0, hb⟩; refine ⟨_, rfl, ?_⟩; have n0_ := Aside0.mk (Kd.R_lower ho0 (below_size (by repeat (first | (with_reducible first | exact HB.out | apply below_alloc | apply pw_below_drewN | apply below_drew1) | exact HB.out)))); have n1_ := Aside0.mk (below_step (by repeat (first | (with_reducible first | exact HB.out | apply below_alloc | apply pw_below_drewN | apply below_drew1) | exact HB.out)) hb); clear HB; have HO665 := n0_; have HB := n1_; clear n0_ n1_; (try clear hb); (try clear hb2); (try clear hk); (try clear hi); (try clear ho0)) | ((with_reducible refine gate_dst (N := 3) rfl ?_); refine box_event ?hg (N := 3) ?hd (cs := #[.int .i64 0, .int .i64 0, .slice none 0 0]) (t := 26) ?hr ?_; (case hd => rfl); (case hg => rfl); (case hr => first | (go_simp; done) | (go_simp; rfl)); intro gb666 hg w58 hbox hb; have n0_ := Aside0.mk (Kd.R_below (by (with_reducible repeat (first | apply Kd.R_alloc | apply Kd.R_drewN | apply Kd.R_drew)); exact HO665.out) hb); have n1_ := Aside0.mk (below_step (by repeat (first | (with_reducible first | exact HB.out | apply below_alloc | apply pw_below_drewN | apply below_drew1) | exact HB.out)) hb); have n2_ := Aside0.mk (hbox); have n3_ := Aside0.mk ((by rw [hg]; exact (below_size (by repeat (first | (with_reducible first | exact HB.out | apply below_alloc | apply pw_below_drewN | apply below_drew1) | exact HB.out))) : w.heap.size ≤ gb666)); have n4_ := Aside0.mk ((by rw [hg]; exact (below_size (by repeat (first | (with_reducible first | exact HB.out | apply below_alloc | apply pw_below_drewN | apply below_drew1) | exact HB.out))) : w.heap.size ≤ gb666)); clear HO665; clear HB; have HO665 := n0_; have HB := n1_; have BK666 := n2_; have GW666 := n3_; have GE666 := n4_; clear n0_ n1_ n2_ n3_ n4_; clear hb hbox hg; have hcz59_0 : w58.cell? ⟨gb666, 0, none⟩ = some (.int .i64 0) := (blk_cell BK666.out 0).trans rfl; have hcz59_1 : w58.cell? ⟨gb666, 1, none⟩ = some (.int .i64 0) := (blk_cell BK666.out 1).trans rfl; have hcz59_2 : w58.cell? ⟨gb666, 2, none⟩ = some (.slice none 0 0) := (blk_cell BK666.out 2).trans rfl; have hfz59_0 := blk_frozen BK666.out 0; have hfz59_1 := blk_frozen BK666.out 1; have hfz59_2 := blk_frozen BK666.out 2; obtain ⟨Ao60, co60, eo60⟩ := Kd.R_slice HO665.out; subst eo60) | ((with_reducible refine gate_callee (f := 31) rfl ?_); refine goesL_ (some 18) rfl rfl Try.func31 (by kernel_rfl) rfl #[.agg #[.int .i64 t661, .int .i64 t662, .slice Ao60 t663.length co60]] rfl (by (try simp only [List.map_toArray, List.map_cons, List.map_nil]); first | done | rfl | (simp only [List.length_drop, List.length_take]; rfl)) ?_; (with_reducible refine (impl_DoubleMatrix.calls t661 t662 _ _ t663 t667 t668 t669 false _ ?side1 ?side2 A4.out).mono ?_); (case side1 => refine (Kd.R_reads' (e := 3) (base := w.heap.size) (ok := fun k_ => True) (n := t663.length) (c := co60) ?_).2.2; exact (by (with_reducible repeat (first | apply Kd.R_alloc | apply Kd.R_drewN | apply Kd.R_drew)); exact (Kd.R_mono (Kd.R_far (p := ⟨gb666, 2, none⟩) (Kd.R_far (p := ⟨gb666, 1, none⟩) (Kd.R_far (p := ⟨gb666, 0, none⟩) (Kd.R_types HO665.out BK666.out (by decide)) (fun _ hk => hk.2) (.int .i64 t661)) (fun _ hk => hk.2) (.int .i64 t662)) (fun _ hk => hk.2) (.slice Ao60 t663.length co60)) (fun _ h_ => h_.1)))); (case side2 => exact (Kd.R_reads' HO665.out).2.1); rintro e w61 ⟨v670, rfl, ho0, hb⟩; refine ⟨_, rfl, ?_⟩; have n0_ := Aside0.mk (Kd.R_elder' (by (with_reducible repeat (first | apply Kd.R_alloc | apply Kd.R_drewN | apply Kd.R_drew)); exact (Kd.R_mono (Kd.R_far (p := ⟨gb666, 2, none⟩) (Kd.R_far (p := ⟨gb666, 1, none⟩) (Kd.R_far (p := ⟨gb666, 0, none⟩) (Kd.R_types HO665.out BK666.out (by decide)) (fun _ hk => hk.2) (.int .i64 t661)) (fun _ hk => hk.2) (.int .i64 t662)) (fun _ hk => hk.2) (.slice Ao60 t663.length co60)) (fun _ h_ => h_.1))) (Kd.R_base ho0) hb); have n1_ := Aside0.mk (Kd.R_lower (Kd.R_new' ho0 (Kd.R_lt (by (with_reducible repeat (first | apply Kd.R_alloc | apply Kd.R_drewN | apply Kd.R_drew)); exact (Kd.R_mono (Kd.R_far (p := ⟨gb666, 2, none⟩) (Kd.R_far (p := ⟨gb666, 1, none⟩) (Kd.R_far (p := ⟨gb666, 0, none⟩) (Kd.R_types HO665.out BK666.out (by decide)) (fun _ hk => hk.2) (.int .i64 t661)) (fun _ hk => hk.2) (.int .i64 t662)) (fun _ hk => hk.2) (.slice Ao60 t663.length co60)) (fun _ h_ => h_.1))))) (below_size (by repeat (first | (with_reducible first | exact HB.out | apply below_alloc | apply pw_below_drewN | apply below_drew1 | refine below_set ?_ GE666.out) | exact HB.out)))); have n2_ := Aside0.mk (blk_below (g := gb666) (o := .cells #[.int .i64 t661, .int .i64 t662, .slice Ao60 t663.length co60] 26 (0, 0)) (by (with_reducible repeat (first | refine blk_drewN ?_ _ | refine blk_drew ?_ | refine blk_alloc ?_ _)); refine blk_put (cs := #[.int .i64 t661, .int .i64 t662, .slice none 0 0]) ?_ 2 _ rfl; (with_reducible repeat (first | refine blk_drewN ?_ _ | refine blk_drew ?_ | refine blk_alloc ?_ _)); refine blk_put (cs := #[.int .i64 t661, .int .i64 0, .slice none 0 0]) ?_ 1 _ rfl; (with_reducible repeat (first | refine blk_drewN ?_ _ | refine blk_drew ?_ | refine blk_alloc ?_ _)); refine blk_put (cs := #[.int .i64 0, .int .i64 0, .slice none 0 0]) ?_ 0 _ rfl; (with_reducible repeat (first | refine blk_drewN ?_ _ | refine blk_drew ?_ | refine blk_alloc ?_ _)); exact BK666.out) hb); have n3_ := Aside0.mk (below_step (by repeat (first | (with_reducible first | exact HB.out | apply below_alloc | apply pw_below_drewN | apply below_drew1 | refine below_set ?_ GE666.out) | exact HB.out)) hb); clear HO665; clear BK666; clear HB; have HO665 := n0_; have HO671 := n1_; have BK666 := n2_; have HB := n3_; clear n0_ n1_ n2_ n3_; (try clear hb); (try clear hb2); (try clear hk); (try clear hi); (try clear ho0)) | ((with_reducible refine gate_dst (N := 4) rfl ?_); refine box_event ?hg (N := 4) ?hd (cs := #[.int .i64 0, .int .i64 0, .slice none 0 0]) (t := 26) ?hr ?_; (case hd => rfl); (case hg => rfl); (case hr => first | (go_simp; done) | (go_simp; rfl)); intro gb673 hg w62 hbox hb; have n0_ := Aside0.mk (Kd.R_below (by (with_reducible repeat (first | apply Kd.R_alloc | apply Kd.R_drewN | apply Kd.R_drew)); exact HO665.out) hb); have n1_ := Aside0.mk (Kd.R_below (by (with_reducible repeat (first | apply Kd.R_alloc | apply Kd.R_drewN | apply Kd.R_drew)); exact HO671.out) hb); have n2_ := Aside0.mk (blk_below (g := gb666) (o := .cells #[.int .i64 t661, .int .i64 t662, .slice Ao60 t663.length co60] 26 (0, 0)) (by (with_reducible repeat (first | refine blk_drewN ?_ _ | refine blk_drew ?_ | refine blk_alloc ?_ _)); exact BK666.out) hb); have n3_ := Aside0.mk (below_step (by repeat (first | (with_reducible first | exact HB.out | apply below_alloc | apply pw_below_drewN | apply below_drew1 | refine below_set ?_ GE666.out) | exact HB.out)) hb); have n4_ := Aside0.mk (hbox); have n5_ := Aside0.mk ((by rw [hg]; exact (below_size (by repeat (first | (with_reducible first | exact HB.out | apply below_alloc | apply pw_below_drewN | apply below_drew1 | refine below_set ?_ GE666.out) | exact HB.out))) : w.heap.size ≤ gb673)); have n6_ := Aside0.mk ((by rw [hg]; exact (below_size (by repeat (first | (with_reducible first | exact HB.out | apply below_alloc | apply pw_below_drewN | apply below_drew1 | refine below_set ?_ GE666.out) | exact HB.out))) : w.heap.size ≤ gb673)); have n7_ := Aside0.mk ((by rw [hg]; exact Nat.ne_of_lt (blk_lt (g := gb666) (o := .cells #[.int .i64 t661, .int .i64 t662, .slice Ao60 t663.length co60] 26 (0, 0)) (by (with_reducible repeat (first | refine blk_drewN ?_ _ | refine blk_drew ?_ | refine blk_alloc ?_ _)); exact BK666.out)) : gb666 ≠ gb673)); have n8_ := Aside0.mk ((by rw [hg]; exact Nat.ne_of_gt (blk_lt (g := gb666) (o := .cells #[.int .i64 t661, .int .i64 t662, .slice Ao60 t663.length co60] 26 (0, 0)) (by (with_reducible repeat (first | refine blk_drewN ?_ _ | refine blk_drew ?_ | refine blk_alloc ?_ _)); exact BK666.out)) : gb673 ≠ gb666)); clear HO665; clear HO671; clear BK666; clear HB; have HO665 := n0_; have HO671 := n1_; have BK666 := n2_; have HB := n3_; have BK673 := n4_; have GW673 := n5_; have GE673 := n6_; have NB666_673 := n7_; have NB673_666 := n8_; clear n0_ n1_ n2_ n3_ n4_ n5_ n6_ n7_ n8_; clear hb hbox hg; have hnb63 := NB673_666.out; have hnc63 := NB666_673.out; have hcz64_0 : w62.cell? ⟨gb673, 0, none⟩ = some (.int .i64 0) := (blk_cell BK673.out 0).trans rfl; have hcz64_1 : w62.cell? ⟨gb673, 1, none⟩ = some (.int .i64 0) := (blk_cell BK673.out 1).trans rfl; have hcz64_2 : w62.cell? ⟨gb673, 2, none⟩ = some (.slice none 0 0) := (blk_cell BK673.out 2).trans rfl; have hfz64_0 := blk_frozen BK673.out 0; have hfz64_1 := blk_frozen BK673.out 1; have hfz64_2 := blk_frozen BK673.out 2; obtain ⟨Ao65, co65, eo65⟩ := Kd.R_slice HO671.out; subst eo65; have hcz66_0 : w62.cell? ⟨gb666, 0, none⟩ = some (.int .i64 t661) := (blk_cell BK666.out 0).trans rfl; have hcz66_1 : w62.cell? ⟨gb666, 1, none⟩ = some (.int .i64 t662) := (blk_cell BK666.out 1).trans rfl; have hcz66_2 : w62.cell? ⟨gb666, 2, none⟩ = some (.slice Ao60 t663.length co60) := (blk_cell BK666.out 2).trans rfl; have hfz66_0 := blk_frozen BK666.out 0; have hfz66_1 := blk_frozen BK666.out 1; have hfz66_2 := blk_frozen BK666.out 2))
        go_ret
        exact ⟨by first | rfl | (simp [errW_none, errW_some] <;> rfl) | (simp [*, errW_none, errW_some] <;> rfl), by repeat (first | (with_reducible first | exact HB.out | apply below_alloc | apply pw_below_drewN | apply below_drew1 | refine below_set ?_ GE666.out | refine below_set ?_ GE673.out) | exact HB.out)⟩

end Go.Proofs.Ytdlehfnlibddcaa.P
