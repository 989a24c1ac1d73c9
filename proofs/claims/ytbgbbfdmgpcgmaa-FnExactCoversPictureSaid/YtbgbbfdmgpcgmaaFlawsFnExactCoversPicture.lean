-- Written by tools/seatprint.py (over the kit's print, changed in memory). Not trusted: Lean checks it.
import Derived.Test.YtbgbbfdmgpcgmaaP0
import Derived.Test.YtbgbbfdmgpcgmaaFlawsszPicture
import Derived.Test.YtbgbbfdmgpcgmaaFlawstoPicture
import Derived.Test.YtbgbbfdmgpcgmaaFlawseqPicture
import Derived.Test.YtbgbbfdmgpcgmaaFspecCoversPicture
import Derived.Test.YtbgbbfdmgpcgmaaFimplCoversPicture
namespace Go.Proofs.Ytbgbbfdmgpcgmaa.P
open Go.RowKit Go.Proofs.YtbgbbfdmgpcgmaaW.PrintWords Go.Proofs.YtbgbbfdmgpcgmaaW.PrintLast Go.Proofs.YtbgbbfdmgpcgmaaW.PrintMore
attribute [local go_sem] max2_int min2_int max_two min_two max_three min_three max_four min_four   -- for this text's walks alone
set_option linter.unusedVariables false
set_option linter.unusedSimpArgs false

/-! ### laws_FnExactCoversPicture: function 18 -/
def laws_FnExactCoversPicture.f (k : Nat) (a0_0 : Int) (a0_1 : Int) (l0_2 : List Int) (a1_0 : Int) (a1_1 : Int) (l1_2 : List Int) : Option (Bool) := (laws_szPicture.f a0_0 a0_1 l0_2 1048576).bind fun t790 => (if t790 < 0 then (some true) else ((laws_szPicture.f a1_0 a1_1 l1_2 t790).bind fun t791 => (if t791 < 0 then (some true) else ((laws_toPicture.f k a0_0 a0_1 l0_2).bind fun bt792 => ((laws_toPicture.f k a1_0 a1_1 l1_2).bind fun bt797 => ((spec_CoversPicture.f k bt792.1 bt792.2.1 bt792.2.2 bt797.1 bt797.2.1 bt797.2.2).bind fun t802 => ((laws_toPicture.f k a0_0 a0_1 l0_2).bind fun bt803 => ((laws_toPicture.f k a1_0 a1_1 l1_2).bind fun bt809 => ((impl_CoversPicture.f k bt803.1 bt803.2.1 bt803.2.2 bt809.1 bt809.2.1 bt809.2.2).bind fun t815 => (if (t815 != t802) = true then (some false) else ((laws_toPicture.f k a0_0 a0_1 l0_2).bind fun bt816 => ((laws_eqPicture.f k bt803.1 bt803.2.1 bt803.2.2 bt816.1 bt816.2.1 bt816.2.2).bind fun t821 => (if t821 = true then ((laws_toPicture.f k a1_0 a1_1 l1_2).bind fun bt822 => ((laws_eqPicture.f k bt809.1 bt809.2.1 bt809.2.2 bt822.1 bt822.2.1 bt822.2.2).bind fun t827 => (if t827 = true then (some true) else (some false)))) else (some false))))))))))))))
theorem laws_FnExactCoversPicture.mono : ∀ a0 a1 a2 a3 a4 a5 k, LeO (laws_FnExactCoversPicture.f k a0 a1 a2 a3 a4 a5) (laws_FnExactCoversPicture.f (k + 1) a0 a1 a2 a3 a4 a5) := by
  intro a0 a1 a2 a3 a4 a5 k
  unfold laws_FnExactCoversPicture.f
  repeat' first
      | (with_reducible exact impl_CoversPicture.mono _ _ _ _ _ _ _)
      | (with_reducible exact laws_eqPicture.mono _ _ _ _ _ _ _)
      | (with_reducible exact laws_toPicture.mono _ _ _ _)
      | (with_reducible exact spec_CoversPicture.mono _ _ _ _ _ _ _)
      | (with_reducible exact LeO.refl _)
      | (with_reducible exact LeO.none _)
      | (with_reducible refine LeO.ite ?_ ?_)
      | (with_reducible refine LeO.bind ?_ (fun _ => ?_))
      | exact impl_CoversPicture.mono _ _ _ _ _ _ _
      | exact laws_eqPicture.mono _ _ _ _ _ _ _
      | exact laws_toPicture.mono _ _ _ _
      | exact spec_CoversPicture.mono _ _ _ _ _ _ _
      | exact LeO.none _
      | refine LeO.ite ?_ ?_
      | refine LeO.bind ?_ (fun _ => ?_)
set_option maxHeartbeats 8000000 in
set_option maxRecDepth 100000 in
theorem laws_FnExactCoversPicture.calls (k : Nat) (a0_0 : Int) (a0_1 : Int) (A0_2 : Option Addr) (c0_2 : Nat) (l0_2 : List Int) (a1_0 : Int) (a1_1 : Int) (A1_2 : Option Addr) (c1_2 : Nat) (l1_2 : List Int) (r : Bool) (w : World) (hr0_2 : Kd.C (Kd.int .i64) w A0_2 l0_2.length l0_2) (hc0_2 : l0_2.length ≤ c0_2) (hr1_2 : Kd.C (Kd.int .i64) w A1_2 l1_2.length l1_2) (hc1_2 : l1_2.length ≤ c1_2) (hT : Aside0 (r = true)) (h : laws_FnExactCoversPicture.f k a0_0 a0_1 l0_2 a1_0 a1_1 l1_2 = some r) :
    Calls Try.prog 18 #[.agg #[.int .i64 a0_0, .int .i64 a0_1, .slice A0_2 l0_2.length c0_2], .agg #[.int .i64 a1_0, .int .i64 a1_1, .slice A1_2 l1_2.length c1_2]] w fun e w' => e = .returned (.bool r) ∧ Below w.heap.size w w' := by
  have hu34 := Try.underlying34
  have hu37 := Try.underlying37
  have HR0_2 := Aside0.mk hr0_2
  have HC0_2 := Aside0.mk hc0_2
  clear hr0_2 hc0_2
  have HR1_2 := Aside0.mk hr1_2
  have HC1_2 := Aside0.mk hc1_2
  clear hr1_2 hc1_2
  have HB := Aside0.mk (Below.refl w.heap.size w)
  have H : ((laws_szPicture.f a0_0 a0_1 l0_2 1048576).bind fun t790 => (if t790 < 0 then (some true) else ((laws_szPicture.f a1_0 a1_1 l1_2 t790).bind fun t791 => (if t791 < 0 then (some true) else ((laws_toPicture.f k a0_0 a0_1 l0_2).bind fun bt792 => ((laws_toPicture.f k a1_0 a1_1 l1_2).bind fun bt797 => ((spec_CoversPicture.f k bt792.1 bt792.2.1 bt792.2.2 bt797.1 bt797.2.1 bt797.2.2).bind fun t802 => ((laws_toPicture.f k a0_0 a0_1 l0_2).bind fun bt803 => ((laws_toPicture.f k a1_0 a1_1 l1_2).bind fun bt809 => ((impl_CoversPicture.f k bt803.1 bt803.2.1 bt803.2.2 bt809.1 bt809.2.1 bt809.2.2).bind fun t815 => (if (t815 != t802) = true then (some false) else ((laws_toPicture.f k a0_0 a0_1 l0_2).bind fun bt816 => ((laws_eqPicture.f k bt803.1 bt803.2.1 bt803.2.2 bt816.1 bt816.2.1 bt816.2.2).bind fun t821 => (if t821 = true then ((laws_toPicture.f k a1_0 a1_1 l1_2).bind fun bt822 => ((laws_eqPicture.f k bt809.1 bt809.2.1 bt809.2.2 bt822.1 bt822.2.1 bt822.2.2).bind fun t827 => (if t827 = true then (some true) else (some false)))) else (some false))))))))))))))) = some r := h
  clear h
  replace H := Option.bind_eq_some_iff.mp H
  obtain ⟨t790, A30, H⟩ := H
  replace H : (if t790 < 0 then (some true) else ((laws_szPicture.f a1_0 a1_1 l1_2 t790).bind fun t791 => (if t791 < 0 then (some true) else ((laws_toPicture.f k a0_0 a0_1 l0_2).bind fun bt792 => ((laws_toPicture.f k a1_0 a1_1 l1_2).bind fun bt797 => ((spec_CoversPicture.f k bt792.1 bt792.2.1 bt792.2.2 bt797.1 bt797.2.1 bt797.2.2).bind fun t802 => ((laws_toPicture.f k a0_0 a0_1 l0_2).bind fun bt803 => ((laws_toPicture.f k a1_0 a1_1 l1_2).bind fun bt809 => ((impl_CoversPicture.f k bt803.1 bt803.2.1 bt803.2.2 bt809.1 bt809.2.1 bt809.2.2).bind fun t815 => (if (t815 != t802) = true then (some false) else ((laws_toPicture.f k a0_0 a0_1 l0_2).bind fun bt816 => ((laws_eqPicture.f k bt803.1 bt803.2.1 bt803.2.2 bt816.1 bt816.2.1 bt816.2.2).bind fun t821 => (if t821 = true then ((laws_toPicture.f k a1_0 a1_1 l1_2).bind fun bt822 => ((laws_eqPicture.f k bt809.1 bt809.2.1 bt809.2.2 bt822.1 bt822.2.1 bt822.2.2).bind fun t827 => (if t827 = true then (some true) else (some false)))) else (some false)))))))))))))) = some r := H
  have A3 := Aside0.mk A30
  clear A30
  by_cases c4 : t790 < 0
  · rw [if_pos c4] at H
    have c4b0 : decide (t790 < 0) = true := decide_eq_true c4
    clear c4
    obtain rfl := Option.some.inj H
    go_enter Try.func18, Try.ntmps18
    go_wp2_with (first | ((with_reducible refine gate_dst (N := 2) rfl ?_); refine box_event ?hg (N := 2) ?hd (cs := #[.int .i64 a0_0, .int .i64 a0_1, .slice A0_2 l0_2.length c0_2]) (t := 34) ?hr ?_; (case hd => rfl); (case hg => rfl); (case hr => first | (go_simp; done) | (go_simp; rfl)); intro gb788 hg w5 hbox hb; have n0_ := Aside0.mk (below_step (by repeat (first | (with_reducible first | exact HB.out | apply below_alloc | apply pw_below_drewN | apply below_drew1) | exact HB.out)) hb); have n1_ := Aside0.mk (hbox); have n2_ := Aside0.mk ((by rw [hg]; exact (below_size (by repeat (first | (with_reducible first | exact HB.out | apply below_alloc | apply pw_below_drewN | apply below_drew1) | exact HB.out))) : w.heap.size ≤ gb788)); have n3_ := Aside0.mk ((by rw [hg]; exact (below_size (by repeat (first | (with_reducible first | exact HB.out | apply below_alloc | apply pw_below_drewN | apply below_drew1) | exact HB.out))) : w.heap.size ≤ gb788)); clear HB; have HB := n0_; have BK788 := n1_; have GW788 := n2_; have GE788 := n3_; clear n0_ n1_ n2_ n3_; clear hb hbox hg) | ((with_reducible refine gate_dst (N := 3) rfl ?_); refine box_event ?hg (N := 3) ?hd (cs := #[.int .i64 a1_0, .int .i64 a1_1, .slice A1_2 l1_2.length c1_2]) (t := 34) ?hr ?_; (case hd => rfl); (case hg => rfl); (case hr => first | (go_simp; done) | (go_simp; rfl)); intro gb789 hg w6 hbox hb; have n0_ := Aside0.mk (blk_below (g := gb788) (o := .cells #[.int .i64 a0_0, .int .i64 a0_1, .slice A0_2 l0_2.length c0_2] 34 (0, 0)) (by (with_reducible repeat (first | refine blk_drewN ?_ _ | refine blk_drew ?_ | refine blk_alloc ?_ _)); exact BK788.out) hb); have n1_ := Aside0.mk (below_step (by repeat (first | (with_reducible first | exact HB.out | apply below_alloc | apply pw_below_drewN | apply below_drew1 | refine below_set ?_ GE788.out) | exact HB.out)) hb); have n2_ := Aside0.mk (hbox); have n3_ := Aside0.mk ((by rw [hg]; exact (below_size (by repeat (first | (with_reducible first | exact HB.out | apply below_alloc | apply pw_below_drewN | apply below_drew1 | refine below_set ?_ GE788.out) | exact HB.out))) : w.heap.size ≤ gb789)); have n4_ := Aside0.mk ((by rw [hg]; exact (below_size (by repeat (first | (with_reducible first | exact HB.out | apply below_alloc | apply pw_below_drewN | apply below_drew1 | refine below_set ?_ GE788.out) | exact HB.out))) : w.heap.size ≤ gb789)); have n5_ := Aside0.mk ((by rw [hg]; exact Nat.ne_of_lt (blk_lt (g := gb788) (o := .cells #[.int .i64 a0_0, .int .i64 a0_1, .slice A0_2 l0_2.length c0_2] 34 (0, 0)) (by (with_reducible repeat (first | refine blk_drewN ?_ _ | refine blk_drew ?_ | refine blk_alloc ?_ _)); exact BK788.out)) : gb788 ≠ gb789)); have n6_ := Aside0.mk ((by rw [hg]; exact Nat.ne_of_gt (blk_lt (g := gb788) (o := .cells #[.int .i64 a0_0, .int .i64 a0_1, .slice A0_2 l0_2.length c0_2] 34 (0, 0)) (by (with_reducible repeat (first | refine blk_drewN ?_ _ | refine blk_drew ?_ | refine blk_alloc ?_ _)); exact BK788.out)) : gb789 ≠ gb788)); clear BK788; clear HB; have BK788 := n0_; have HB := n1_; have BK789 := n2_; have GW789 := n3_; have GE789 := n4_; have NB788_789 := n5_; have NB789_788 := n6_; clear n0_ n1_ n2_ n3_ n4_ n5_ n6_; clear hb hbox hg; have hnb7 := NB788_789.out; have hnc7 := NB789_788.out; have hcz8_0 : w6.cell? ⟨gb788, 0, none⟩ = some (.int .i64 a0_0) := (blk_cell BK788.out 0).trans rfl; have hcz8_1 : w6.cell? ⟨gb788, 1, none⟩ = some (.int .i64 a0_1) := (blk_cell BK788.out 1).trans rfl; have hcz8_2 : w6.cell? ⟨gb788, 2, none⟩ = some (.slice A0_2 l0_2.length c0_2) := (blk_cell BK788.out 2).trans rfl; have hfz8_0 := blk_frozen BK788.out 0; have hfz8_1 := blk_frozen BK788.out 1; have hfz8_2 := blk_frozen BK788.out 2) | ((with_reducible refine gate_callee (f := 46) rfl ?_); refine goesL_ (some 12) rfl rfl Try.func46 (by kernel_rfl) rfl #[.agg #[.int .i64 a0_0, .int .i64 a0_1, .slice A0_2 l0_2.length c0_2], .int .i64 1048576] rfl (by (try simp only [List.map_toArray, List.map_cons, List.map_nil]); first | done | rfl | (simp only [List.length_drop, List.length_take]; rfl)) ?_; (with_reducible refine (laws_szPicture.calls a0_0 a0_1 _ _ l0_2 1048576 t790 _ ?side1 ?side2 A3.out).mono ?_); (case side1 => repeat (first | exact (Kd.C_below HR0_2.out HB.out) | (with_reducible refine Kd.C_alloc ?_ _) | (with_reducible refine Kd.C_drewN ?_ _) | (with_reducible refine Kd.C_drew ?_))); (case side2 => exact HC0_2.out); rintro e w9 ⟨rfl, hb⟩; refine ⟨_, rfl, ?_⟩; have n0_ := Aside0.mk (blk_below (g := gb788) (o := .cells #[.int .i64 a0_0, .int .i64 a0_1, .slice A0_2 l0_2.length c0_2] 34 (0, 0)) (by (with_reducible repeat (first | refine blk_drewN ?_ _ | refine blk_drew ?_ | refine blk_alloc ?_ _)); exact BK788.out) hb); have n1_ := Aside0.mk (blk_below (g := gb789) (o := .cells #[.int .i64 a1_0, .int .i64 a1_1, .slice A1_2 l1_2.length c1_2] 34 (0, 0)) (by (with_reducible repeat (first | refine blk_drewN ?_ _ | refine blk_drew ?_ | refine blk_alloc ?_ _)); exact BK789.out) hb); have n2_ := Aside0.mk (below_step (by repeat (first | (with_reducible first | exact HB.out | apply below_alloc | apply pw_below_drewN | apply below_drew1 | refine below_set ?_ GE788.out | refine below_set ?_ GE789.out) | exact HB.out)) hb); clear BK788; clear BK789; clear HB; have BK788 := n0_; have BK789 := n1_; have HB := n2_; clear n0_ n1_ n2_; (try clear hb); (try clear hb2); (try clear hk); (try clear hi)))
    go_ret
    exact ⟨by first | rfl | (simp [errW_none, errW_some] <;> rfl) | (simp [*, errW_none, errW_some] <;> rfl), by repeat (first | (with_reducible first | exact HB.out | apply below_alloc | apply pw_below_drewN | apply below_drew1 | refine below_set ?_ GE788.out | refine below_set ?_ GE789.out) | exact HB.out)⟩
  · rw [if_neg c4] at H
    have c4b0 : decide (t790 < 0) = false := decide_eq_false c4
    clear c4
    replace H := Option.bind_eq_some_iff.mp H
    obtain ⟨t791, A100, H⟩ := H
    replace H : (if t791 < 0 then (some true) else ((laws_toPicture.f k a0_0 a0_1 l0_2).bind fun bt792 => ((laws_toPicture.f k a1_0 a1_1 l1_2).bind fun bt797 => ((spec_CoversPicture.f k bt792.1 bt792.2.1 bt792.2.2 bt797.1 bt797.2.1 bt797.2.2).bind fun t802 => ((laws_toPicture.f k a0_0 a0_1 l0_2).bind fun bt803 => ((laws_toPicture.f k a1_0 a1_1 l1_2).bind fun bt809 => ((impl_CoversPicture.f k bt803.1 bt803.2.1 bt803.2.2 bt809.1 bt809.2.1 bt809.2.2).bind fun t815 => (if (t815 != t802) = true then (some false) else ((laws_toPicture.f k a0_0 a0_1 l0_2).bind fun bt816 => ((laws_eqPicture.f k bt803.1 bt803.2.1 bt803.2.2 bt816.1 bt816.2.1 bt816.2.2).bind fun t821 => (if t821 = true then ((laws_toPicture.f k a1_0 a1_1 l1_2).bind fun bt822 => ((laws_eqPicture.f k bt809.1 bt809.2.1 bt809.2.2 bt822.1 bt822.2.1 bt822.2.2).bind fun t827 => (if t827 = true then (some true) else (some false)))) else (some false)))))))))))) = some r := H
    have A10 := Aside0.mk A100
    clear A100
    by_cases c11 : t791 < 0
    · rw [if_pos c11] at H
      have c11b0 : decide (t791 < 0) = true := decide_eq_true c11
      clear c11
      obtain rfl := Option.some.inj H
      go_enter Try.func18, Try.ntmps18
      go_wp2_with (first | ((with_reducible refine gate_dst (N := 2) rfl ?_); refine box_event ?hg (N := 2) ?hd (cs := #[.int .i64 a0_0, .int .i64 a0_1, .slice A0_2 l0_2.length c0_2]) (t := 34) ?hr ?_; (case hd => rfl); (case hg => rfl); (case hr => first | (go_simp; done) | (go_simp; rfl)); intro gb788 hg w12 hbox hb; have n0_ := Aside0.mk (below_step (by repeat (first | (with_reducible first | exact HB.out | apply below_alloc | apply pw_below_drewN | apply below_drew1) | exact HB.out)) hb); have n1_ := Aside0.mk (hbox); have n2_ := Aside0.mk ((by rw [hg]; exact (below_size (by repeat (first | (with_reducible first | exact HB.out | apply below_alloc | apply pw_below_drewN | apply below_drew1) | exact HB.out))) : w.heap.size ≤ gb788)); have n3_ := Aside0.mk ((by rw [hg]; exact (below_size (by repeat (first | (with_reducible first | exact HB.out | apply below_alloc | apply pw_below_drewN | apply below_drew1) | exact HB.out))) : w.heap.size ≤ gb788)); clear HB; have HB := n0_; have BK788 := n1_; have GW788 := n2_; have GE788 := n3_; clear n0_ n1_ n2_ n3_; clear hb hbox hg) | ((with_reducible refine gate_dst (N := 3) rfl ?_); refine box_event ?hg (N := 3) ?hd (cs := #[.int .i64 a1_0, .int .i64 a1_1, .slice A1_2 l1_2.length c1_2]) (t := 34) ?hr ?_; (case hd => rfl); (case hg => rfl); (case hr => first | (go_simp; done) | (go_simp; rfl)); intro gb789 hg w13 hbox hb; have n0_ := Aside0.mk (blk_below (g := gb788) (o := .cells #[.int .i64 a0_0, .int .i64 a0_1, .slice A0_2 l0_2.length c0_2] 34 (0, 0)) (by (with_reducible repeat (first | refine blk_drewN ?_ _ | refine blk_drew ?_ | refine blk_alloc ?_ _)); exact BK788.out) hb); have n1_ := Aside0.mk (below_step (by repeat (first | (with_reducible first | exact HB.out | apply below_alloc | apply pw_below_drewN | apply below_drew1 | refine below_set ?_ GE788.out) | exact HB.out)) hb); have n2_ := Aside0.mk (hbox); have n3_ := Aside0.mk ((by rw [hg]; exact (below_size (by repeat (first | (with_reducible first | exact HB.out | apply below_alloc | apply pw_below_drewN | apply below_drew1 | refine below_set ?_ GE788.out) | exact HB.out))) : w.heap.size ≤ gb789)); have n4_ := Aside0.mk ((by rw [hg]; exact (below_size (by repeat (first | (with_reducible first | exact HB.out | apply below_alloc | apply pw_below_drewN | apply below_drew1 | refine below_set ?_ GE788.out) | exact HB.out))) : w.heap.size ≤ gb789)); have n5_ := Aside0.mk ((by rw [hg]; exact Nat.ne_of_lt (blk_lt (g := gb788) (o := .cells #[.int .i64 a0_0, .int .i64 a0_1, .slice A0_2 l0_2.length c0_2] 34 (0, 0)) (by (with_reducible repeat (first | refine blk_drewN ?_ _ | refine blk_drew ?_ | refine blk_alloc ?_ _)); exact BK788.out)) : gb788 ≠ gb789)); have n6_ := Aside0.mk ((by rw [hg]; exact Nat.ne_of_gt (blk_lt (g := gb788) (o := .cells #[.int .i64 a0_0, .int .i64 a0_1, .slice A0_2 l0_2.length c0_2] 34 (0, 0)) (by (with_reducible repeat (first | refine blk_drewN ?_ _ | refine blk_drew ?_ | refine blk_alloc ?_ _)); exact BK788.out)) : gb789 ≠ gb788)); clear BK788; clear HB; have BK788 := n0_; have HB := n1_; have BK789 := n2_; have GW789 := n3_; have GE789 := n4_; have NB788_789 := n5_; have NB789_788 := n6_; clear n0_ n1_ n2_ n3_ n4_ n5_ n6_; clear hb hbox hg; have hnb14 := NB788_789.out; have hnc14 := NB789_788.out; have hcz15_0 : w13.cell? ⟨gb788, 0, none⟩ = some (.int .i64 a0_0) := (blk_cell BK788.out 0).trans rfl; have hcz15_1 : w13.cell? ⟨gb788, 1, none⟩ = some (.int .i64 a0_1) := (blk_cell BK788.out 1).trans rfl; have hcz15_2 : w13.cell? ⟨gb788, 2, none⟩ = some (.slice A0_2 l0_2.length c0_2) := (blk_cell BK788.out 2).trans rfl; have hfz15_0 := blk_frozen BK788.out 0; have hfz15_1 := blk_frozen BK788.out 1; have hfz15_2 := blk_frozen BK788.out 2) | ((with_reducible refine gate_callee (f := 46) rfl ?_); refine goesL_ (some 12) rfl rfl Try.func46 (by kernel_rfl) rfl #[.agg #[.int .i64 a0_0, .int .i64 a0_1, .slice A0_2 l0_2.length c0_2], .int .i64 1048576] rfl (by (try simp only [List.map_toArray, List.map_cons, List.map_nil]); first | done | rfl | (simp only [List.length_drop, List.length_take]; rfl)) ?_; (with_reducible refine (laws_szPicture.calls a0_0 a0_1 _ _ l0_2 1048576 t790 _ ?side1 ?side2 A3.out).mono ?_); (case side1 => repeat (first | exact (Kd.C_below HR0_2.out HB.out) | (with_reducible refine Kd.C_alloc ?_ _) | (with_reducible refine Kd.C_drewN ?_ _) | (with_reducible refine Kd.C_drew ?_))); (case side2 => exact HC0_2.out); rintro e w16 ⟨rfl, hb⟩; refine ⟨_, rfl, ?_⟩; have n0_ := Aside0.mk (blk_below (g := gb788) (o := .cells #[.int .i64 a0_0, .int .i64 a0_1, .slice A0_2 l0_2.length c0_2] 34 (0, 0)) (by (with_reducible repeat (first | refine blk_drewN ?_ _ | refine blk_drew ?_ | refine blk_alloc ?_ _)); exact BK788.out) hb); have n1_ := Aside0.mk (blk_below (g := gb789) (o := .cells #[.int .i64 a1_0, .int .i64 a1_1, .slice A1_2 l1_2.length c1_2] 34 (0, 0)) (by (with_reducible repeat (first | refine blk_drewN ?_ _ | refine blk_drew ?_ | refine blk_alloc ?_ _)); exact BK789.out) hb); have n2_ := Aside0.mk (below_step (by repeat (first | (with_reducible first | exact HB.out | apply below_alloc | apply pw_below_drewN | apply below_drew1 | refine below_set ?_ GE788.out | refine below_set ?_ GE789.out) | exact HB.out)) hb); clear BK788; clear BK789; clear HB; have BK788 := n0_; have BK789 := n1_; have HB := n2_; clear n0_ n1_ n2_; (try clear hb); (try clear hb2); (try clear hk); (try clear hi); have hcz17_0 : w16.cell? ⟨gb789, 0, none⟩ = some (.int .i64 a1_0) := (blk_cell BK789.out 0).trans rfl; have hcz17_1 : w16.cell? ⟨gb789, 1, none⟩ = some (.int .i64 a1_1) := (blk_cell BK789.out 1).trans rfl; have hcz17_2 : w16.cell? ⟨gb789, 2, none⟩ = some (.slice A1_2 l1_2.length c1_2) := (blk_cell BK789.out 2).trans rfl; have hfz17_0 := blk_frozen BK789.out 0; have hfz17_1 := blk_frozen BK789.out 1; have hfz17_2 := blk_frozen BK789.out 2) | ((with_reducible refine gate_callee (f := 46) rfl ?_); refine goesL_ (some 17) rfl rfl Try.func46 (by kernel_rfl) rfl #[.agg #[.int .i64 a1_0, .int .i64 a1_1, .slice A1_2 l1_2.length c1_2], .int .i64 t790] rfl (by (try simp only [List.map_toArray, List.map_cons, List.map_nil]); first | done | rfl | (simp only [List.length_drop, List.length_take]; rfl)) ?_; (with_reducible refine (laws_szPicture.calls a1_0 a1_1 _ _ l1_2 t790 t791 _ ?side1 ?side2 A10.out).mono ?_); (case side1 => repeat (first | exact (Kd.C_below HR1_2.out HB.out) | (with_reducible refine Kd.C_alloc ?_ _) | (with_reducible refine Kd.C_drewN ?_ _) | (with_reducible refine Kd.C_drew ?_))); (case side2 => exact HC1_2.out); rintro e w18 ⟨rfl, hb⟩; refine ⟨_, rfl, ?_⟩; have n0_ := Aside0.mk (blk_below (g := gb788) (o := .cells #[.int .i64 a0_0, .int .i64 a0_1, .slice A0_2 l0_2.length c0_2] 34 (0, 0)) (by (with_reducible repeat (first | refine blk_drewN ?_ _ | refine blk_drew ?_ | refine blk_alloc ?_ _)); exact BK788.out) hb); have n1_ := Aside0.mk (blk_below (g := gb789) (o := .cells #[.int .i64 a1_0, .int .i64 a1_1, .slice A1_2 l1_2.length c1_2] 34 (0, 0)) (by (with_reducible repeat (first | refine blk_drewN ?_ _ | refine blk_drew ?_ | refine blk_alloc ?_ _)); exact BK789.out) hb); have n2_ := Aside0.mk (below_step (by repeat (first | (with_reducible first | exact HB.out | apply below_alloc | apply pw_below_drewN | apply below_drew1 | refine below_set ?_ GE788.out | refine below_set ?_ GE789.out) | exact HB.out)) hb); clear BK788; clear BK789; clear HB; have BK788 := n0_; have BK789 := n1_; have HB := n2_; clear n0_ n1_ n2_; (try clear hb); (try clear hb2); (try clear hk); (try clear hi)))
      go_ret
      exact ⟨by first | rfl | (simp [errW_none, errW_some] <;> rfl) | (simp [*, errW_none, errW_some] <;> rfl), by repeat (first | (with_reducible first | exact HB.out | apply below_alloc | apply pw_below_drewN | apply below_drew1 | refine below_set ?_ GE788.out | refine below_set ?_ GE789.out) | exact HB.out)⟩
    · rw [if_neg c11] at H
      have c11b0 : decide (t791 < 0) = false := decide_eq_false c11
      clear c11
      replace H := Option.bind_eq_some_iff.mp H
      obtain ⟨⟨t792, t793, t794⟩, A190, H⟩ := H
      replace H : ((laws_toPicture.f k a1_0 a1_1 l1_2).bind fun bt797 => ((spec_CoversPicture.f k t792 t793 t794 bt797.1 bt797.2.1 bt797.2.2).bind fun t802 => ((laws_toPicture.f k a0_0 a0_1 l0_2).bind fun bt803 => ((laws_toPicture.f k a1_0 a1_1 l1_2).bind fun bt809 => ((impl_CoversPicture.f k bt803.1 bt803.2.1 bt803.2.2 bt809.1 bt809.2.1 bt809.2.2).bind fun t815 => (if (t815 != t802) = true then (some false) else ((laws_toPicture.f k a0_0 a0_1 l0_2).bind fun bt816 => ((laws_eqPicture.f k bt803.1 bt803.2.1 bt803.2.2 bt816.1 bt816.2.1 bt816.2.2).bind fun t821 => (if t821 = true then ((laws_toPicture.f k a1_0 a1_1 l1_2).bind fun bt822 => ((laws_eqPicture.f k bt809.1 bt809.2.1 bt809.2.2 bt822.1 bt822.2.1 bt822.2.2).bind fun t827 => (if t827 = true then (some true) else (some false)))) else (some false)))))))))) = some r := H
      have A19 := Aside0.mk A190
      clear A190
      replace H := Option.bind_eq_some_iff.mp H
      obtain ⟨⟨t797, t798, t799⟩, A200, H⟩ := H
      replace H : ((spec_CoversPicture.f k t792 t793 t794 t797 t798 t799).bind fun t802 => ((laws_toPicture.f k a0_0 a0_1 l0_2).bind fun bt803 => ((laws_toPicture.f k a1_0 a1_1 l1_2).bind fun bt809 => ((impl_CoversPicture.f k bt803.1 bt803.2.1 bt803.2.2 bt809.1 bt809.2.1 bt809.2.2).bind fun t815 => (if (t815 != t802) = true then (some false) else ((laws_toPicture.f k a0_0 a0_1 l0_2).bind fun bt816 => ((laws_eqPicture.f k bt803.1 bt803.2.1 bt803.2.2 bt816.1 bt816.2.1 bt816.2.2).bind fun t821 => (if t821 = true then ((laws_toPicture.f k a1_0 a1_1 l1_2).bind fun bt822 => ((laws_eqPicture.f k bt809.1 bt809.2.1 bt809.2.2 bt822.1 bt822.2.1 bt822.2.2).bind fun t827 => (if t827 = true then (some true) else (some false)))) else (some false))))))))) = some r := H
      have A20 := Aside0.mk A200
      clear A200
      replace H := Option.bind_eq_some_iff.mp H
      obtain ⟨t802, A210, H⟩ := H
      replace H : ((laws_toPicture.f k a0_0 a0_1 l0_2).bind fun bt803 => ((laws_toPicture.f k a1_0 a1_1 l1_2).bind fun bt809 => ((impl_CoversPicture.f k bt803.1 bt803.2.1 bt803.2.2 bt809.1 bt809.2.1 bt809.2.2).bind fun t815 => (if (t815 != t802) = true then (some false) else ((laws_toPicture.f k a0_0 a0_1 l0_2).bind fun bt816 => ((laws_eqPicture.f k bt803.1 bt803.2.1 bt803.2.2 bt816.1 bt816.2.1 bt816.2.2).bind fun t821 => (if t821 = true then ((laws_toPicture.f k a1_0 a1_1 l1_2).bind fun bt822 => ((laws_eqPicture.f k bt809.1 bt809.2.1 bt809.2.2 bt822.1 bt822.2.1 bt822.2.2).bind fun t827 => (if t827 = true then (some true) else (some false)))) else (some false)))))))) = some r := H
      have A21 := Aside0.mk A210
      clear A210
      replace H := Option.bind_eq_some_iff.mp H
      obtain ⟨⟨t803, t804, t805⟩, A220, H⟩ := H
      replace H : ((laws_toPicture.f k a1_0 a1_1 l1_2).bind fun bt809 => ((impl_CoversPicture.f k t803 t804 t805 bt809.1 bt809.2.1 bt809.2.2).bind fun t815 => (if (t815 != t802) = true then (some false) else ((laws_toPicture.f k a0_0 a0_1 l0_2).bind fun bt816 => ((laws_eqPicture.f k t803 t804 t805 bt816.1 bt816.2.1 bt816.2.2).bind fun t821 => (if t821 = true then ((laws_toPicture.f k a1_0 a1_1 l1_2).bind fun bt822 => ((laws_eqPicture.f k bt809.1 bt809.2.1 bt809.2.2 bt822.1 bt822.2.1 bt822.2.2).bind fun t827 => (if t827 = true then (some true) else (some false)))) else (some false))))))) = some r := H
      have A22 := Aside0.mk A220
      clear A220
      replace H := Option.bind_eq_some_iff.mp H
      obtain ⟨⟨t809, t810, t811⟩, A230, H⟩ := H
      replace H : ((impl_CoversPicture.f k t803 t804 t805 t809 t810 t811).bind fun t815 => (if (t815 != t802) = true then (some false) else ((laws_toPicture.f k a0_0 a0_1 l0_2).bind fun bt816 => ((laws_eqPicture.f k t803 t804 t805 bt816.1 bt816.2.1 bt816.2.2).bind fun t821 => (if t821 = true then ((laws_toPicture.f k a1_0 a1_1 l1_2).bind fun bt822 => ((laws_eqPicture.f k t809 t810 t811 bt822.1 bt822.2.1 bt822.2.2).bind fun t827 => (if t827 = true then (some true) else (some false)))) else (some false)))))) = some r := H
      have A23 := Aside0.mk A230
      clear A230
      replace H := Option.bind_eq_some_iff.mp H
      obtain ⟨t815, A240, H⟩ := H
      replace H : (if (t815 != t802) = true then (some false) else ((laws_toPicture.f k a0_0 a0_1 l0_2).bind fun bt816 => ((laws_eqPicture.f k t803 t804 t805 bt816.1 bt816.2.1 bt816.2.2).bind fun t821 => (if t821 = true then ((laws_toPicture.f k a1_0 a1_1 l1_2).bind fun bt822 => ((laws_eqPicture.f k t809 t810 t811 bt822.1 bt822.2.1 bt822.2.2).bind fun t827 => (if t827 = true then (some true) else (some false)))) else (some false))))) = some r := H
      have A24 := Aside0.mk A240
      clear A240
      by_cases c25 : (t815 != t802) = true
      · rw [if_pos c25] at H
        have c25b0 : (t815 != t802) = true := c25
        (try (have c25b1 : decide (t815 = t802) = false := by simpa using c25))
        (try (have c25b2 : (t815 == t802) = false := by simpa using c25))
        (try (have c25b3 : ¬ (t815 = t802) := by simpa using c25))
        clear c25
        exact absurd ((Option.some.inj H).trans hT.out) (by decide)
      · rw [if_neg c25] at H
        have c25b0 : (t815 != t802) = false := by simpa using c25
        (try (have c25b1 : decide (t815 = t802) = true := by simpa using c25))
        (try (have c25b2 : (t815 == t802) = true := by simpa using c25))
        clear c25
        replace H := Option.bind_eq_some_iff.mp H
        obtain ⟨⟨t816, t817, t818⟩, A260, H⟩ := H
        replace H : ((laws_eqPicture.f k t803 t804 t805 t816 t817 t818).bind fun t821 => (if t821 = true then ((laws_toPicture.f k a1_0 a1_1 l1_2).bind fun bt822 => ((laws_eqPicture.f k t809 t810 t811 bt822.1 bt822.2.1 bt822.2.2).bind fun t827 => (if t827 = true then (some true) else (some false)))) else (some false))) = some r := H
        have A26 := Aside0.mk A260
        clear A260
        replace H := Option.bind_eq_some_iff.mp H
        obtain ⟨t821, A270, H⟩ := H
        replace H : (if t821 = true then ((laws_toPicture.f k a1_0 a1_1 l1_2).bind fun bt822 => ((laws_eqPicture.f k t809 t810 t811 bt822.1 bt822.2.1 bt822.2.2).bind fun t827 => (if t827 = true then (some true) else (some false)))) else (some false)) = some r := H
        have A27 := Aside0.mk A270
        clear A270
        by_cases c28 : t821 = true
        · subst c28
          have H1 : ((laws_toPicture.f k a1_0 a1_1 l1_2).bind fun bt822 => ((laws_eqPicture.f k t809 t810 t811 bt822.1 bt822.2.1 bt822.2.2).bind fun t827 => (if t827 = true then (some true) else (some false)))) = some r := by rw [if_pos rfl] at H; exact H
          clear H
          have H := H1
          clear H1
          replace H := Option.bind_eq_some_iff.mp H
          obtain ⟨⟨t822, t823, t824⟩, A290, H⟩ := H
          replace H : ((laws_eqPicture.f k t809 t810 t811 t822 t823 t824).bind fun t827 => (if t827 = true then (some true) else (some false))) = some r := H
          have A29 := Aside0.mk A290
          clear A290
          replace H := Option.bind_eq_some_iff.mp H
          obtain ⟨t827, A300, H⟩ := H
          replace H : (if t827 = true then (some true) else (some false)) = some r := H
          have A30 := Aside0.mk A300
          clear A300
          by_cases c31 : t827 = true
          · subst c31
            have H1 : (some true) = some r := by rw [if_pos rfl] at H; exact H
            clear H
            have H := H1
            clear H1
            obtain rfl := Option.some.inj H
            go_enter Try.func18, Try.ntmps18
            try go_wp2_with (first | ((with_reducible refine gate_dst (N := 2) rfl ?_); refine box_event ?hg (N := 2) ?hd (cs := #[.int .i64 a0_0, .int .i64 a0_1, .slice A0_2 l0_2.length c0_2]) (t := 34) ?hr ?_; (case hd => rfl); (case hg => rfl); (case hr => first | (go_simp; done) | (go_simp; rfl)); intro gb788 hg w32 hbox hb; have n0_ := Aside0.mk (below_step (by repeat (first | (with_reducible first | exact HB.out | apply below_alloc | apply pw_below_drewN | apply below_drew1) | exact HB.out)) hb); have n1_ := Aside0.mk (hbox); have n2_ := Aside0.mk ((by rw [hg]; exact (below_size (by repeat (first | (with_reducible first | exact HB.out | apply below_alloc | apply pw_below_drewN | apply below_drew1) | exact HB.out))) : w.heap.size ≤ gb788)); have n3_ := Aside0.mk ((by rw [hg]; exact (below_size (by repeat (first | (with_reducible first | exact HB.out | apply below_alloc | apply pw_below_drewN | apply below_drew1) | exact HB.out))) : w.heap.size ≤ gb788)); clear HB; have HB := n0_; have BK788 := n1_; have GW788 := n2_; have GE788 := n3_; clear n0_ n1_ n2_ n3_; clear hb hbox hg) | ((with_reducible refine gate_dst (N := 3) rfl ?_); refine box_event ?hg (N := 3) ?hd (cs := #[.int .i64 a1_0, .int .i64 a1_1, .slice A1_2 l1_2.length c1_2]) (t := 34) ?hr ?_; (case hd => rfl); (case hg => rfl); (case hr => first | (go_simp; done) | (go_simp; rfl)); intro gb789 hg w33 hbox hb; have n0_ := Aside0.mk (blk_below (g := gb788) (o := .cells #[.int .i64 a0_0, .int .i64 a0_1, .slice A0_2 l0_2.length c0_2] 34 (0, 0)) (by (with_reducible repeat (first | refine blk_drewN ?_ _ | refine blk_drew ?_ | refine blk_alloc ?_ _)); exact BK788.out) hb); have n1_ := Aside0.mk (below_step (by repeat (first | (with_reducible first | exact HB.out | apply below_alloc | apply pw_below_drewN | apply below_drew1 | refine below_set ?_ GE788.out) | exact HB.out)) hb); have n2_ := Aside0.mk (hbox); have n3_ := Aside0.mk ((by rw [hg]; exact (below_size (by repeat (first | (with_reducible first | exact HB.out | apply below_alloc | apply pw_below_drewN | apply below_drew1 | refine below_set ?_ GE788.out) | exact HB.out))) : w.heap.size ≤ gb789)); have n4_ := Aside0.mk ((by rw [hg]; exact (below_size (by repeat (first | (with_reducible first | exact HB.out | apply below_alloc | apply pw_below_drewN | apply below_drew1 | refine below_set ?_ GE788.out) | exact HB.out))) : w.heap.size ≤ gb789)); have n5_ := Aside0.mk ((by rw [hg]; exact Nat.ne_of_lt (blk_lt (g := gb788) (o := .cells #[.int .i64 a0_0, .int .i64 a0_1, .slice A0_2 l0_2.length c0_2] 34 (0, 0)) (by (with_reducible repeat (first | refine blk_drewN ?_ _ | refine blk_drew ?_ | refine blk_alloc ?_ _)); exact BK788.out)) : gb788 ≠ gb789)); have n6_ := Aside0.mk ((by rw [hg]; exact Nat.ne_of_gt (blk_lt (g := gb788) (o := .cells #[.int .i64 a0_0, .int .i64 a0_1, .slice A0_2 l0_2.length c0_2] 34 (0, 0)) (by (with_reducible repeat (first | refine blk_drewN ?_ _ | refine blk_drew ?_ | refine blk_alloc ?_ _)); exact BK788.out)) : gb789 ≠ gb788)); clear BK788; clear HB; have BK788 := n0_; have HB := n1_; have BK789 := n2_; have GW789 := n3_; have GE789 := n4_; have NB788_789 := n5_; have NB789_788 := n6_; clear n0_ n1_ n2_ n3_ n4_ n5_ n6_; clear hb hbox hg; have hnb34 := NB788_789.out; have hnc34 := NB789_788.out; have hcz35_0 : w33.cell? ⟨gb788, 0, none⟩ = some (.int .i64 a0_0) := (blk_cell BK788.out 0).trans rfl; have hcz35_1 : w33.cell? ⟨gb788, 1, none⟩ = some (.int .i64 a0_1) := (blk_cell BK788.out 1).trans rfl; have hcz35_2 : w33.cell? ⟨gb788, 2, none⟩ = some (.slice A0_2 l0_2.length c0_2) := (blk_cell BK788.out 2).trans rfl; have hfz35_0 := blk_frozen BK788.out 0; have hfz35_1 := blk_frozen BK788.out 1; have hfz35_2 := blk_frozen BK788.out 2) | ((with_reducible refine gate_callee (f := 46) rfl ?_); refine goesL_ (some 12) rfl rfl Try.func46 (by kernel_rfl) rfl #[.agg #[.int .i64 a0_0, .int .i64 a0_1, .slice A0_2 l0_2.length c0_2], .int .i64 1048576] rfl (by (try simp only [List.map_toArray, List.map_cons, List.map_nil]); first | done | rfl | (simp only [List.length_drop, List.length_take]; rfl)) ?_; (with_reducible refine (laws_szPicture.calls a0_0 a0_1 _ _ l0_2 1048576 t790 _ ?side1 ?side2 A3.out).mono ?_); (case side1 => repeat (first | exact (Kd.C_below HR0_2.out HB.out) | (with_reducible refine Kd.C_alloc ?_ _) | (with_reducible refine Kd.C_drewN ?_ _) | (with_reducible refine Kd.C_drew ?_))); (case side2 => exact HC0_2.out); rintro e w36 ⟨rfl, hb⟩; refine ⟨_, rfl, ?_⟩; have n0_ := Aside0.mk (blk_below (g := gb788) (o := .cells #[.int .i64 a0_0, .int .i64 a0_1, .slice A0_2 l0_2.length c0_2] 34 (0, 0)) (by (with_reducible repeat (first | refine blk_drewN ?_ _ | refine blk_drew ?_ | refine blk_alloc ?_ _)); exact BK788.out) hb); have n1_ := Aside0.mk (blk_below (g := gb789) (o := .cells #[.int .i64 a1_0, .int .i64 a1_1, .slice A1_2 l1_2.length c1_2] 34 (0, 0)) (by (with_reducible repeat (first | refine blk_drewN ?_ _ | refine blk_drew ?_ | refine blk_alloc ?_ _)); exact BK789.out) hb); have n2_ := Aside0.mk (below_step (by repeat (first | (with_reducible first | exact HB.out | apply below_alloc | apply pw_below_drewN | apply below_drew1 | refine below_set ?_ GE788.out | refine below_set ?_ GE789.out) | exact HB.out)) hb); clear BK788; clear BK789; clear HB; have BK788 := n0_; have BK789 := n1_; have HB := n2_; clear n0_ n1_ n2_; (try clear hb); (try clear hb2); (try clear hk); (try clear hi); have hcz37_0 : w36.cell? ⟨gb789, 0, none⟩ = some (.int .i64 a1_0) := (blk_cell BK789.out 0).trans rfl; have hcz37_1 : w36.cell? ⟨gb789, 1, none⟩ = some (.int .i64 a1_1) := (blk_cell BK789.out 1).trans rfl; have hcz37_2 : w36.cell? ⟨gb789, 2, none⟩ = some (.slice A1_2 l1_2.length c1_2) := (blk_cell BK789.out 2).trans rfl; have hfz37_0 := blk_frozen BK789.out 0; have hfz37_1 := blk_frozen BK789.out 1; have hfz37_2 := blk_frozen BK789.out 2) | ((with_reducible refine gate_callee (f := 46) rfl ?_); refine goesL_ (some 17) rfl rfl Try.func46 (by kernel_rfl) rfl #[.agg #[.int .i64 a1_0, .int .i64 a1_1, .slice A1_2 l1_2.length c1_2], .int .i64 t790] rfl (by (try simp only [List.map_toArray, List.map_cons, List.map_nil]); first | done | rfl | (simp only [List.length_drop, List.length_take]; rfl)) ?_; (with_reducible refine (laws_szPicture.calls a1_0 a1_1 _ _ l1_2 t790 t791 _ ?side1 ?side2 A10.out).mono ?_); (case side1 => repeat (first | exact (Kd.C_below HR1_2.out HB.out) | (with_reducible refine Kd.C_alloc ?_ _) | (with_reducible refine Kd.C_drewN ?_ _) | (with_reducible refine Kd.C_drew ?_))); (case side2 => exact HC1_2.out); rintro e w38 ⟨rfl, hb⟩; refine ⟨_, rfl, ?_⟩; have n0_ := Aside0.mk (blk_below (g := gb788) (o := .cells #[.int .i64 a0_0, .int .i64 a0_1, .slice A0_2 l0_2.length c0_2] 34 (0, 0)) (by (with_reducible repeat (first | refine blk_drewN ?_ _ | refine blk_drew ?_ | refine blk_alloc ?_ _)); exact BK788.out) hb); have n1_ := Aside0.mk (blk_below (g := gb789) (o := .cells #[.int .i64 a1_0, .int .i64 a1_1, .slice A1_2 l1_2.length c1_2] 34 (0, 0)) (by (with_reducible repeat (first | refine blk_drewN ?_ _ | refine blk_drew ?_ | refine blk_alloc ?_ _)); exact BK789.out) hb); have n2_ := Aside0.mk (below_step (by repeat (first | (with_reducible first | exact HB.out | apply below_alloc | apply pw_below_drewN | apply below_drew1 | refine below_set ?_ GE788.out | refine below_set ?_ GE789.out) | exact HB.out)) hb); clear BK788; clear BK789; clear HB; have BK788 := n0_; have BK789 := n1_; have HB := n2_; clear n0_ n1_ n2_; (try clear hb); (try clear hb2); (try clear hk); (try clear hi)))
            have n0_ := Aside0.mk (blk_drew BK788.out)
            have n1_ := Aside0.mk (blk_drew BK789.out)
            have n2_ := Aside0.mk (below_drew1 HB.out)
            clear BK788
            clear BK789
            clear HB
            have BK788 := n0_
            have BK789 := n1_
            have HB := n2_
            clear n0_ n1_ n2_
            refine start_ (n := 6) (S := fun w' => w'.cell? ⟨gb788, 0, none⟩ = some (.int .i64 a0_0) ∧ w'.cell? ⟨gb788, 1, none⟩ = some (.int .i64 a0_1) ∧ w'.cell? ⟨gb788, 2, none⟩ = some (.slice A0_2 l0_2.length c0_2) ∧ w'.cell? ⟨gb789, 0, none⟩ = some (.int .i64 a1_0) ∧ w'.cell? ⟨gb789, 1, none⟩ = some (.int .i64 a1_1) ∧ w'.cell? ⟨gb789, 2, none⟩ = some (.slice A1_2 l1_2.length c1_2)) (ds := []) #[false, false, false, false, false, false] (by kernel_rfl) rfl rfl ⟨(blk_cell BK788.out 0).trans rfl, (blk_cell BK788.out 1).trans rfl, (blk_cell BK788.out 2).trans rfl, (blk_cell BK789.out 0).trans rfl, (blk_cell BK789.out 1).trans rfl, (blk_cell BK789.out 2).trans rfl⟩ (fun hHeld => ?_)
            generalize w38.drew = w39 at BK788 BK789 HB hHeld ⊢
            refine take_ (i := 0) (N := some 20) (v := ?_) (a' := ?_) #[true, false, false, false, false, false] rfl rfl (by kernel_rfl) (fun _ _ _ h => h) (Or.inl ⟨by rfl, ?_⟩) hHeld ?_ ?_
            rotate_left
            · rintro w' ⟨s0, s1, s2, s3, s4, s5⟩
              go_simp
              with_reducible rfl
            rotate_left
            · simp only [Act.put, List.setIfInBounds_toArray, List.set_cons_zero, List.set_cons_succ, i64_w, i32_w]
              rfl
            refine take_ (i := 2) (N := some 22) (v := ?_) (a' := ?_) #[true, false, true, false, false, false] rfl rfl (by kernel_rfl) (fun _ _ _ h => h) (Or.inl ⟨by rfl, ?_⟩) hHeld ?_ ?_
            rotate_left
            · rintro w' ⟨s0, s1, s2, s3, s4, s5⟩
              go_simp
              with_reducible rfl
            rotate_left
            · simp only [Act.put, List.setIfInBounds_toArray, List.set_cons_zero, List.set_cons_succ, i64_w, i32_w]
              rfl
            refine one_ (i := 1) (N := some 21) #[true, true, true, false, false, false] rfl rfl (by kernel_rfl) (by decide) (fun K hK => ?_)
            refine goes_ Try.func48 (by kernel_rfl) rfl #[.agg #[.int .i64 a0_0, .int .i64 a0_1, .slice A0_2 l0_2.length c0_2]] (by rfl) rfl rfl (by (try simp only [List.map_toArray, List.map_cons, List.map_nil]); first | done | rfl | (simp only [List.length_drop, List.length_take]; rfl)) ?_
            with_reducible refine (laws_toPicture.calls k a0_0 a0_1 _ _ l0_2 t792 t793 t794 _ ?side1 ?side2 A19.out).mono ?_
            (case side1 => repeat (first | exact (Kd.C_below HR0_2.out HB.out) | (with_reducible refine Kd.C_alloc ?_ _) | (with_reducible refine Kd.C_drewN ?_ _) | (with_reducible refine Kd.C_drew ?_)))
            (case side2 => exact HC0_2.out)
            rintro e w40 ⟨v795, rfl, ho0, hb⟩
            refine ⟨_, rfl, ?_⟩
            have n0_ := Aside0.mk (Kd.R_lower ho0 (below_size (by repeat (first | (with_reducible first | exact HB.out | apply below_alloc | apply pw_below_drewN | apply below_drew1 | refine below_set ?_ GE788.out | refine below_set ?_ GE789.out) | exact HB.out))))
            have n1_ := Aside0.mk (blk_below (g := gb788) (o := .cells #[.int .i64 a0_0, .int .i64 a0_1, .slice A0_2 l0_2.length c0_2] 34 (0, 0)) (by (with_reducible repeat (first | refine blk_drewN ?_ _ | refine blk_drew ?_ | refine blk_alloc ?_ _)); exact BK788.out) hb)
            have n2_ := Aside0.mk (blk_below (g := gb789) (o := .cells #[.int .i64 a1_0, .int .i64 a1_1, .slice A1_2 l1_2.length c1_2] 34 (0, 0)) (by (with_reducible repeat (first | refine blk_drewN ?_ _ | refine blk_drew ?_ | refine blk_alloc ?_ _)); exact BK789.out) hb)
            have n3_ := Aside0.mk (below_step (by repeat (first | (with_reducible first | exact HB.out | apply below_alloc | apply pw_below_drewN | apply below_drew1 | refine below_set ?_ GE788.out | refine below_set ?_ GE789.out) | exact HB.out)) hb)
            clear BK788
            clear BK789
            clear HB
            have HO796 := n0_
            have BK788 := n1_
            have BK789 := n2_
            have HB := n3_
            clear n0_ n1_ n2_ n3_
            (try clear hb)
            (try clear hb2)
            (try clear hk)
            (try clear hi)
            (try clear ho0)
            refine hK.out _ _ ⟨(blk_cell BK788.out 0).trans rfl, (blk_cell BK788.out 1).trans rfl, (blk_cell BK788.out 2).trans rfl, (blk_cell BK789.out 0).trans rfl, (blk_cell BK789.out 1).trans rfl, (blk_cell BK789.out 2).trans rfl⟩ (fun hHeld => ?_)
            clear hK K
            refine norm_ (a' := ?_) ?_ ?_
            rotate_left
            · show Act.put _ (some 21) _ = _
              simp only [Act.put, List.setIfInBounds_toArray, List.set_cons_zero, List.set_cons_succ, i64_w, i32_w]
              rfl
            refine one_ (i := 3) (N := some 23) #[true, true, true, true, false, false] rfl rfl (by kernel_rfl) (by decide) (fun K hK => ?_)
            refine goes_ Try.func48 (by kernel_rfl) rfl #[.agg #[.int .i64 a1_0, .int .i64 a1_1, .slice A1_2 l1_2.length c1_2]] (by rfl) rfl rfl (by (try simp only [List.map_toArray, List.map_cons, List.map_nil]); first | done | rfl | (simp only [List.length_drop, List.length_take]; rfl)) ?_
            with_reducible refine (laws_toPicture.calls k a1_0 a1_1 _ _ l1_2 t797 t798 t799 _ ?side1 ?side2 A20.out).mono ?_
            (case side1 => repeat (first | exact (Kd.C_below HR1_2.out HB.out) | (with_reducible refine Kd.C_alloc ?_ _) | (with_reducible refine Kd.C_drewN ?_ _) | (with_reducible refine Kd.C_drew ?_)))
            (case side2 => exact HC1_2.out)
            rintro e w41 ⟨v800, rfl, ho0, hb⟩
            refine ⟨_, rfl, ?_⟩
            have n0_ := Aside0.mk (Kd.R_elder' (by (with_reducible repeat (first | apply Kd.R_alloc | apply Kd.R_drewN | apply Kd.R_drew)); exact HO796.out) (Kd.R_base ho0) hb)
            have n1_ := Aside0.mk (Kd.R_lower (Kd.R_new' ho0 (Kd.R_lt (by (with_reducible repeat (first | apply Kd.R_alloc | apply Kd.R_drewN | apply Kd.R_drew)); exact HO796.out))) (below_size (by repeat (first | (with_reducible first | exact HB.out | apply below_alloc | apply pw_below_drewN | apply below_drew1 | refine below_set ?_ GE788.out | refine below_set ?_ GE789.out) | exact HB.out))))
            have n2_ := Aside0.mk (blk_below (g := gb788) (o := .cells #[.int .i64 a0_0, .int .i64 a0_1, .slice A0_2 l0_2.length c0_2] 34 (0, 0)) (by (with_reducible repeat (first | refine blk_drewN ?_ _ | refine blk_drew ?_ | refine blk_alloc ?_ _)); exact BK788.out) hb)
            have n3_ := Aside0.mk (blk_below (g := gb789) (o := .cells #[.int .i64 a1_0, .int .i64 a1_1, .slice A1_2 l1_2.length c1_2] 34 (0, 0)) (by (with_reducible repeat (first | refine blk_drewN ?_ _ | refine blk_drew ?_ | refine blk_alloc ?_ _)); exact BK789.out) hb)
            have n4_ := Aside0.mk (below_step (by repeat (first | (with_reducible first | exact HB.out | apply below_alloc | apply pw_below_drewN | apply below_drew1 | refine below_set ?_ GE788.out | refine below_set ?_ GE789.out) | exact HB.out)) hb)
            clear HO796
            clear BK788
            clear BK789
            clear HB
            have HO796 := n0_
            have HO801 := n1_
            have BK788 := n2_
            have BK789 := n3_
            have HB := n4_
            clear n0_ n1_ n2_ n3_ n4_
            (try clear hb)
            (try clear hb2)
            (try clear hk)
            (try clear hi)
            (try clear ho0)
            obtain ⟨Ao42, co42, eo42⟩ := Kd.R_slice HO796.out
            (first | subst eo42 | (injection eo42 with f1_ f2_ f3_; have f4_ := f1_.symm; have f5_ := f3_.symm; clear f1_ f2_ f3_; subst f4_; subst f5_))
            obtain ⟨Ao43, co43, eo43⟩ := Kd.R_slice HO801.out
            (first | subst eo43 | (injection eo43 with f1_ f2_ f3_; have f4_ := f1_.symm; have f5_ := f3_.symm; clear f1_ f2_ f3_; subst f4_; subst f5_))
            refine hK.out _ _ ⟨(blk_cell BK788.out 0).trans rfl, (blk_cell BK788.out 1).trans rfl, (blk_cell BK788.out 2).trans rfl, (blk_cell BK789.out 0).trans rfl, (blk_cell BK789.out 1).trans rfl, (blk_cell BK789.out 2).trans rfl⟩ (fun hHeld => ?_)
            clear hK K
            refine norm_ (a' := ?_) ?_ ?_
            rotate_left
            · show Act.put _ (some 23) _ = _
              simp only [Act.put, List.setIfInBounds_toArray, List.set_cons_zero, List.set_cons_succ, i64_w, i32_w]
              rfl
            refine one_ (i := 4) (N := some 24) #[true, true, true, true, true, false] rfl rfl (by kernel_rfl) (by decide) (fun K hK => ?_)
            refine goes_ Try.func78 (by kernel_rfl) rfl #[.agg #[.int .i64 t792, .int .i64 t793, .slice Ao42 t794.length co42], .agg #[.int .i64 t797, .int .i64 t798, .slice Ao43 t799.length co43]] (by rfl) rfl rfl (by (try simp only [List.map_toArray, List.map_cons, List.map_nil]); first | done | rfl | (simp only [List.length_drop, List.length_take]; rfl)) ?_
            with_reducible refine (spec_CoversPicture.calls k t792 t793 _ _ t794 t797 t798 _ _ t799 t802 _ ?side1 ?side2 ?side3 ?side4 A21.out).mono ?_
            (case side1 => repeat (first | exact (Kd.R_reads' HO796.out).2.2 | (with_reducible refine Kd.C_alloc ?_ _) | (with_reducible refine Kd.C_drewN ?_ _) | (with_reducible refine Kd.C_drew ?_)))
            (case side2 => exact (Kd.R_reads' HO796.out).2.1)
            (case side3 => repeat (first | exact (Kd.R_reads' HO801.out).2.2 | (with_reducible refine Kd.C_alloc ?_ _) | (with_reducible refine Kd.C_drewN ?_ _) | (with_reducible refine Kd.C_drew ?_)))
            (case side4 => exact (Kd.R_reads' HO801.out).2.1)
            rintro e w44 ⟨rfl, hb⟩
            refine ⟨_, rfl, ?_⟩
            have n0_ := Aside0.mk (Kd.R_below (by (with_reducible repeat (first | apply Kd.R_alloc | apply Kd.R_drewN | apply Kd.R_drew)); exact HO796.out) hb)
            have n1_ := Aside0.mk (Kd.R_below (by (with_reducible repeat (first | apply Kd.R_alloc | apply Kd.R_drewN | apply Kd.R_drew)); exact HO801.out) hb)
            have n2_ := Aside0.mk (blk_below (g := gb788) (o := .cells #[.int .i64 a0_0, .int .i64 a0_1, .slice A0_2 l0_2.length c0_2] 34 (0, 0)) (by (with_reducible repeat (first | refine blk_drewN ?_ _ | refine blk_drew ?_ | refine blk_alloc ?_ _)); exact BK788.out) hb)
            have n3_ := Aside0.mk (blk_below (g := gb789) (o := .cells #[.int .i64 a1_0, .int .i64 a1_1, .slice A1_2 l1_2.length c1_2] 34 (0, 0)) (by (with_reducible repeat (first | refine blk_drewN ?_ _ | refine blk_drew ?_ | refine blk_alloc ?_ _)); exact BK789.out) hb)
            have n4_ := Aside0.mk (below_step (by repeat (first | (with_reducible first | exact HB.out | apply below_alloc | apply pw_below_drewN | apply below_drew1 | refine below_set ?_ GE788.out | refine below_set ?_ GE789.out) | exact HB.out)) hb)
            clear HO796
            clear HO801
            clear BK788
            clear BK789
            clear HB
            have HO796 := n0_
            have HO801 := n1_
            have BK788 := n2_
            have BK789 := n3_
            have HB := n4_
            clear n0_ n1_ n2_ n3_ n4_
            (try clear hb)
            (try clear hb2)
            (try clear hk)
            (try clear hi)
            refine hK.out _ _ ⟨(blk_cell BK788.out 0).trans rfl, (blk_cell BK788.out 1).trans rfl, (blk_cell BK788.out 2).trans rfl, (blk_cell BK789.out 0).trans rfl, (blk_cell BK789.out 1).trans rfl, (blk_cell BK789.out 2).trans rfl⟩ (fun hHeld => ?_)
            clear hK K
            refine norm_ (a' := ?_) ?_ ?_
            rotate_left
            · show Act.put _ (some 24) _ = _
              simp only [Act.put, List.setIfInBounds_toArray, List.set_cons_zero, List.set_cons_succ, i64_w, i32_w]
              rfl
            refine pure_ (i := 5) (N := some 6) (v := ?_) (a' := ?_) #[true, true, true, true, true, true] rfl rfl (by kernel_rfl) (fun _ _ _ h => h) (Or.inl ⟨by rfl, ?_⟩) ?_ ?_
            rotate_left
            · intro w'
              go_simp
              with_reducible rfl
            rotate_left
            · simp only [Act.put, List.setIfInBounds_toArray, List.set_cons_zero, List.set_cons_succ, i64_w, i32_w]
              rfl
            refine done_ (by kernel_rfl) ?_
            have hcz45_0 : w44.cell? ⟨gb788, 0, none⟩ = some (.int .i64 a0_0) := (blk_cell BK788.out 0).trans rfl
            have hcz45_1 : w44.cell? ⟨gb788, 1, none⟩ = some (.int .i64 a0_1) := (blk_cell BK788.out 1).trans rfl
            have hcz45_2 : w44.cell? ⟨gb788, 2, none⟩ = some (.slice A0_2 l0_2.length c0_2) := (blk_cell BK788.out 2).trans rfl
            have hfz45_0 := blk_frozen BK788.out 0
            have hfz45_1 := blk_frozen BK788.out 1
            have hfz45_2 := blk_frozen BK788.out 2
            try go_wp2_with (first | ((with_reducible refine gate_callee (f := 48) rfl ?_); refine goesL_ (some 26) rfl rfl Try.func48 (by kernel_rfl) rfl #[.agg #[.int .i64 a0_0, .int .i64 a0_1, .slice A0_2 l0_2.length c0_2]] rfl (by (try simp only [List.map_toArray, List.map_cons, List.map_nil]); first | done | rfl | (simp only [List.length_drop, List.length_take]; rfl)) ?_; (with_reducible refine (laws_toPicture.calls k a0_0 a0_1 _ _ l0_2 t803 t804 t805 _ ?side1 ?side2 A22.out).mono ?_); (case side1 => repeat (first | exact (Kd.C_below HR0_2.out HB.out) | (with_reducible refine Kd.C_alloc ?_ _) | (with_reducible refine Kd.C_drewN ?_ _) | (with_reducible refine Kd.C_drew ?_))); (case side2 => exact HC0_2.out); rintro e w46 ⟨v806, rfl, ho0, hb⟩; refine ⟨_, rfl, ?_⟩; have n0_ := Aside0.mk (Kd.R_elder' (by (with_reducible repeat (first | apply Kd.R_alloc | apply Kd.R_drewN | apply Kd.R_drew)); exact HO796.out) (Kd.R_base ho0) hb); have n1_ := Aside0.mk (Kd.R_elder' (by (with_reducible repeat (first | apply Kd.R_alloc | apply Kd.R_drewN | apply Kd.R_drew)); exact HO801.out) (Kd.R_base ho0) hb); have n2_ := Aside0.mk (Kd.R_lower (Kd.R_new' (Kd.R_new' ho0 (Kd.R_lt (by (with_reducible repeat (first | apply Kd.R_alloc | apply Kd.R_drewN | apply Kd.R_drew)); exact HO796.out))) (Kd.R_lt (by (with_reducible repeat (first | apply Kd.R_alloc | apply Kd.R_drewN | apply Kd.R_drew)); exact HO801.out))) (below_size (by repeat (first | (with_reducible first | exact HB.out | apply below_alloc | apply pw_below_drewN | apply below_drew1 | refine below_set ?_ GE788.out | refine below_set ?_ GE789.out) | exact HB.out)))); have n3_ := Aside0.mk (blk_below (g := gb788) (o := .cells #[.int .i64 a0_0, .int .i64 a0_1, .slice A0_2 l0_2.length c0_2] 34 (0, 0)) (by (with_reducible repeat (first | refine blk_drewN ?_ _ | refine blk_drew ?_ | refine blk_alloc ?_ _)); exact BK788.out) hb); have n4_ := Aside0.mk (blk_below (g := gb789) (o := .cells #[.int .i64 a1_0, .int .i64 a1_1, .slice A1_2 l1_2.length c1_2] 34 (0, 0)) (by (with_reducible repeat (first | refine blk_drewN ?_ _ | refine blk_drew ?_ | refine blk_alloc ?_ _)); exact BK789.out) hb); have n5_ := Aside0.mk (below_step (by repeat (first | (with_reducible first | exact HB.out | apply below_alloc | apply pw_below_drewN | apply below_drew1 | refine below_set ?_ GE788.out | refine below_set ?_ GE789.out) | exact HB.out)) hb); clear HO796; clear HO801; clear BK788; clear BK789; clear HB; have HO796 := n0_; have HO801 := n1_; have HO807 := n2_; have BK788 := n3_; have BK789 := n4_; have HB := n5_; clear n0_ n1_ n2_ n3_ n4_ n5_; (try clear hb); (try clear hb2); (try clear hk); (try clear hi); (try clear ho0)) | ((with_reducible refine gate_dst (N := 7) rfl ?_); refine box_event ?hg (N := 7) ?hd (cs := #[.int .i64 0, .int .i64 0, .slice none 0 0]) (t := 37) ?hr ?_; (case hd => rfl); (case hg => rfl); (case hr => first | (go_simp; done) | (go_simp; rfl)); intro gb808 hg w47 hbox hb; have n0_ := Aside0.mk (Kd.R_below (by (with_reducible repeat (first | apply Kd.R_alloc | apply Kd.R_drewN | apply Kd.R_drew)); exact HO796.out) hb); have n1_ := Aside0.mk (Kd.R_below (by (with_reducible repeat (first | apply Kd.R_alloc | apply Kd.R_drewN | apply Kd.R_drew)); exact HO801.out) hb); have n2_ := Aside0.mk (Kd.R_below (by (with_reducible repeat (first | apply Kd.R_alloc | apply Kd.R_drewN | apply Kd.R_drew)); exact HO807.out) hb); have n3_ := Aside0.mk (blk_below (g := gb788) (o := .cells #[.int .i64 a0_0, .int .i64 a0_1, .slice A0_2 l0_2.length c0_2] 34 (0, 0)) (by (with_reducible repeat (first | refine blk_drewN ?_ _ | refine blk_drew ?_ | refine blk_alloc ?_ _)); exact BK788.out) hb); have n4_ := Aside0.mk (blk_below (g := gb789) (o := .cells #[.int .i64 a1_0, .int .i64 a1_1, .slice A1_2 l1_2.length c1_2] 34 (0, 0)) (by (with_reducible repeat (first | refine blk_drewN ?_ _ | refine blk_drew ?_ | refine blk_alloc ?_ _)); exact BK789.out) hb); have n5_ := Aside0.mk (below_step (by repeat (first | (with_reducible first | exact HB.out | apply below_alloc | apply pw_below_drewN | apply below_drew1 | refine below_set ?_ GE788.out | refine below_set ?_ GE789.out) | exact HB.out)) hb); have n6_ := Aside0.mk (hbox); have n7_ := Aside0.mk ((by rw [hg]; exact (below_size (by repeat (first | (with_reducible first | exact HB.out | apply below_alloc | apply pw_below_drewN | apply below_drew1 | refine below_set ?_ GE788.out | refine below_set ?_ GE789.out) | exact HB.out))) : w.heap.size ≤ gb808)); have n8_ := Aside0.mk ((by rw [hg]; exact (below_size (by repeat (first | (with_reducible first | exact HB.out | apply below_alloc | apply pw_below_drewN | apply below_drew1 | refine below_set ?_ GE788.out | refine below_set ?_ GE789.out) | exact HB.out))) : w.heap.size ≤ gb808)); have n9_ := Aside0.mk ((by rw [hg]; exact Nat.ne_of_lt (blk_lt (g := gb788) (o := .cells #[.int .i64 a0_0, .int .i64 a0_1, .slice A0_2 l0_2.length c0_2] 34 (0, 0)) (by (with_reducible repeat (first | refine blk_drewN ?_ _ | refine blk_drew ?_ | refine blk_alloc ?_ _)); exact BK788.out)) : gb788 ≠ gb808)); have n10_ := Aside0.mk ((by rw [hg]; exact Nat.ne_of_gt (blk_lt (g := gb788) (o := .cells #[.int .i64 a0_0, .int .i64 a0_1, .slice A0_2 l0_2.length c0_2] 34 (0, 0)) (by (with_reducible repeat (first | refine blk_drewN ?_ _ | refine blk_drew ?_ | refine blk_alloc ?_ _)); exact BK788.out)) : gb808 ≠ gb788)); have n11_ := Aside0.mk ((by rw [hg]; exact Nat.ne_of_lt (blk_lt (g := gb789) (o := .cells #[.int .i64 a1_0, .int .i64 a1_1, .slice A1_2 l1_2.length c1_2] 34 (0, 0)) (by (with_reducible repeat (first | refine blk_drewN ?_ _ | refine blk_drew ?_ | refine blk_alloc ?_ _)); exact BK789.out)) : gb789 ≠ gb808)); have n12_ := Aside0.mk ((by rw [hg]; exact Nat.ne_of_gt (blk_lt (g := gb789) (o := .cells #[.int .i64 a1_0, .int .i64 a1_1, .slice A1_2 l1_2.length c1_2] 34 (0, 0)) (by (with_reducible repeat (first | refine blk_drewN ?_ _ | refine blk_drew ?_ | refine blk_alloc ?_ _)); exact BK789.out)) : gb808 ≠ gb789)); clear HO796; clear HO801; clear HO807; clear BK788; clear BK789; clear HB; have HO796 := n0_; have HO801 := n1_; have HO807 := n2_; have BK788 := n3_; have BK789 := n4_; have HB := n5_; have BK808 := n6_; have GW808 := n7_; have GE808 := n8_; have NB788_808 := n9_; have NB808_788 := n10_; have NB789_808 := n11_; have NB808_789 := n12_; clear n0_ n1_ n2_ n3_ n4_ n5_ n6_ n7_ n8_ n9_ n10_ n11_ n12_; clear hb hbox hg; have hnb48 := NB808_788.out; have hnc48 := NB788_808.out; have hnb49 := NB808_789.out; have hnc49 := NB789_808.out; have hcz50_0 : w47.cell? ⟨gb808, 0, none⟩ = some (.int .i64 0) := (blk_cell BK808.out 0).trans rfl; have hcz50_1 : w47.cell? ⟨gb808, 1, none⟩ = some (.int .i64 0) := (blk_cell BK808.out 1).trans rfl; have hcz50_2 : w47.cell? ⟨gb808, 2, none⟩ = some (.slice none 0 0) := (blk_cell BK808.out 2).trans rfl; have hfz50_0 := blk_frozen BK808.out 0; have hfz50_1 := blk_frozen BK808.out 1; have hfz50_2 := blk_frozen BK808.out 2; obtain ⟨Ao51, co51, eo51⟩ := Kd.R_slice HO807.out; subst eo51; have hcz52_0 : w47.cell? ⟨gb789, 0, none⟩ = some (.int .i64 a1_0) := (blk_cell BK789.out 0).trans rfl; have hcz52_1 : w47.cell? ⟨gb789, 1, none⟩ = some (.int .i64 a1_1) := (blk_cell BK789.out 1).trans rfl; have hcz52_2 : w47.cell? ⟨gb789, 2, none⟩ = some (.slice A1_2 l1_2.length c1_2) := (blk_cell BK789.out 2).trans rfl; have hfz52_0 := blk_frozen BK789.out 0; have hfz52_1 := blk_frozen BK789.out 1; have hfz52_2 := blk_frozen BK789.out 2) | ((with_reducible refine gate_callee (f := 48) rfl ?_); refine goesL_ (some 28) rfl rfl Try.func48 (by kernel_rfl) rfl #[.agg #[.int .i64 a1_0, .int .i64 a1_1, .slice A1_2 l1_2.length c1_2]] rfl (by (try simp only [List.map_toArray, List.map_cons, List.map_nil]); first | done | rfl | (simp only [List.length_drop, List.length_take]; rfl)) ?_; (with_reducible refine (laws_toPicture.calls k a1_0 a1_1 _ _ l1_2 t809 t810 t811 _ ?side1 ?side2 A23.out).mono ?_); (case side1 => exact Kd.C_below HR1_2.out (by repeat (first | (with_reducible first | exact HB.out | apply below_alloc | apply pw_below_drewN | apply below_drew1 | refine below_set ?_ GE788.out | refine below_set ?_ GE789.out | refine below_set ?_ GE808.out) | exact HB.out))); (case side2 => exact HC1_2.out); rintro e w53 ⟨v812, rfl, ho0, hb⟩; refine ⟨_, rfl, ?_⟩; have n0_ := Aside0.mk (Kd.R_elder' (by (with_reducible repeat (first | apply Kd.R_alloc | apply Kd.R_drewN | apply Kd.R_drew)); exact (Kd.R_mono (Kd.R_far (p := ⟨gb808, 2, none⟩) (Kd.R_far (p := ⟨gb808, 1, none⟩) (Kd.R_far (p := ⟨gb808, 0, none⟩) (Kd.R_types HO796.out BK808.out (by decide)) (fun _ hk => hk.2) (.int .i64 t803)) (fun _ hk => hk.2) (.int .i64 t804)) (fun _ hk => hk.2) (.slice Ao51 t805.length co51)) (fun _ h_ => h_.1))) (Kd.R_base ho0) hb); have n1_ := Aside0.mk (Kd.R_elder' (by (with_reducible repeat (first | apply Kd.R_alloc | apply Kd.R_drewN | apply Kd.R_drew)); exact (Kd.R_mono (Kd.R_far (p := ⟨gb808, 2, none⟩) (Kd.R_far (p := ⟨gb808, 1, none⟩) (Kd.R_far (p := ⟨gb808, 0, none⟩) (Kd.R_types HO801.out BK808.out (by decide)) (fun _ hk => hk.2) (.int .i64 t803)) (fun _ hk => hk.2) (.int .i64 t804)) (fun _ hk => hk.2) (.slice Ao51 t805.length co51)) (fun _ h_ => h_.1))) (Kd.R_base ho0) hb); have n2_ := Aside0.mk (Kd.R_elder' (by (with_reducible repeat (first | apply Kd.R_alloc | apply Kd.R_drewN | apply Kd.R_drew)); exact (Kd.R_mono (Kd.R_far (p := ⟨gb808, 2, none⟩) (Kd.R_far (p := ⟨gb808, 1, none⟩) (Kd.R_far (p := ⟨gb808, 0, none⟩) (Kd.R_types HO807.out BK808.out (by decide)) (fun _ hk => hk.2) (.int .i64 t803)) (fun _ hk => hk.2) (.int .i64 t804)) (fun _ hk => hk.2) (.slice Ao51 t805.length co51)) (fun _ h_ => h_.1))) (Kd.R_base ho0) hb); have n3_ := Aside0.mk (Kd.R_lower (Kd.R_new' (Kd.R_new' (Kd.R_new' ho0 (Kd.R_lt (by (with_reducible repeat (first | apply Kd.R_alloc | apply Kd.R_drewN | apply Kd.R_drew)); exact (Kd.R_mono (Kd.R_far (p := ⟨gb808, 2, none⟩) (Kd.R_far (p := ⟨gb808, 1, none⟩) (Kd.R_far (p := ⟨gb808, 0, none⟩) (Kd.R_types HO796.out BK808.out (by decide)) (fun _ hk => hk.2) (.int .i64 t803)) (fun _ hk => hk.2) (.int .i64 t804)) (fun _ hk => hk.2) (.slice Ao51 t805.length co51)) (fun _ h_ => h_.1))))) (Kd.R_lt (by (with_reducible repeat (first | apply Kd.R_alloc | apply Kd.R_drewN | apply Kd.R_drew)); exact (Kd.R_mono (Kd.R_far (p := ⟨gb808, 2, none⟩) (Kd.R_far (p := ⟨gb808, 1, none⟩) (Kd.R_far (p := ⟨gb808, 0, none⟩) (Kd.R_types HO801.out BK808.out (by decide)) (fun _ hk => hk.2) (.int .i64 t803)) (fun _ hk => hk.2) (.int .i64 t804)) (fun _ hk => hk.2) (.slice Ao51 t805.length co51)) (fun _ h_ => h_.1))))) (Kd.R_lt (by (with_reducible repeat (first | apply Kd.R_alloc | apply Kd.R_drewN | apply Kd.R_drew)); exact (Kd.R_mono (Kd.R_far (p := ⟨gb808, 2, none⟩) (Kd.R_far (p := ⟨gb808, 1, none⟩) (Kd.R_far (p := ⟨gb808, 0, none⟩) (Kd.R_types HO807.out BK808.out (by decide)) (fun _ hk => hk.2) (.int .i64 t803)) (fun _ hk => hk.2) (.int .i64 t804)) (fun _ hk => hk.2) (.slice Ao51 t805.length co51)) (fun _ h_ => h_.1))))) (below_size (by repeat (first | (with_reducible first | exact HB.out | apply below_alloc | apply pw_below_drewN | apply below_drew1 | refine below_set ?_ GE788.out | refine below_set ?_ GE789.out | refine below_set ?_ GE808.out) | exact HB.out)))); have n4_ := Aside0.mk (blk_below (g := gb788) (o := .cells #[.int .i64 a0_0, .int .i64 a0_1, .slice A0_2 l0_2.length c0_2] 34 (0, 0)) (by (with_reducible repeat (first | refine blk_drewN ?_ _ | refine blk_drew ?_ | refine blk_alloc ?_ _)); refine blk_far ?_ NB788_808.out _; (with_reducible repeat (first | refine blk_drewN ?_ _ | refine blk_drew ?_ | refine blk_alloc ?_ _)); refine blk_far ?_ NB788_808.out _; (with_reducible repeat (first | refine blk_drewN ?_ _ | refine blk_drew ?_ | refine blk_alloc ?_ _)); refine blk_far ?_ NB788_808.out _; (with_reducible repeat (first | refine blk_drewN ?_ _ | refine blk_drew ?_ | refine blk_alloc ?_ _)); exact BK788.out) hb); have n5_ := Aside0.mk (blk_below (g := gb789) (o := .cells #[.int .i64 a1_0, .int .i64 a1_1, .slice A1_2 l1_2.length c1_2] 34 (0, 0)) (by (with_reducible repeat (first | refine blk_drewN ?_ _ | refine blk_drew ?_ | refine blk_alloc ?_ _)); refine blk_far ?_ NB789_808.out _; (with_reducible repeat (first | refine blk_drewN ?_ _ | refine blk_drew ?_ | refine blk_alloc ?_ _)); refine blk_far ?_ NB789_808.out _; (with_reducible repeat (first | refine blk_drewN ?_ _ | refine blk_drew ?_ | refine blk_alloc ?_ _)); refine blk_far ?_ NB789_808.out _; (with_reducible repeat (first | refine blk_drewN ?_ _ | refine blk_drew ?_ | refine blk_alloc ?_ _)); exact BK789.out) hb); have n6_ := Aside0.mk (blk_below (g := gb808) (o := .cells #[.int .i64 t803, .int .i64 t804, .slice Ao51 t805.length co51] 37 (0, 0)) (by (with_reducible repeat (first | refine blk_drewN ?_ _ | refine blk_drew ?_ | refine blk_alloc ?_ _)); refine blk_put (cs := #[.int .i64 t803, .int .i64 t804, .slice none 0 0]) ?_ 2 _ rfl; (with_reducible repeat (first | refine blk_drewN ?_ _ | refine blk_drew ?_ | refine blk_alloc ?_ _)); refine blk_put (cs := #[.int .i64 t803, .int .i64 0, .slice none 0 0]) ?_ 1 _ rfl; (with_reducible repeat (first | refine blk_drewN ?_ _ | refine blk_drew ?_ | refine blk_alloc ?_ _)); refine blk_put (cs := #[.int .i64 0, .int .i64 0, .slice none 0 0]) ?_ 0 _ rfl; (with_reducible repeat (first | refine blk_drewN ?_ _ | refine blk_drew ?_ | refine blk_alloc ?_ _)); exact BK808.out) hb); have n7_ := Aside0.mk (below_step (by repeat (first | (with_reducible first | exact HB.out | apply below_alloc | apply pw_below_drewN | apply below_drew1 | refine below_set ?_ GE788.out | refine below_set ?_ GE789.out | refine below_set ?_ GE808.out) | exact HB.out)) hb); clear HO796; clear HO801; clear HO807; clear BK788; clear BK789; clear BK808; clear HB; have HO796 := n0_; have HO801 := n1_; have HO807 := n2_; have HO813 := n3_; have BK788 := n4_; have BK789 := n5_; have BK808 := n6_; have HB := n7_; clear n0_ n1_ n2_ n3_ n4_ n5_ n6_ n7_; (try clear hb); (try clear hb2); (try clear hk); (try clear hi); (try clear ho0)) | ((with_reducible refine gate_dst (N := 8) rfl ?_); refine box_event ?hg (N := 8) ?hd (cs := #[.int .i64 0, .int .i64 0, .slice none 0 0]) (t := 37) ?hr ?_; (case hd => rfl); (case hg => rfl); (case hr => first | (go_simp; done) | (go_simp; rfl)); intro gb814 hg w54 hbox hb; have n0_ := Aside0.mk (Kd.R_below (by (with_reducible repeat (first | apply Kd.R_alloc | apply Kd.R_drewN | apply Kd.R_drew)); exact HO796.out) hb); have n1_ := Aside0.mk (Kd.R_below (by (with_reducible repeat (first | apply Kd.R_alloc | apply Kd.R_drewN | apply Kd.R_drew)); exact HO801.out) hb); have n2_ := Aside0.mk (Kd.R_below (by (with_reducible repeat (first | apply Kd.R_alloc | apply Kd.R_drewN | apply Kd.R_drew)); exact HO807.out) hb); have n3_ := Aside0.mk (Kd.R_below (by (with_reducible repeat (first | apply Kd.R_alloc | apply Kd.R_drewN | apply Kd.R_drew)); exact HO813.out) hb); have n4_ := Aside0.mk (blk_below (g := gb788) (o := .cells #[.int .i64 a0_0, .int .i64 a0_1, .slice A0_2 l0_2.length c0_2] 34 (0, 0)) (by (with_reducible repeat (first | refine blk_drewN ?_ _ | refine blk_drew ?_ | refine blk_alloc ?_ _)); exact BK788.out) hb); have n5_ := Aside0.mk (blk_below (g := gb789) (o := .cells #[.int .i64 a1_0, .int .i64 a1_1, .slice A1_2 l1_2.length c1_2] 34 (0, 0)) (by (with_reducible repeat (first | refine blk_drewN ?_ _ | refine blk_drew ?_ | refine blk_alloc ?_ _)); exact BK789.out) hb); have n6_ := Aside0.mk (blk_below (g := gb808) (o := .cells #[.int .i64 t803, .int .i64 t804, .slice Ao51 t805.length co51] 37 (0, 0)) (by (with_reducible repeat (first | refine blk_drewN ?_ _ | refine blk_drew ?_ | refine blk_alloc ?_ _)); exact BK808.out) hb); have n7_ := Aside0.mk (below_step (by repeat (first | (with_reducible first | exact HB.out | apply below_alloc | apply pw_below_drewN | apply below_drew1 | refine below_set ?_ GE788.out | refine below_set ?_ GE789.out | refine below_set ?_ GE808.out) | exact HB.out)) hb); have n8_ := Aside0.mk (hbox); have n9_ := Aside0.mk ((by rw [hg]; exact (below_size (by repeat (first | (with_reducible first | exact HB.out | apply below_alloc | apply pw_below_drewN | apply below_drew1 | refine below_set ?_ GE788.out | refine below_set ?_ GE789.out | refine below_set ?_ GE808.out) | exact HB.out))) : w.heap.size ≤ gb814)); have n10_ := Aside0.mk ((by rw [hg]; exact (below_size (by repeat (first | (with_reducible first | exact HB.out | apply below_alloc | apply pw_below_drewN | apply below_drew1 | refine below_set ?_ GE788.out | refine below_set ?_ GE789.out | refine below_set ?_ GE808.out) | exact HB.out))) : w.heap.size ≤ gb814)); have n11_ := Aside0.mk ((by rw [hg]; exact Nat.ne_of_lt (blk_lt (g := gb788) (o := .cells #[.int .i64 a0_0, .int .i64 a0_1, .slice A0_2 l0_2.length c0_2] 34 (0, 0)) (by (with_reducible repeat (first | refine blk_drewN ?_ _ | refine blk_drew ?_ | refine blk_alloc ?_ _)); exact BK788.out)) : gb788 ≠ gb814)); have n12_ := Aside0.mk ((by rw [hg]; exact Nat.ne_of_gt (blk_lt (g := gb788) (o := .cells #[.int .i64 a0_0, .int .i64 a0_1, .slice A0_2 l0_2.length c0_2] 34 (0, 0)) (by (with_reducible repeat (first | refine blk_drewN ?_ _ | refine blk_drew ?_ | refine blk_alloc ?_ _)); exact BK788.out)) : gb814 ≠ gb788)); have n13_ := Aside0.mk ((by rw [hg]; exact Nat.ne_of_lt (blk_lt (g := gb789) (o := .cells #[.int .i64 a1_0, .int .i64 a1_1, .slice A1_2 l1_2.length c1_2] 34 (0, 0)) (by (with_reducible repeat (first | refine blk_drewN ?_ _ | refine blk_drew ?_ | refine blk_alloc ?_ _)); exact BK789.out)) : gb789 ≠ gb814)); have n14_ := Aside0.mk ((by rw [hg]; exact Nat.ne_of_gt (blk_lt (g := gb789) (o := .cells #[.int .i64 a1_0, .int .i64 a1_1, .slice A1_2 l1_2.length c1_2] 34 (0, 0)) (by (with_reducible repeat (first | refine blk_drewN ?_ _ | refine blk_drew ?_ | refine blk_alloc ?_ _)); exact BK789.out)) : gb814 ≠ gb789)); have n15_ := Aside0.mk ((by rw [hg]; exact Nat.ne_of_lt (blk_lt (g := gb808) (o := .cells #[.int .i64 t803, .int .i64 t804, .slice Ao51 t805.length co51] 37 (0, 0)) (by (with_reducible repeat (first | refine blk_drewN ?_ _ | refine blk_drew ?_ | refine blk_alloc ?_ _)); exact BK808.out)) : gb808 ≠ gb814)); have n16_ := Aside0.mk ((by rw [hg]; exact Nat.ne_of_gt (blk_lt (g := gb808) (o := .cells #[.int .i64 t803, .int .i64 t804, .slice Ao51 t805.length co51] 37 (0, 0)) (by (with_reducible repeat (first | refine blk_drewN ?_ _ | refine blk_drew ?_ | refine blk_alloc ?_ _)); exact BK808.out)) : gb814 ≠ gb808)); clear HO796; clear HO801; clear HO807; clear HO813; clear BK788; clear BK789; clear BK808; clear HB; have HO796 := n0_; have HO801 := n1_; have HO807 := n2_; have HO813 := n3_; have BK788 := n4_; have BK789 := n5_; have BK808 := n6_; have HB := n7_; have BK814 := n8_; have GW814 := n9_; have GE814 := n10_; have NB788_814 := n11_; have NB814_788 := n12_; have NB789_814 := n13_; have NB814_789 := n14_; have NB808_814 := n15_; have NB814_808 := n16_; clear n0_ n1_ n2_ n3_ n4_ n5_ n6_ n7_ n8_ n9_ n10_ n11_ n12_ n13_ n14_ n15_ n16_; clear hb hbox hg; have hnb55 := NB814_788.out; have hnc55 := NB788_814.out; have hnb56 := NB814_789.out; have hnc56 := NB789_814.out; have hnb57 := NB814_808.out; have hnc57 := NB808_814.out; have hcz58_0 : w54.cell? ⟨gb814, 0, none⟩ = some (.int .i64 0) := (blk_cell BK814.out 0).trans rfl; have hcz58_1 : w54.cell? ⟨gb814, 1, none⟩ = some (.int .i64 0) := (blk_cell BK814.out 1).trans rfl; have hcz58_2 : w54.cell? ⟨gb814, 2, none⟩ = some (.slice none 0 0) := (blk_cell BK814.out 2).trans rfl; have hfz58_0 := blk_frozen BK814.out 0; have hfz58_1 := blk_frozen BK814.out 1; have hfz58_2 := blk_frozen BK814.out 2; obtain ⟨Ao59, co59, eo59⟩ := Kd.R_slice HO813.out; subst eo59; have hcz60_0 : w54.cell? ⟨gb808, 0, none⟩ = some (.int .i64 t803) := (blk_cell BK808.out 0).trans rfl; have hcz60_1 : w54.cell? ⟨gb808, 1, none⟩ = some (.int .i64 t804) := (blk_cell BK808.out 1).trans rfl; have hcz60_2 : w54.cell? ⟨gb808, 2, none⟩ = some (.slice Ao51 t805.length co51) := (blk_cell BK808.out 2).trans rfl; have hfz60_0 := blk_frozen BK808.out 0; have hfz60_1 := blk_frozen BK808.out 1; have hfz60_2 := blk_frozen BK808.out 2) | ((with_reducible refine gate_callee (f := 79) rfl ?_); refine goesL_ (some 31) rfl rfl Try.func79 (by kernel_rfl) rfl #[.agg #[.int .i64 t803, .int .i64 t804, .slice Ao51 t805.length co51], .agg #[.int .i64 t809, .int .i64 t810, .slice Ao59 t811.length co59]] rfl (by (try simp only [List.map_toArray, List.map_cons, List.map_nil]); first | done | rfl | (simp only [List.length_drop, List.length_take]; rfl)) ?_; (with_reducible refine (impl_CoversPicture.calls k t803 t804 _ _ t805 t809 t810 _ _ t811 t815 _ ?side1 ?side2 ?side3 ?side4 A24.out).mono ?_); (case side1 => refine (Kd.R_reads' (e := 3) (base := w.heap.size) (ok := fun k_ => (((True ∧ some k_ ≠ (.slice Ao42 t794.length co42 : Value).ownBlock) ∧ some k_ ≠ (.slice Ao43 t799.length co43 : Value).ownBlock) ∧ some k_ ≠ (.slice Ao59 t811.length co59 : Value).ownBlock)) (n := t805.length) (c := co51) ?_).2.2; exact (by (with_reducible repeat (first | apply Kd.R_alloc | apply Kd.R_drewN | apply Kd.R_drew)); exact (Kd.R_mono (Kd.R_far (p := ⟨gb814, 2, none⟩) (Kd.R_far (p := ⟨gb814, 1, none⟩) (Kd.R_far (p := ⟨gb814, 0, none⟩) (Kd.R_types HO807.out BK814.out (by decide)) (fun _ hk => hk.2) (.int .i64 t809)) (fun _ hk => hk.2) (.int .i64 t810)) (fun _ hk => hk.2) (.slice Ao59 t811.length co59)) (fun _ h_ => h_.1)))); (case side2 => exact (Kd.R_reads' HO807.out).2.1); (case side3 => refine (Kd.R_reads' (e := 3) (base := w.heap.size) (ok := fun k_ => (((True ∧ some k_ ≠ (.slice Ao42 t794.length co42 : Value).ownBlock) ∧ some k_ ≠ (.slice Ao43 t799.length co43 : Value).ownBlock) ∧ some k_ ≠ (.slice Ao51 t805.length co51 : Value).ownBlock)) (n := t811.length) (c := co59) ?_).2.2; exact (by (with_reducible repeat (first | apply Kd.R_alloc | apply Kd.R_drewN | apply Kd.R_drew)); exact (Kd.R_mono (Kd.R_far (p := ⟨gb814, 2, none⟩) (Kd.R_far (p := ⟨gb814, 1, none⟩) (Kd.R_far (p := ⟨gb814, 0, none⟩) (Kd.R_types HO813.out BK814.out (by decide)) (fun _ hk => hk.2) (.int .i64 t809)) (fun _ hk => hk.2) (.int .i64 t810)) (fun _ hk => hk.2) (.slice Ao59 t811.length co59)) (fun _ h_ => h_.1)))); (case side4 => exact (Kd.R_reads' HO813.out).2.1); rintro e w61 ⟨rfl, hb⟩; refine ⟨_, rfl, ?_⟩; have n0_ := Aside0.mk (Kd.R_below (by (with_reducible repeat (first | apply Kd.R_alloc | apply Kd.R_drewN | apply Kd.R_drew)); exact (Kd.R_mono (Kd.R_far (p := ⟨gb814, 2, none⟩) (Kd.R_far (p := ⟨gb814, 1, none⟩) (Kd.R_far (p := ⟨gb814, 0, none⟩) (Kd.R_types HO796.out BK814.out (by decide)) (fun _ hk => hk.2) (.int .i64 t809)) (fun _ hk => hk.2) (.int .i64 t810)) (fun _ hk => hk.2) (.slice Ao59 t811.length co59)) (fun _ h_ => h_.1))) hb); have n1_ := Aside0.mk (Kd.R_below (by (with_reducible repeat (first | apply Kd.R_alloc | apply Kd.R_drewN | apply Kd.R_drew)); exact (Kd.R_mono (Kd.R_far (p := ⟨gb814, 2, none⟩) (Kd.R_far (p := ⟨gb814, 1, none⟩) (Kd.R_far (p := ⟨gb814, 0, none⟩) (Kd.R_types HO801.out BK814.out (by decide)) (fun _ hk => hk.2) (.int .i64 t809)) (fun _ hk => hk.2) (.int .i64 t810)) (fun _ hk => hk.2) (.slice Ao59 t811.length co59)) (fun _ h_ => h_.1))) hb); have n2_ := Aside0.mk (Kd.R_below (by (with_reducible repeat (first | apply Kd.R_alloc | apply Kd.R_drewN | apply Kd.R_drew)); exact (Kd.R_mono (Kd.R_far (p := ⟨gb814, 2, none⟩) (Kd.R_far (p := ⟨gb814, 1, none⟩) (Kd.R_far (p := ⟨gb814, 0, none⟩) (Kd.R_types HO807.out BK814.out (by decide)) (fun _ hk => hk.2) (.int .i64 t809)) (fun _ hk => hk.2) (.int .i64 t810)) (fun _ hk => hk.2) (.slice Ao59 t811.length co59)) (fun _ h_ => h_.1))) hb); have n3_ := Aside0.mk (Kd.R_below (by (with_reducible repeat (first | apply Kd.R_alloc | apply Kd.R_drewN | apply Kd.R_drew)); exact (Kd.R_mono (Kd.R_far (p := ⟨gb814, 2, none⟩) (Kd.R_far (p := ⟨gb814, 1, none⟩) (Kd.R_far (p := ⟨gb814, 0, none⟩) (Kd.R_types HO813.out BK814.out (by decide)) (fun _ hk => hk.2) (.int .i64 t809)) (fun _ hk => hk.2) (.int .i64 t810)) (fun _ hk => hk.2) (.slice Ao59 t811.length co59)) (fun _ h_ => h_.1))) hb); have n4_ := Aside0.mk (blk_below (g := gb788) (o := .cells #[.int .i64 a0_0, .int .i64 a0_1, .slice A0_2 l0_2.length c0_2] 34 (0, 0)) (by (with_reducible repeat (first | refine blk_drewN ?_ _ | refine blk_drew ?_ | refine blk_alloc ?_ _)); refine blk_far ?_ NB788_814.out _; (with_reducible repeat (first | refine blk_drewN ?_ _ | refine blk_drew ?_ | refine blk_alloc ?_ _)); refine blk_far ?_ NB788_814.out _; (with_reducible repeat (first | refine blk_drewN ?_ _ | refine blk_drew ?_ | refine blk_alloc ?_ _)); refine blk_far ?_ NB788_814.out _; (with_reducible repeat (first | refine blk_drewN ?_ _ | refine blk_drew ?_ | refine blk_alloc ?_ _)); exact BK788.out) hb); have n5_ := Aside0.mk (blk_below (g := gb789) (o := .cells #[.int .i64 a1_0, .int .i64 a1_1, .slice A1_2 l1_2.length c1_2] 34 (0, 0)) (by (with_reducible repeat (first | refine blk_drewN ?_ _ | refine blk_drew ?_ | refine blk_alloc ?_ _)); refine blk_far ?_ NB789_814.out _; (with_reducible repeat (first | refine blk_drewN ?_ _ | refine blk_drew ?_ | refine blk_alloc ?_ _)); refine blk_far ?_ NB789_814.out _; (with_reducible repeat (first | refine blk_drewN ?_ _ | refine blk_drew ?_ | refine blk_alloc ?_ _)); refine blk_far ?_ NB789_814.out _; (with_reducible repeat (first | refine blk_drewN ?_ _ | refine blk_drew ?_ | refine blk_alloc ?_ _)); exact BK789.out) hb); have n6_ := Aside0.mk (blk_below (g := gb808) (o := .cells #[.int .i64 t803, .int .i64 t804, .slice Ao51 t805.length co51] 37 (0, 0)) (by (with_reducible repeat (first | refine blk_drewN ?_ _ | refine blk_drew ?_ | refine blk_alloc ?_ _)); refine blk_far ?_ NB808_814.out _; (with_reducible repeat (first | refine blk_drewN ?_ _ | refine blk_drew ?_ | refine blk_alloc ?_ _)); refine blk_far ?_ NB808_814.out _; (with_reducible repeat (first | refine blk_drewN ?_ _ | refine blk_drew ?_ | refine blk_alloc ?_ _)); refine blk_far ?_ NB808_814.out _; (with_reducible repeat (first | refine blk_drewN ?_ _ | refine blk_drew ?_ | refine blk_alloc ?_ _)); exact BK808.out) hb); have n7_ := Aside0.mk (blk_below (g := gb814) (o := .cells #[.int .i64 t809, .int .i64 t810, .slice Ao59 t811.length co59] 37 (0, 0)) (by (with_reducible repeat (first | refine blk_drewN ?_ _ | refine blk_drew ?_ | refine blk_alloc ?_ _)); refine blk_put (cs := #[.int .i64 t809, .int .i64 t810, .slice none 0 0]) ?_ 2 _ rfl; (with_reducible repeat (first | refine blk_drewN ?_ _ | refine blk_drew ?_ | refine blk_alloc ?_ _)); refine blk_put (cs := #[.int .i64 t809, .int .i64 0, .slice none 0 0]) ?_ 1 _ rfl; (with_reducible repeat (first | refine blk_drewN ?_ _ | refine blk_drew ?_ | refine blk_alloc ?_ _)); refine blk_put (cs := #[.int .i64 0, .int .i64 0, .slice none 0 0]) ?_ 0 _ rfl; (with_reducible repeat (first | refine blk_drewN ?_ _ | refine blk_drew ?_ | refine blk_alloc ?_ _)); exact BK814.out) hb); have n8_ := Aside0.mk (below_step (by repeat (first | (with_reducible first | exact HB.out | apply below_alloc | apply pw_below_drewN | apply below_drew1 | refine below_set ?_ GE788.out | refine below_set ?_ GE789.out | refine below_set ?_ GE808.out | refine below_set ?_ GE814.out) | exact HB.out)) hb); clear HO796; clear HO801; clear HO807; clear HO813; clear BK788; clear BK789; clear BK808; clear BK814; clear HB; have HO796 := n0_; have HO801 := n1_; have HO807 := n2_; have HO813 := n3_; have BK788 := n4_; have BK789 := n5_; have BK808 := n6_; have BK814 := n7_; have HB := n8_; clear n0_ n1_ n2_ n3_ n4_ n5_ n6_ n7_ n8_; (try clear hb); (try clear hb2); (try clear hk); (try clear hi)))
            have n0_ := Aside0.mk (Kd.R_drew HO796.out)
            have n1_ := Aside0.mk (Kd.R_drew HO801.out)
            have n2_ := Aside0.mk (Kd.R_drew HO807.out)
            have n3_ := Aside0.mk (Kd.R_drew HO813.out)
            have n4_ := Aside0.mk (blk_drew BK788.out)
            have n5_ := Aside0.mk (blk_drew BK789.out)
            have n6_ := Aside0.mk (blk_drew BK808.out)
            have n7_ := Aside0.mk (blk_drew BK814.out)
            have n8_ := Aside0.mk (below_drew1 HB.out)
            clear HO796
            clear HO801
            clear HO807
            clear HO813
            clear BK788
            clear BK789
            clear BK808
            clear BK814
            clear HB
            have HO796 := n0_
            have HO801 := n1_
            have HO807 := n2_
            have HO813 := n3_
            have BK788 := n4_
            have BK789 := n5_
            have BK808 := n6_
            have BK814 := n7_
            have HB := n8_
            clear n0_ n1_ n2_ n3_ n4_ n5_ n6_ n7_ n8_
            refine start_ (n := 5) (S := fun w' => w'.cell? ⟨gb808, 0, none⟩ = some (.int .i64 t803) ∧ w'.cell? ⟨gb808, 1, none⟩ = some (.int .i64 t804) ∧ w'.cell? ⟨gb808, 2, none⟩ = some (.slice Ao51 t805.length co51) ∧ w'.cell? ⟨gb788, 0, none⟩ = some (.int .i64 a0_0) ∧ w'.cell? ⟨gb788, 1, none⟩ = some (.int .i64 a0_1) ∧ w'.cell? ⟨gb788, 2, none⟩ = some (.slice A0_2 l0_2.length c0_2)) (ds := []) #[false, false, false, false, false] (by kernel_rfl) rfl rfl ⟨(blk_cell BK808.out 0).trans rfl, (blk_cell BK808.out 1).trans rfl, (blk_cell BK808.out 2).trans rfl, (blk_cell BK788.out 0).trans rfl, (blk_cell BK788.out 1).trans rfl, (blk_cell BK788.out 2).trans rfl⟩ (fun hHeld => ?_)
            generalize w61.drew = w62 at HO796 HO801 HO807 HO813 BK788 BK789 BK808 BK814 HB hHeld ⊢
            refine take_ (i := 0) (N := some 35) (v := ?_) (a' := ?_) #[true, false, false, false, false] rfl rfl (by kernel_rfl) (fun _ _ _ h => h) (Or.inl ⟨by rfl, ?_⟩) hHeld ?_ ?_
            rotate_left
            · rintro w' ⟨s0, s1, s2, s3, s4, s5⟩
              go_simp
              with_reducible rfl
            rotate_left
            · simp only [Act.put, List.setIfInBounds_toArray, List.set_cons_zero, List.set_cons_succ, i64_w, i32_w]
              rfl
            refine take_ (i := 1) (N := some 36) (v := ?_) (a' := ?_) #[true, true, false, false, false] rfl rfl (by kernel_rfl) (fun _ _ _ h => h) (Or.inl ⟨by rfl, ?_⟩) hHeld ?_ ?_
            rotate_left
            · rintro w' ⟨s0, s1, s2, s3, s4, s5⟩
              go_simp
              with_reducible rfl
            rotate_left
            · simp only [Act.put, List.setIfInBounds_toArray, List.set_cons_zero, List.set_cons_succ, i64_w, i32_w]
              rfl
            refine one_ (i := 2) (N := some 37) #[true, true, true, false, false] rfl rfl (by kernel_rfl) (by decide) (fun K hK => ?_)
            refine goes_ Try.func48 (by kernel_rfl) rfl #[.agg #[.int .i64 a0_0, .int .i64 a0_1, .slice A0_2 l0_2.length c0_2]] (by rfl) rfl rfl (by (try simp only [List.map_toArray, List.map_cons, List.map_nil]); first | done | rfl | (simp only [List.length_drop, List.length_take]; rfl)) ?_
            with_reducible refine (laws_toPicture.calls k a0_0 a0_1 _ _ l0_2 t816 t817 t818 _ ?side1 ?side2 A26.out).mono ?_
            (case side1 => repeat (first | exact (Kd.C_below HR0_2.out HB.out) | (with_reducible refine Kd.C_alloc ?_ _) | (with_reducible refine Kd.C_drewN ?_ _) | (with_reducible refine Kd.C_drew ?_)))
            (case side2 => exact HC0_2.out)
            rintro e w63 ⟨v819, rfl, ho0, hb⟩
            refine ⟨_, rfl, ?_⟩
            have n0_ := Aside0.mk (Kd.R_elder' (by (with_reducible repeat (first | apply Kd.R_alloc | apply Kd.R_drewN | apply Kd.R_drew)); exact HO796.out) (Kd.R_base ho0) hb)
            have n1_ := Aside0.mk (Kd.R_elder' (by (with_reducible repeat (first | apply Kd.R_alloc | apply Kd.R_drewN | apply Kd.R_drew)); exact HO801.out) (Kd.R_base ho0) hb)
            have n2_ := Aside0.mk (Kd.R_elder' (by (with_reducible repeat (first | apply Kd.R_alloc | apply Kd.R_drewN | apply Kd.R_drew)); exact HO807.out) (Kd.R_base ho0) hb)
            have n3_ := Aside0.mk (Kd.R_elder' (by (with_reducible repeat (first | apply Kd.R_alloc | apply Kd.R_drewN | apply Kd.R_drew)); exact HO813.out) (Kd.R_base ho0) hb)
            have n4_ := Aside0.mk (Kd.R_lower (Kd.R_new' (Kd.R_new' (Kd.R_new' (Kd.R_new' ho0 (Kd.R_lt (by (with_reducible repeat (first | apply Kd.R_alloc | apply Kd.R_drewN | apply Kd.R_drew)); exact HO796.out))) (Kd.R_lt (by (with_reducible repeat (first | apply Kd.R_alloc | apply Kd.R_drewN | apply Kd.R_drew)); exact HO801.out))) (Kd.R_lt (by (with_reducible repeat (first | apply Kd.R_alloc | apply Kd.R_drewN | apply Kd.R_drew)); exact HO807.out))) (Kd.R_lt (by (with_reducible repeat (first | apply Kd.R_alloc | apply Kd.R_drewN | apply Kd.R_drew)); exact HO813.out))) (below_size (by repeat (first | (with_reducible first | exact HB.out | apply below_alloc | apply pw_below_drewN | apply below_drew1 | refine below_set ?_ GE788.out | refine below_set ?_ GE789.out | refine below_set ?_ GE808.out | refine below_set ?_ GE814.out) | exact HB.out))))
            have n5_ := Aside0.mk (blk_below (g := gb788) (o := .cells #[.int .i64 a0_0, .int .i64 a0_1, .slice A0_2 l0_2.length c0_2] 34 (0, 0)) (by (with_reducible repeat (first | refine blk_drewN ?_ _ | refine blk_drew ?_ | refine blk_alloc ?_ _)); exact BK788.out) hb)
            have n6_ := Aside0.mk (blk_below (g := gb789) (o := .cells #[.int .i64 a1_0, .int .i64 a1_1, .slice A1_2 l1_2.length c1_2] 34 (0, 0)) (by (with_reducible repeat (first | refine blk_drewN ?_ _ | refine blk_drew ?_ | refine blk_alloc ?_ _)); exact BK789.out) hb)
            have n7_ := Aside0.mk (blk_below (g := gb808) (o := .cells #[.int .i64 t803, .int .i64 t804, .slice Ao51 t805.length co51] 37 (0, 0)) (by (with_reducible repeat (first | refine blk_drewN ?_ _ | refine blk_drew ?_ | refine blk_alloc ?_ _)); exact BK808.out) hb)
            have n8_ := Aside0.mk (blk_below (g := gb814) (o := .cells #[.int .i64 t809, .int .i64 t810, .slice Ao59 t811.length co59] 37 (0, 0)) (by (with_reducible repeat (first | refine blk_drewN ?_ _ | refine blk_drew ?_ | refine blk_alloc ?_ _)); exact BK814.out) hb)
            have n9_ := Aside0.mk (below_step (by repeat (first | (with_reducible first | exact HB.out | apply below_alloc | apply pw_below_drewN | apply below_drew1 | refine below_set ?_ GE788.out | refine below_set ?_ GE789.out | refine below_set ?_ GE808.out | refine below_set ?_ GE814.out) | exact HB.out)) hb)
            clear HO796
            clear HO801
            clear HO807
            clear HO813
            clear BK788
            clear BK789
            clear BK808
            clear BK814
            clear HB
            have HO796 := n0_
            have HO801 := n1_
            have HO807 := n2_
            have HO813 := n3_
            have HO820 := n4_
            have BK788 := n5_
            have BK789 := n6_
            have BK808 := n7_
            have BK814 := n8_
            have HB := n9_
            clear n0_ n1_ n2_ n3_ n4_ n5_ n6_ n7_ n8_ n9_
            (try clear hb)
            (try clear hb2)
            (try clear hk)
            (try clear hi)
            (try clear ho0)
            obtain ⟨Ao64, co64, eo64⟩ := Kd.R_slice HO820.out
            (first | subst eo64 | (injection eo64 with f1_ f2_ f3_; have f4_ := f1_.symm; have f5_ := f3_.symm; clear f1_ f2_ f3_; subst f4_; subst f5_))
            refine hK.out _ _ ⟨(blk_cell BK808.out 0).trans rfl, (blk_cell BK808.out 1).trans rfl, (blk_cell BK808.out 2).trans rfl, (blk_cell BK788.out 0).trans rfl, (blk_cell BK788.out 1).trans rfl, (blk_cell BK788.out 2).trans rfl⟩ (fun hHeld => ?_)
            clear hK K
            refine norm_ (a' := ?_) ?_ ?_
            rotate_left
            · show Act.put _ (some 37) _ = _
              simp only [Act.put, List.setIfInBounds_toArray, List.set_cons_zero, List.set_cons_succ, i64_w, i32_w]
              rfl
            refine one_ (i := 3) (N := some 38) #[true, true, true, true, false] rfl rfl (by kernel_rfl) (by decide) (fun K hK => ?_)
            refine goes_ Try.func50 (by kernel_rfl) rfl #[.agg #[.int .i64 t803, .int .i64 t804, .slice Ao51 t805.length co51], .agg #[.int .i64 t816, .int .i64 t817, .slice Ao64 t818.length co64]] (by rfl) rfl rfl (by (try simp only [List.map_toArray, List.map_cons, List.map_nil]); first | done | rfl | (simp only [List.length_drop, List.length_take]; rfl)) ?_
            with_reducible refine (laws_eqPicture.calls k t803 t804 _ _ t805 t816 t817 _ _ t818 true _ ?side1 ?side2 ?side3 ?side4 A27.out).mono ?_
            (case side1 => repeat (first | exact (Kd.R_reads' HO807.out).2.2 | (with_reducible refine Kd.C_alloc ?_ _) | (with_reducible refine Kd.C_drewN ?_ _) | (with_reducible refine Kd.C_drew ?_)))
            (case side2 => exact (Kd.R_reads' HO807.out).2.1)
            (case side3 => repeat (first | exact (Kd.R_reads' HO820.out).2.2 | (with_reducible refine Kd.C_alloc ?_ _) | (with_reducible refine Kd.C_drewN ?_ _) | (with_reducible refine Kd.C_drew ?_)))
            (case side4 => exact (Kd.R_reads' HO820.out).2.1)
            rintro e w65 ⟨rfl, hb⟩
            refine ⟨_, rfl, ?_⟩
            have n0_ := Aside0.mk (Kd.R_below (by (with_reducible repeat (first | apply Kd.R_alloc | apply Kd.R_drewN | apply Kd.R_drew)); exact HO796.out) hb)
            have n1_ := Aside0.mk (Kd.R_below (by (with_reducible repeat (first | apply Kd.R_alloc | apply Kd.R_drewN | apply Kd.R_drew)); exact HO801.out) hb)
            have n2_ := Aside0.mk (Kd.R_below (by (with_reducible repeat (first | apply Kd.R_alloc | apply Kd.R_drewN | apply Kd.R_drew)); exact HO807.out) hb)
            have n3_ := Aside0.mk (Kd.R_below (by (with_reducible repeat (first | apply Kd.R_alloc | apply Kd.R_drewN | apply Kd.R_drew)); exact HO813.out) hb)
            have n4_ := Aside0.mk (Kd.R_below (by (with_reducible repeat (first | apply Kd.R_alloc | apply Kd.R_drewN | apply Kd.R_drew)); exact HO820.out) hb)
            have n5_ := Aside0.mk (blk_below (g := gb788) (o := .cells #[.int .i64 a0_0, .int .i64 a0_1, .slice A0_2 l0_2.length c0_2] 34 (0, 0)) (by (with_reducible repeat (first | refine blk_drewN ?_ _ | refine blk_drew ?_ | refine blk_alloc ?_ _)); exact BK788.out) hb)
            have n6_ := Aside0.mk (blk_below (g := gb789) (o := .cells #[.int .i64 a1_0, .int .i64 a1_1, .slice A1_2 l1_2.length c1_2] 34 (0, 0)) (by (with_reducible repeat (first | refine blk_drewN ?_ _ | refine blk_drew ?_ | refine blk_alloc ?_ _)); exact BK789.out) hb)
            have n7_ := Aside0.mk (blk_below (g := gb808) (o := .cells #[.int .i64 t803, .int .i64 t804, .slice Ao51 t805.length co51] 37 (0, 0)) (by (with_reducible repeat (first | refine blk_drewN ?_ _ | refine blk_drew ?_ | refine blk_alloc ?_ _)); exact BK808.out) hb)
            have n8_ := Aside0.mk (blk_below (g := gb814) (o := .cells #[.int .i64 t809, .int .i64 t810, .slice Ao59 t811.length co59] 37 (0, 0)) (by (with_reducible repeat (first | refine blk_drewN ?_ _ | refine blk_drew ?_ | refine blk_alloc ?_ _)); exact BK814.out) hb)
            have n9_ := Aside0.mk (below_step (by repeat (first | (with_reducible first | exact HB.out | apply below_alloc | apply pw_below_drewN | apply below_drew1 | refine below_set ?_ GE788.out | refine below_set ?_ GE789.out | refine below_set ?_ GE808.out | refine below_set ?_ GE814.out) | exact HB.out)) hb)
            clear HO796
            clear HO801
            clear HO807
            clear HO813
            clear HO820
            clear BK788
            clear BK789
            clear BK808
            clear BK814
            clear HB
            have HO796 := n0_
            have HO801 := n1_
            have HO807 := n2_
            have HO813 := n3_
            have HO820 := n4_
            have BK788 := n5_
            have BK789 := n6_
            have BK808 := n7_
            have BK814 := n8_
            have HB := n9_
            clear n0_ n1_ n2_ n3_ n4_ n5_ n6_ n7_ n8_ n9_
            (try clear hb)
            (try clear hb2)
            (try clear hk)
            (try clear hi)
            refine hK.out _ _ ⟨(blk_cell BK808.out 0).trans rfl, (blk_cell BK808.out 1).trans rfl, (blk_cell BK808.out 2).trans rfl, (blk_cell BK788.out 0).trans rfl, (blk_cell BK788.out 1).trans rfl, (blk_cell BK788.out 2).trans rfl⟩ (fun hHeld => ?_)
            clear hK K
            refine norm_ (a' := ?_) ?_ ?_
            rotate_left
            · show Act.put _ (some 38) _ = _
              simp only [Act.put, List.setIfInBounds_toArray, List.set_cons_zero, List.set_cons_succ, i64_w, i32_w]
              rfl
            refine pure_ (i := 4) (N := some 39) (v := ?_) (a' := ?_) #[true, true, true, true, true] rfl rfl (by kernel_rfl) (fun _ _ _ h => h) (Or.inl ⟨by rfl, ?_⟩) ?_ ?_
            rotate_left
            · intro w'
              go_simp
              with_reducible rfl
            rotate_left
            · simp only [Act.put, List.setIfInBounds_toArray, List.set_cons_zero, List.set_cons_succ, i64_w, i32_w]
              rfl
            refine done_ (by kernel_rfl) ?_
            try go_wp2
            have n0_ := Aside0.mk (Kd.R_drew HO796.out)
            have n1_ := Aside0.mk (Kd.R_drew HO801.out)
            have n2_ := Aside0.mk (Kd.R_drew HO807.out)
            have n3_ := Aside0.mk (Kd.R_drew HO813.out)
            have n4_ := Aside0.mk (Kd.R_drew HO820.out)
            have n5_ := Aside0.mk (blk_drew BK788.out)
            have n6_ := Aside0.mk (blk_drew BK789.out)
            have n7_ := Aside0.mk (blk_drew BK808.out)
            have n8_ := Aside0.mk (blk_drew BK814.out)
            have n9_ := Aside0.mk (below_drew1 HB.out)
            clear HO796
            clear HO801
            clear HO807
            clear HO813
            clear HO820
            clear BK788
            clear BK789
            clear BK808
            clear BK814
            clear HB
            have HO796 := n0_
            have HO801 := n1_
            have HO807 := n2_
            have HO813 := n3_
            have HO820 := n4_
            have BK788 := n5_
            have BK789 := n6_
            have BK808 := n7_
            have BK814 := n8_
            have HB := n9_
            clear n0_ n1_ n2_ n3_ n4_ n5_ n6_ n7_ n8_ n9_
            refine start_ (n := 5) (S := fun w' => w'.cell? ⟨gb814, 0, none⟩ = some (.int .i64 t809) ∧ w'.cell? ⟨gb814, 1, none⟩ = some (.int .i64 t810) ∧ w'.cell? ⟨gb814, 2, none⟩ = some (.slice Ao59 t811.length co59) ∧ w'.cell? ⟨gb789, 0, none⟩ = some (.int .i64 a1_0) ∧ w'.cell? ⟨gb789, 1, none⟩ = some (.int .i64 a1_1) ∧ w'.cell? ⟨gb789, 2, none⟩ = some (.slice A1_2 l1_2.length c1_2)) (ds := []) #[false, false, false, false, false] (by kernel_rfl) rfl rfl ⟨(blk_cell BK814.out 0).trans rfl, (blk_cell BK814.out 1).trans rfl, (blk_cell BK814.out 2).trans rfl, (blk_cell BK789.out 0).trans rfl, (blk_cell BK789.out 1).trans rfl, (blk_cell BK789.out 2).trans rfl⟩ (fun hHeld => ?_)
            generalize w65.drew = w66 at HO796 HO801 HO807 HO813 HO820 BK788 BK789 BK808 BK814 HB hHeld ⊢
            refine take_ (i := 0) (N := some 40) (v := ?_) (a' := ?_) #[true, false, false, false, false] rfl rfl (by kernel_rfl) (fun _ _ _ h => h) (Or.inl ⟨by rfl, ?_⟩) hHeld ?_ ?_
            rotate_left
            · rintro w' ⟨s0, s1, s2, s3, s4, s5⟩
              go_simp
              with_reducible rfl
            rotate_left
            · simp only [Act.put, List.setIfInBounds_toArray, List.set_cons_zero, List.set_cons_succ, i64_w, i32_w]
              rfl
            refine take_ (i := 1) (N := some 41) (v := ?_) (a' := ?_) #[true, true, false, false, false] rfl rfl (by kernel_rfl) (fun _ _ _ h => h) (Or.inl ⟨by rfl, ?_⟩) hHeld ?_ ?_
            rotate_left
            · rintro w' ⟨s0, s1, s2, s3, s4, s5⟩
              go_simp
              with_reducible rfl
            rotate_left
            · simp only [Act.put, List.setIfInBounds_toArray, List.set_cons_zero, List.set_cons_succ, i64_w, i32_w]
              rfl
            refine one_ (i := 2) (N := some 42) #[true, true, true, false, false] rfl rfl (by kernel_rfl) (by decide) (fun K hK => ?_)
            refine goes_ Try.func48 (by kernel_rfl) rfl #[.agg #[.int .i64 a1_0, .int .i64 a1_1, .slice A1_2 l1_2.length c1_2]] (by rfl) rfl rfl (by (try simp only [List.map_toArray, List.map_cons, List.map_nil]); first | done | rfl | (simp only [List.length_drop, List.length_take]; rfl)) ?_
            with_reducible refine (laws_toPicture.calls k a1_0 a1_1 _ _ l1_2 t822 t823 t824 _ ?side1 ?side2 A29.out).mono ?_
            (case side1 => repeat (first | exact (Kd.C_below HR1_2.out HB.out) | (with_reducible refine Kd.C_alloc ?_ _) | (with_reducible refine Kd.C_drewN ?_ _) | (with_reducible refine Kd.C_drew ?_)))
            (case side2 => exact HC1_2.out)
            rintro e w67 ⟨v825, rfl, ho0, hb⟩
            refine ⟨_, rfl, ?_⟩
            have n0_ := Aside0.mk (Kd.R_elder' (by (with_reducible repeat (first | apply Kd.R_alloc | apply Kd.R_drewN | apply Kd.R_drew)); exact HO796.out) (Kd.R_base ho0) hb)
            have n1_ := Aside0.mk (Kd.R_elder' (by (with_reducible repeat (first | apply Kd.R_alloc | apply Kd.R_drewN | apply Kd.R_drew)); exact HO801.out) (Kd.R_base ho0) hb)
            have n2_ := Aside0.mk (Kd.R_elder' (by (with_reducible repeat (first | apply Kd.R_alloc | apply Kd.R_drewN | apply Kd.R_drew)); exact HO807.out) (Kd.R_base ho0) hb)
            have n3_ := Aside0.mk (Kd.R_elder' (by (with_reducible repeat (first | apply Kd.R_alloc | apply Kd.R_drewN | apply Kd.R_drew)); exact HO813.out) (Kd.R_base ho0) hb)
            have n4_ := Aside0.mk (Kd.R_elder' (by (with_reducible repeat (first | apply Kd.R_alloc | apply Kd.R_drewN | apply Kd.R_drew)); exact HO820.out) (Kd.R_base ho0) hb)
            have n5_ := Aside0.mk (Kd.R_lower (Kd.R_new' (Kd.R_new' (Kd.R_new' (Kd.R_new' (Kd.R_new' ho0 (Kd.R_lt (by (with_reducible repeat (first | apply Kd.R_alloc | apply Kd.R_drewN | apply Kd.R_drew)); exact HO796.out))) (Kd.R_lt (by (with_reducible repeat (first | apply Kd.R_alloc | apply Kd.R_drewN | apply Kd.R_drew)); exact HO801.out))) (Kd.R_lt (by (with_reducible repeat (first | apply Kd.R_alloc | apply Kd.R_drewN | apply Kd.R_drew)); exact HO807.out))) (Kd.R_lt (by (with_reducible repeat (first | apply Kd.R_alloc | apply Kd.R_drewN | apply Kd.R_drew)); exact HO813.out))) (Kd.R_lt (by (with_reducible repeat (first | apply Kd.R_alloc | apply Kd.R_drewN | apply Kd.R_drew)); exact HO820.out))) (below_size (by repeat (first | (with_reducible first | exact HB.out | apply below_alloc | apply pw_below_drewN | apply below_drew1 | refine below_set ?_ GE788.out | refine below_set ?_ GE789.out | refine below_set ?_ GE808.out | refine below_set ?_ GE814.out) | exact HB.out))))
            have n6_ := Aside0.mk (blk_below (g := gb788) (o := .cells #[.int .i64 a0_0, .int .i64 a0_1, .slice A0_2 l0_2.length c0_2] 34 (0, 0)) (by (with_reducible repeat (first | refine blk_drewN ?_ _ | refine blk_drew ?_ | refine blk_alloc ?_ _)); exact BK788.out) hb)
            have n7_ := Aside0.mk (blk_below (g := gb789) (o := .cells #[.int .i64 a1_0, .int .i64 a1_1, .slice A1_2 l1_2.length c1_2] 34 (0, 0)) (by (with_reducible repeat (first | refine blk_drewN ?_ _ | refine blk_drew ?_ | refine blk_alloc ?_ _)); exact BK789.out) hb)
            have n8_ := Aside0.mk (blk_below (g := gb808) (o := .cells #[.int .i64 t803, .int .i64 t804, .slice Ao51 t805.length co51] 37 (0, 0)) (by (with_reducible repeat (first | refine blk_drewN ?_ _ | refine blk_drew ?_ | refine blk_alloc ?_ _)); exact BK808.out) hb)
            have n9_ := Aside0.mk (blk_below (g := gb814) (o := .cells #[.int .i64 t809, .int .i64 t810, .slice Ao59 t811.length co59] 37 (0, 0)) (by (with_reducible repeat (first | refine blk_drewN ?_ _ | refine blk_drew ?_ | refine blk_alloc ?_ _)); exact BK814.out) hb)
            have n10_ := Aside0.mk (below_step (by repeat (first | (with_reducible first | exact HB.out | apply below_alloc | apply pw_below_drewN | apply below_drew1 | refine below_set ?_ GE788.out | refine below_set ?_ GE789.out | refine below_set ?_ GE808.out | refine below_set ?_ GE814.out) | exact HB.out)) hb)
            clear HO796
            clear HO801
            clear HO807
            clear HO813
            clear HO820
            clear BK788
            clear BK789
            clear BK808
            clear BK814
            clear HB
            have HO796 := n0_
            have HO801 := n1_
            have HO807 := n2_
            have HO813 := n3_
            have HO820 := n4_
            have HO826 := n5_
            have BK788 := n6_
            have BK789 := n7_
            have BK808 := n8_
            have BK814 := n9_
            have HB := n10_
            clear n0_ n1_ n2_ n3_ n4_ n5_ n6_ n7_ n8_ n9_ n10_
            (try clear hb)
            (try clear hb2)
            (try clear hk)
            (try clear hi)
            (try clear ho0)
            obtain ⟨Ao68, co68, eo68⟩ := Kd.R_slice HO826.out
            (first | subst eo68 | (injection eo68 with f1_ f2_ f3_; have f4_ := f1_.symm; have f5_ := f3_.symm; clear f1_ f2_ f3_; subst f4_; subst f5_))
            refine hK.out _ _ ⟨(blk_cell BK814.out 0).trans rfl, (blk_cell BK814.out 1).trans rfl, (blk_cell BK814.out 2).trans rfl, (blk_cell BK789.out 0).trans rfl, (blk_cell BK789.out 1).trans rfl, (blk_cell BK789.out 2).trans rfl⟩ (fun hHeld => ?_)
            clear hK K
            refine norm_ (a' := ?_) ?_ ?_
            rotate_left
            · show Act.put _ (some 42) _ = _
              simp only [Act.put, List.setIfInBounds_toArray, List.set_cons_zero, List.set_cons_succ, i64_w, i32_w]
              rfl
            refine one_ (i := 3) (N := some 43) #[true, true, true, true, false] rfl rfl (by kernel_rfl) (by decide) (fun K hK => ?_)
            refine goes_ Try.func50 (by kernel_rfl) rfl #[.agg #[.int .i64 t809, .int .i64 t810, .slice Ao59 t811.length co59], .agg #[.int .i64 t822, .int .i64 t823, .slice Ao68 t824.length co68]] (by rfl) rfl rfl (by (try simp only [List.map_toArray, List.map_cons, List.map_nil]); first | done | rfl | (simp only [List.length_drop, List.length_take]; rfl)) ?_
            with_reducible refine (laws_eqPicture.calls k t809 t810 _ _ t811 t822 t823 _ _ t824 true _ ?side1 ?side2 ?side3 ?side4 A30.out).mono ?_
            (case side1 => repeat (first | exact (Kd.R_reads' HO813.out).2.2 | (with_reducible refine Kd.C_alloc ?_ _) | (with_reducible refine Kd.C_drewN ?_ _) | (with_reducible refine Kd.C_drew ?_)))
            (case side2 => exact (Kd.R_reads' HO813.out).2.1)
            (case side3 => repeat (first | exact (Kd.R_reads' HO826.out).2.2 | (with_reducible refine Kd.C_alloc ?_ _) | (with_reducible refine Kd.C_drewN ?_ _) | (with_reducible refine Kd.C_drew ?_)))
            (case side4 => exact (Kd.R_reads' HO826.out).2.1)
            rintro e w69 ⟨rfl, hb⟩
            refine ⟨_, rfl, ?_⟩
            have n0_ := Aside0.mk (Kd.R_below (by (with_reducible repeat (first | apply Kd.R_alloc | apply Kd.R_drewN | apply Kd.R_drew)); exact HO796.out) hb)
            have n1_ := Aside0.mk (Kd.R_below (by (with_reducible repeat (first | apply Kd.R_alloc | apply Kd.R_drewN | apply Kd.R_drew)); exact HO801.out) hb)
            have n2_ := Aside0.mk (Kd.R_below (by (with_reducible repeat (first | apply Kd.R_alloc | apply Kd.R_drewN | apply Kd.R_drew)); exact HO807.out) hb)
            have n3_ := Aside0.mk (Kd.R_below (by (with_reducible repeat (first | apply Kd.R_alloc | apply Kd.R_drewN | apply Kd.R_drew)); exact HO813.out) hb)
            have n4_ := Aside0.mk (Kd.R_below (by (with_reducible repeat (first | apply Kd.R_alloc | apply Kd.R_drewN | apply Kd.R_drew)); exact HO820.out) hb)
            have n5_ := Aside0.mk (Kd.R_below (by (with_reducible repeat (first | apply Kd.R_alloc | apply Kd.R_drewN | apply Kd.R_drew)); exact HO826.out) hb)
            have n6_ := Aside0.mk (blk_below (g := gb788) (o := .cells #[.int .i64 a0_0, .int .i64 a0_1, .slice A0_2 l0_2.length c0_2] 34 (0, 0)) (by (with_reducible repeat (first | refine blk_drewN ?_ _ | refine blk_drew ?_ | refine blk_alloc ?_ _)); exact BK788.out) hb)
            have n7_ := Aside0.mk (blk_below (g := gb789) (o := .cells #[.int .i64 a1_0, .int .i64 a1_1, .slice A1_2 l1_2.length c1_2] 34 (0, 0)) (by (with_reducible repeat (first | refine blk_drewN ?_ _ | refine blk_drew ?_ | refine blk_alloc ?_ _)); exact BK789.out) hb)
            have n8_ := Aside0.mk (blk_below (g := gb808) (o := .cells #[.int .i64 t803, .int .i64 t804, .slice Ao51 t805.length co51] 37 (0, 0)) (by (with_reducible repeat (first | refine blk_drewN ?_ _ | refine blk_drew ?_ | refine blk_alloc ?_ _)); exact BK808.out) hb)
            have n9_ := Aside0.mk (blk_below (g := gb814) (o := .cells #[.int .i64 t809, .int .i64 t810, .slice Ao59 t811.length co59] 37 (0, 0)) (by (with_reducible repeat (first | refine blk_drewN ?_ _ | refine blk_drew ?_ | refine blk_alloc ?_ _)); exact BK814.out) hb)
            have n10_ := Aside0.mk (below_step (by repeat (first | (with_reducible first | exact HB.out | apply below_alloc | apply pw_below_drewN | apply below_drew1 | refine below_set ?_ GE788.out | refine below_set ?_ GE789.out | refine below_set ?_ GE808.out | refine below_set ?_ GE814.out) | exact HB.out)) hb)
            clear HO796
            clear HO801
            clear HO807
            clear HO813
            clear HO820
            clear HO826
            clear BK788
            clear BK789
            clear BK808
            clear BK814
            clear HB
            have HO796 := n0_
            have HO801 := n1_
            have HO807 := n2_
            have HO813 := n3_
            have HO820 := n4_
            have HO826 := n5_
            have BK788 := n6_
            have BK789 := n7_
            have BK808 := n8_
            have BK814 := n9_
            have HB := n10_
            clear n0_ n1_ n2_ n3_ n4_ n5_ n6_ n7_ n8_ n9_ n10_
            (try clear hb)
            (try clear hb2)
            (try clear hk)
            (try clear hi)
            refine hK.out _ _ ⟨(blk_cell BK814.out 0).trans rfl, (blk_cell BK814.out 1).trans rfl, (blk_cell BK814.out 2).trans rfl, (blk_cell BK789.out 0).trans rfl, (blk_cell BK789.out 1).trans rfl, (blk_cell BK789.out 2).trans rfl⟩ (fun hHeld => ?_)
            clear hK K
            refine norm_ (a' := ?_) ?_ ?_
            rotate_left
            · show Act.put _ (some 43) _ = _
              simp only [Act.put, List.setIfInBounds_toArray, List.set_cons_zero, List.set_cons_succ, i64_w, i32_w]
              rfl
            refine pure_ (i := 4) (N := some 44) (v := ?_) (a' := ?_) #[true, true, true, true, true] rfl rfl (by kernel_rfl) (fun _ _ _ h => h) (Or.inl ⟨by rfl, ?_⟩) ?_ ?_
            rotate_left
            · intro w'
              go_simp
              with_reducible rfl
            rotate_left
            · simp only [Act.put, List.setIfInBounds_toArray, List.set_cons_zero, List.set_cons_succ, i64_w, i32_w]
              rfl
            refine done_ (by kernel_rfl) ?_
            try go_wp2
            go_ret
            exact ⟨by first | rfl | (simp [errW_none, errW_some] <;> rfl) | (simp [*, errW_none, errW_some] <;> rfl), by repeat (first | (with_reducible first | exact HB.out | apply below_alloc | apply pw_below_drewN | apply below_drew1 | refine below_set ?_ GE788.out | refine below_set ?_ GE789.out | refine below_set ?_ GE808.out | refine below_set ?_ GE814.out) | exact HB.out)⟩
          · replace c31 := Bool.eq_false_iff.mpr c31
            subst c31
            have H1 : (some false) = some r := by rw [if_neg (show ¬ (false = true) by decide)] at H; exact H
            clear H
            have H := H1
            clear H1
            exact absurd ((Option.some.inj H).trans hT.out) (by decide)
        · replace c28 := Bool.eq_false_iff.mpr c28
          subst c28
          have H1 : (some false) = some r := by rw [if_neg (show ¬ (false = true) by decide)] at H; exact H
          clear H
          have H := H1
          clear H1
          exact absurd ((Option.some.inj H).trans hT.out) (by decide)

end Go.Proofs.Ytbgbbfdmgpcgmaa.P
