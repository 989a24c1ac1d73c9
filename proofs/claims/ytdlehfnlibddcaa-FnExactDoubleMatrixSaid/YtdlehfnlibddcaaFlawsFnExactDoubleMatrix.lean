-- Written by tools/seatprint.py (over the kit's print, changed in memory). Not trusted: Lean checks it.
import Derived.Test.YtdlehfnlibddcaaP0
import Derived.Test.YtdlehfnlibddcaaFimplDoubleMatrix
import Derived.Test.YtdlehfnlibddcaaFlawseqMatrix
import Derived.Test.YtdlehfnlibddcaaFlawsmarkMatrix
import Derived.Test.YtdlehfnlibddcaaFlawsheldMatrix
import Derived.Test.YtdlehfnlibddcaaFlawsszMatrix
import Derived.Test.YtdlehfnlibddcaaFspecDoubleMatrix
import Derived.Test.YtdlehfnlibddcaaFlawstoMatrix
namespace Go.Proofs.Ytdlehfnlibddcaa.P
open Go.RowKit Go.Proofs.YtdlehfnlibddcaaW.PrintWords Go.Proofs.YtdlehfnlibddcaaW.PrintLast Go.Proofs.YtdlehfnlibddcaaW.PrintMore
attribute [local go_sem] max2_int min2_int max_two min_two max_three min_three max_four min_four   -- for this text's walks alone
set_option linter.unusedVariables false
set_option linter.unusedSimpArgs false

/-! ### laws_FnExactDoubleMatrix: function 12 -/
mutual
def laws_FnExactDoubleMatrix.j0 : Nat → Bool → Bool → Bool → Int → Int → List Int → Int → Int → List Int → Int → Int → List Int → Int → Int → List Int → Option (Bool)
  | 0, _, _, _, _, _, _, _, _, _, _, _, _, _, _, _ => none
  | k + 1, x5, x8, x40, x698000, x698001, x698002, x711000, x711001, x711002, x717000, x717001, x717002, x724000, x724001, x724002 => if x40 = true then (some false) else ((laws_toMatrix.f k x698000 x698001 x698002).bind fun bt725 => ((laws_eqMatrix.f k x717000 x717001 x717002 bt725.1 bt725.2.1 bt725.2.2).bind fun t730 => (if t730 = true then ((laws_markMatrix.f k x717000 x717001 x717002 1).bind fun bt731 => (if bt731.1 < 0 then (laws_FnExactDoubleMatrix.j1 k x5 true x698000 x698001 x698002 x711000 x711001 x711002 x724000 x724001 x724002) else ((laws_eqMatrix.f k x724000 x724001 x724002 x711000 x711001 x711002).bind fun t733 => (if t733 = true then (laws_FnExactDoubleMatrix.j1 k x5 (x8 != x5) x698000 x698001 x698002 x711000 x711001 x711002 x724000 x724001 x724002) else (laws_FnExactDoubleMatrix.j1 k x5 true x698000 x698001 x698002 x711000 x711001 x711002 x724000 x724001 x724002))))) else (some false))))
def laws_FnExactDoubleMatrix.j1 : Nat → Bool → Bool → Int → Int → List Int → Int → Int → List Int → Int → Int → List Int → Option (Bool)
  | 0, _, _, _, _, _, _, _, _, _, _, _ => none
  | k + 1, x5, x61, x698000, x698001, x698002, x711000, x711001, x711002, x724000, x724001, x724002 => if x61 = true then (some false) else ((laws_markMatrix.f k x724000 x724001 x724002 1).bind fun bt734 => ((laws_heldMatrix.f k x724000 x724001 bt734.2 1).bind fun t736 => (if t736 < 0 then (some false) else (if t736 = bt734.1 then ((laws_toMatrix.f k x698000 x698001 x698002).bind fun bt737 => ((impl_DoubleMatrix.f bt737.1 bt737.2.1 bt737.2.2).bind fun bt742 => ((laws_eqMatrix.f k bt742.1 bt742.2.1 bt742.2.2.1 x711000 x711001 x711002).bind fun t749 => (if t749 = true then (laws_FnExactDoubleMatrix.j2 k bt734.1 (bt742.2.2.2 != x5) x724000 x724001 bt734.2) else (laws_FnExactDoubleMatrix.j2 k bt734.1 true x724000 x724001 bt734.2))))) else (some false)))))
def laws_FnExactDoubleMatrix.j2 : Nat → Int → Bool → Int → Int → List Int → Option (Bool)
  | 0, _, _, _, _, _ => none
  | k + 1, x10, x87, x724000, x724001, x724002 => if x87 = true then (some false) else ((laws_heldMatrix.f k x724000 x724001 x724002 1).bind fun t750 => (if t750 < 0 then (some false) else (if t750 = x10 then (some true) else (some false))))
end
def laws_FnExactDoubleMatrix.f (k : Nat) (a0_0 : Int) (a0_1 : Int) (l0_2 : List Int) : Option (Bool) := (laws_szMatrix.f a0_0 a0_1 l0_2 1048576).bind fun t698 => (if t698 < 0 then (some true) else ((laws_toMatrix.f k a0_0 a0_1 l0_2).bind fun bt699 => ((spec_DoubleMatrix.f k bt699.1 bt699.2.1 bt699.2.2).bind fun bt704 => ((laws_toMatrix.f k a0_0 a0_1 l0_2).bind fun bt711 => ((impl_DoubleMatrix.f bt711.1 bt711.2.1 bt711.2.2).bind fun bt717 => ((laws_eqMatrix.f k bt717.1 bt717.2.1 bt717.2.2.1 bt704.1 bt704.2.1 bt704.2.2.1).bind fun t724 => (if t724 = true then (laws_FnExactDoubleMatrix.j0 k bt704.2.2.2 bt717.2.2.2 (bt717.2.2.2 != bt704.2.2.2) a0_0 a0_1 l0_2 bt704.1 bt704.2.1 bt704.2.2.1 bt711.1 bt711.2.1 bt711.2.2 bt717.1 bt717.2.1 bt717.2.2.1) else (laws_FnExactDoubleMatrix.j0 k bt704.2.2.2 bt717.2.2.2 true a0_0 a0_1 l0_2 bt704.1 bt704.2.1 bt704.2.2.1 bt711.1 bt711.2.1 bt711.2.2 bt717.1 bt717.2.1 bt717.2.2.1))))))))
theorem laws_FnExactDoubleMatrix.mono_l : ∀ k, (∀ y0 y1 y2 y3 y4 y5 y6 y7 y8 y9 y10 y11 y12 y13 y14, LeO (laws_FnExactDoubleMatrix.j0 k y0 y1 y2 y3 y4 y5 y6 y7 y8 y9 y10 y11 y12 y13 y14) (laws_FnExactDoubleMatrix.j0 (k + 1) y0 y1 y2 y3 y4 y5 y6 y7 y8 y9 y10 y11 y12 y13 y14)) ∧ (∀ y0 y1 y2 y3 y4 y5 y6 y7 y8 y9 y10, LeO (laws_FnExactDoubleMatrix.j1 k y0 y1 y2 y3 y4 y5 y6 y7 y8 y9 y10) (laws_FnExactDoubleMatrix.j1 (k + 1) y0 y1 y2 y3 y4 y5 y6 y7 y8 y9 y10)) ∧ (∀ y0 y1 y2 y3 y4, LeO (laws_FnExactDoubleMatrix.j2 k y0 y1 y2 y3 y4) (laws_FnExactDoubleMatrix.j2 (k + 1) y0 y1 y2 y3 y4))
  | 0 => ⟨fun _ _ _ _ _ _ _ _ _ _ _ _ _ _ _ r h => by simp [laws_FnExactDoubleMatrix.j0] at h, fun _ _ _ _ _ _ _ _ _ _ _ r h => by simp [laws_FnExactDoubleMatrix.j1] at h, fun _ _ _ _ _ r h => by simp [laws_FnExactDoubleMatrix.j2] at h⟩
  | k + 1 => by
    obtain ⟨ih0, ih1, ih2⟩ := laws_FnExactDoubleMatrix.mono_l k
    refine ⟨?_, ?_, ?_⟩
    · intro y0 y1 y2 y3 y4 y5 y6 y7 y8 y9 y10 y11 y12 y13 y14
      unfold laws_FnExactDoubleMatrix.j0
      repeat' first
      | (with_reducible exact ih0 _ _ _ _ _ _ _ _ _ _ _ _ _ _ _)
      | (with_reducible exact ih1 _ _ _ _ _ _ _ _ _ _ _)
      | (with_reducible exact ih2 _ _ _ _ _)
      | (with_reducible exact laws_eqMatrix.mono _ _ _ _ _ _ _)
      | (with_reducible exact laws_heldMatrix.mono _ _ _ _ _)
      | (with_reducible exact laws_markMatrix.mono _ _ _ _ _)
      | (with_reducible exact laws_toMatrix.mono _ _ _ _)
      | (with_reducible exact spec_DoubleMatrix.mono _ _ _ _)
      | (with_reducible exact LeO.refl _)
      | (with_reducible exact LeO.none _)
      | (with_reducible refine LeO.ite ?_ ?_)
      | (with_reducible refine LeO.bind ?_ (fun _ => ?_))
      | exact ih0 _ _ _ _ _ _ _ _ _ _ _ _ _ _ _
      | exact ih1 _ _ _ _ _ _ _ _ _ _ _
      | exact ih2 _ _ _ _ _
      | exact laws_eqMatrix.mono _ _ _ _ _ _ _
      | exact laws_heldMatrix.mono _ _ _ _ _
      | exact laws_markMatrix.mono _ _ _ _ _
      | exact laws_toMatrix.mono _ _ _ _
      | exact spec_DoubleMatrix.mono _ _ _ _
      | exact LeO.none _
      | refine LeO.ite ?_ ?_
      | refine LeO.bind ?_ (fun _ => ?_)
    · intro y0 y1 y2 y3 y4 y5 y6 y7 y8 y9 y10
      unfold laws_FnExactDoubleMatrix.j1
      repeat' first
      | (with_reducible exact ih0 _ _ _ _ _ _ _ _ _ _ _ _ _ _ _)
      | (with_reducible exact ih1 _ _ _ _ _ _ _ _ _ _ _)
      | (with_reducible exact ih2 _ _ _ _ _)
      | (with_reducible exact laws_eqMatrix.mono _ _ _ _ _ _ _)
      | (with_reducible exact laws_heldMatrix.mono _ _ _ _ _)
      | (with_reducible exact laws_markMatrix.mono _ _ _ _ _)
      | (with_reducible exact laws_toMatrix.mono _ _ _ _)
      | (with_reducible exact spec_DoubleMatrix.mono _ _ _ _)
      | (with_reducible exact LeO.refl _)
      | (with_reducible exact LeO.none _)
      | (with_reducible refine LeO.ite ?_ ?_)
      | (with_reducible refine LeO.bind ?_ (fun _ => ?_))
      | exact ih0 _ _ _ _ _ _ _ _ _ _ _ _ _ _ _
      | exact ih1 _ _ _ _ _ _ _ _ _ _ _
      | exact ih2 _ _ _ _ _
      | exact laws_eqMatrix.mono _ _ _ _ _ _ _
      | exact laws_heldMatrix.mono _ _ _ _ _
      | exact laws_markMatrix.mono _ _ _ _ _
      | exact laws_toMatrix.mono _ _ _ _
      | exact spec_DoubleMatrix.mono _ _ _ _
      | exact LeO.none _
      | refine LeO.ite ?_ ?_
      | refine LeO.bind ?_ (fun _ => ?_)
    · intro y0 y1 y2 y3 y4
      unfold laws_FnExactDoubleMatrix.j2
      repeat' first
      | (with_reducible exact ih0 _ _ _ _ _ _ _ _ _ _ _ _ _ _ _)
      | (with_reducible exact ih1 _ _ _ _ _ _ _ _ _ _ _)
      | (with_reducible exact ih2 _ _ _ _ _)
      | (with_reducible exact laws_eqMatrix.mono _ _ _ _ _ _ _)
      | (with_reducible exact laws_heldMatrix.mono _ _ _ _ _)
      | (with_reducible exact laws_markMatrix.mono _ _ _ _ _)
      | (with_reducible exact laws_toMatrix.mono _ _ _ _)
      | (with_reducible exact spec_DoubleMatrix.mono _ _ _ _)
      | (with_reducible exact LeO.refl _)
      | (with_reducible exact LeO.none _)
      | (with_reducible refine LeO.ite ?_ ?_)
      | (with_reducible refine LeO.bind ?_ (fun _ => ?_))
      | exact ih0 _ _ _ _ _ _ _ _ _ _ _ _ _ _ _
      | exact ih1 _ _ _ _ _ _ _ _ _ _ _
      | exact ih2 _ _ _ _ _
      | exact laws_eqMatrix.mono _ _ _ _ _ _ _
      | exact laws_heldMatrix.mono _ _ _ _ _
      | exact laws_markMatrix.mono _ _ _ _ _
      | exact laws_toMatrix.mono _ _ _ _
      | exact spec_DoubleMatrix.mono _ _ _ _
      | exact LeO.none _
      | refine LeO.ite ?_ ?_
      | refine LeO.bind ?_ (fun _ => ?_)
theorem laws_FnExactDoubleMatrix.mono : ∀ a0 a1 a2 k, LeO (laws_FnExactDoubleMatrix.f k a0 a1 a2) (laws_FnExactDoubleMatrix.f (k + 1) a0 a1 a2) := by
  intro a0 a1 a2 k
  obtain ⟨ih0, ih1, ih2⟩ := laws_FnExactDoubleMatrix.mono_l k
  unfold laws_FnExactDoubleMatrix.f
  repeat' first
      | (with_reducible exact ih0 _ _ _ _ _ _ _ _ _ _ _ _ _ _ _)
      | (with_reducible exact ih1 _ _ _ _ _ _ _ _ _ _ _)
      | (with_reducible exact ih2 _ _ _ _ _)
      | (with_reducible exact laws_eqMatrix.mono _ _ _ _ _ _ _)
      | (with_reducible exact laws_heldMatrix.mono _ _ _ _ _)
      | (with_reducible exact laws_markMatrix.mono _ _ _ _ _)
      | (with_reducible exact laws_toMatrix.mono _ _ _ _)
      | (with_reducible exact spec_DoubleMatrix.mono _ _ _ _)
      | (with_reducible exact LeO.refl _)
      | (with_reducible exact LeO.none _)
      | (with_reducible refine LeO.ite ?_ ?_)
      | (with_reducible refine LeO.bind ?_ (fun _ => ?_))
      | exact ih0 _ _ _ _ _ _ _ _ _ _ _ _ _ _ _
      | exact ih1 _ _ _ _ _ _ _ _ _ _ _
      | exact ih2 _ _ _ _ _
      | exact laws_eqMatrix.mono _ _ _ _ _ _ _
      | exact laws_heldMatrix.mono _ _ _ _ _
      | exact laws_markMatrix.mono _ _ _ _ _
      | exact laws_toMatrix.mono _ _ _ _
      | exact spec_DoubleMatrix.mono _ _ _ _
      | exact LeO.none _
      | refine LeO.ite ?_ ?_
      | refine LeO.bind ?_ (fun _ => ?_)
set_option maxHeartbeats 8000000 in
set_option maxRecDepth 100000 in
theorem laws_FnExactDoubleMatrix.calls (k : Nat) (a0_0 : Int) (a0_1 : Int) (A0_2 : Option Addr) (c0_2 : Nat) (l0_2 : List Int) (r : Bool) (w : World) (hr0_2 : Kd.C (Kd.int .i64) w A0_2 l0_2.length l0_2) (hc0_2 : l0_2.length ≤ c0_2) (hT : Aside0 (r = true)) (h : laws_FnExactDoubleMatrix.f k a0_0 a0_1 l0_2 = some r) :
    Calls Try.prog 12 #[.agg #[.int .i64 a0_0, .int .i64 a0_1, .slice A0_2 l0_2.length c0_2]] w fun e w' => e = .returned (.bool r) ∧ Below w.heap.size w w' := by
  have hu55 := Try.underlying55
  have hu26 := Try.underlying26
  have HR0_2 := Aside0.mk hr0_2
  have HC0_2 := Aside0.mk hc0_2
  clear hr0_2 hc0_2
  have HB := Aside0.mk (Below.refl w.heap.size w)
  have H : ((laws_szMatrix.f a0_0 a0_1 l0_2 1048576).bind fun t698 => (if t698 < 0 then (some true) else ((laws_toMatrix.f k a0_0 a0_1 l0_2).bind fun bt699 => ((spec_DoubleMatrix.f k bt699.1 bt699.2.1 bt699.2.2).bind fun bt704 => ((laws_toMatrix.f k a0_0 a0_1 l0_2).bind fun bt711 => ((impl_DoubleMatrix.f bt711.1 bt711.2.1 bt711.2.2).bind fun bt717 => ((laws_eqMatrix.f k bt717.1 bt717.2.1 bt717.2.2.1 bt704.1 bt704.2.1 bt704.2.2.1).bind fun t724 => (if t724 = true then (laws_FnExactDoubleMatrix.j0 k bt704.2.2.2 bt717.2.2.2 (bt717.2.2.2 != bt704.2.2.2) a0_0 a0_1 l0_2 bt704.1 bt704.2.1 bt704.2.2.1 bt711.1 bt711.2.1 bt711.2.2 bt717.1 bt717.2.1 bt717.2.2.1) else (laws_FnExactDoubleMatrix.j0 k bt704.2.2.2 bt717.2.2.2 true a0_0 a0_1 l0_2 bt704.1 bt704.2.1 bt704.2.2.1 bt711.1 bt711.2.1 bt711.2.2 bt717.1 bt717.2.1 bt717.2.2.1))))))))) = some r := h
  clear h
  replace H := Option.bind_eq_some_iff.mp H
  obtain ⟨t698, A20, H⟩ := H
  replace H : (if t698 < 0 then (some true) else ((laws_toMatrix.f k a0_0 a0_1 l0_2).bind fun bt699 => ((spec_DoubleMatrix.f k bt699.1 bt699.2.1 bt699.2.2).bind fun bt704 => ((laws_toMatrix.f k a0_0 a0_1 l0_2).bind fun bt711 => ((impl_DoubleMatrix.f bt711.1 bt711.2.1 bt711.2.2).bind fun bt717 => ((laws_eqMatrix.f k bt717.1 bt717.2.1 bt717.2.2.1 bt704.1 bt704.2.1 bt704.2.2.1).bind fun t724 => (if t724 = true then (laws_FnExactDoubleMatrix.j0 k bt704.2.2.2 bt717.2.2.2 (bt717.2.2.2 != bt704.2.2.2) a0_0 a0_1 l0_2 bt704.1 bt704.2.1 bt704.2.2.1 bt711.1 bt711.2.1 bt711.2.2 bt717.1 bt717.2.1 bt717.2.2.1) else (laws_FnExactDoubleMatrix.j0 k bt704.2.2.2 bt717.2.2.2 true a0_0 a0_1 l0_2 bt704.1 bt704.2.1 bt704.2.2.1 bt711.1 bt711.2.1 bt711.2.2 bt717.1 bt717.2.1 bt717.2.2.1)))))))) = some r := H
  have A2 := Aside0.mk A20
  clear A20
  by_cases c3 : t698 < 0
  · rw [if_pos c3] at H
    have c3b0 : decide (t698 < 0) = true := decide_eq_true c3
    clear c3
    obtain rfl := Option.some.inj H
    go_enter Try.func12, Try.ntmps12
    go_wp2_with (first | ((with_reducible refine gate_dst (N := 1) rfl ?_); refine box_event ?hg (N := 1) ?hd (cs := #[.int .i64 a0_0, .int .i64 a0_1, .slice A0_2 l0_2.length c0_2]) (t := 55) ?hr ?_; (case hd => rfl); (case hg => rfl); (case hr => first | (go_simp; done) | (go_simp; rfl)); intro gb697 hg w4 hbox hb; have n0_ := Aside0.mk (below_step (by repeat (first | (with_reducible first | exact HB.out | apply below_alloc | apply pw_below_drewN | apply below_drew1) | exact HB.out)) hb); have n1_ := Aside0.mk (hbox); have n2_ := Aside0.mk ((by rw [hg]; exact (below_size (by repeat (first | (with_reducible first | exact HB.out | apply below_alloc | apply pw_below_drewN | apply below_drew1) | exact HB.out))) : w.heap.size ≤ gb697)); have n3_ := Aside0.mk ((by rw [hg]; exact (below_size (by repeat (first | (with_reducible first | exact HB.out | apply below_alloc | apply pw_below_drewN | apply below_drew1) | exact HB.out))) : w.heap.size ≤ gb697)); clear HB; have HB := n0_; have BK697 := n1_; have GW697 := n2_; have GE697 := n3_; clear n0_ n1_ n2_ n3_; clear hb hbox hg; have hcz5_0 : w4.cell? ⟨gb697, 0, none⟩ = some (.int .i64 a0_0) := (blk_cell BK697.out 0).trans rfl; have hcz5_1 : w4.cell? ⟨gb697, 1, none⟩ = some (.int .i64 a0_1) := (blk_cell BK697.out 1).trans rfl; have hcz5_2 : w4.cell? ⟨gb697, 2, none⟩ = some (.slice A0_2 l0_2.length c0_2) := (blk_cell BK697.out 2).trans rfl; have hfz5_0 := blk_frozen BK697.out 0; have hfz5_1 := blk_frozen BK697.out 1; have hfz5_2 := blk_frozen BK697.out 2) | ((with_reducible refine gate_callee (f := 56) rfl ?_); refine goesL_ (some 16) rfl rfl Try.func56 (by kernel_rfl) rfl #[.agg #[.int .i64 a0_0, .int .i64 a0_1, .slice A0_2 l0_2.length c0_2], .int .i64 1048576] rfl (by (try simp only [List.map_toArray, List.map_cons, List.map_nil]); first | done | rfl | (simp only [List.length_drop, List.length_take]; rfl)) ?_; (with_reducible refine (laws_szMatrix.calls a0_0 a0_1 _ _ l0_2 1048576 t698 _ ?side1 ?side2 A2.out).mono ?_); (case side1 => repeat (first | exact (Kd.C_below HR0_2.out HB.out) | (with_reducible refine Kd.C_alloc ?_ _) | (with_reducible refine Kd.C_drewN ?_ _) | (with_reducible refine Kd.C_drew ?_))); (case side2 => exact HC0_2.out); rintro e w6 ⟨rfl, hb⟩; refine ⟨_, rfl, ?_⟩; have n0_ := Aside0.mk (blk_below (g := gb697) (o := .cells #[.int .i64 a0_0, .int .i64 a0_1, .slice A0_2 l0_2.length c0_2] 55 (0, 0)) (by (with_reducible repeat (first | refine blk_drewN ?_ _ | refine blk_drew ?_ | refine blk_alloc ?_ _)); exact BK697.out) hb); have n1_ := Aside0.mk (below_step (by repeat (first | (with_reducible first | exact HB.out | apply below_alloc | apply pw_below_drewN | apply below_drew1 | refine below_set ?_ GE697.out) | exact HB.out)) hb); clear BK697; clear HB; have BK697 := n0_; have HB := n1_; clear n0_ n1_; (try clear hb); (try clear hb2); (try clear hk); (try clear hi)))
    go_ret
    exact ⟨by first | rfl | (simp [errW_none, errW_some] <;> rfl) | (simp [*, errW_none, errW_some] <;> rfl), by repeat (first | (with_reducible first | exact HB.out | apply below_alloc | apply pw_below_drewN | apply below_drew1 | refine below_set ?_ GE697.out) | exact HB.out)⟩
  · rw [if_neg c3] at H
    have c3b0 : decide (t698 < 0) = false := decide_eq_false c3
    clear c3
    replace H := Option.bind_eq_some_iff.mp H
    obtain ⟨⟨t699, t700, t701⟩, A70, H⟩ := H
    replace H : ((spec_DoubleMatrix.f k t699 t700 t701).bind fun bt704 => ((laws_toMatrix.f k a0_0 a0_1 l0_2).bind fun bt711 => ((impl_DoubleMatrix.f bt711.1 bt711.2.1 bt711.2.2).bind fun bt717 => ((laws_eqMatrix.f k bt717.1 bt717.2.1 bt717.2.2.1 bt704.1 bt704.2.1 bt704.2.2.1).bind fun t724 => (if t724 = true then (laws_FnExactDoubleMatrix.j0 k bt704.2.2.2 bt717.2.2.2 (bt717.2.2.2 != bt704.2.2.2) a0_0 a0_1 l0_2 bt704.1 bt704.2.1 bt704.2.2.1 bt711.1 bt711.2.1 bt711.2.2 bt717.1 bt717.2.1 bt717.2.2.1) else (laws_FnExactDoubleMatrix.j0 k bt704.2.2.2 bt717.2.2.2 true a0_0 a0_1 l0_2 bt704.1 bt704.2.1 bt704.2.2.1 bt711.1 bt711.2.1 bt711.2.2 bt717.1 bt717.2.1 bt717.2.2.1)))))) = some r := H
    have A7 := Aside0.mk A70
    clear A70
    replace H := Option.bind_eq_some_iff.mp H
    obtain ⟨⟨t704, t705, t706, t709⟩, A80, H⟩ := H
    replace H : ((laws_toMatrix.f k a0_0 a0_1 l0_2).bind fun bt711 => ((impl_DoubleMatrix.f bt711.1 bt711.2.1 bt711.2.2).bind fun bt717 => ((laws_eqMatrix.f k bt717.1 bt717.2.1 bt717.2.2.1 t704 t705 t706).bind fun t724 => (if t724 = true then (laws_FnExactDoubleMatrix.j0 k t709 bt717.2.2.2 (bt717.2.2.2 != t709) a0_0 a0_1 l0_2 t704 t705 t706 bt711.1 bt711.2.1 bt711.2.2 bt717.1 bt717.2.1 bt717.2.2.1) else (laws_FnExactDoubleMatrix.j0 k t709 bt717.2.2.2 true a0_0 a0_1 l0_2 t704 t705 t706 bt711.1 bt711.2.1 bt711.2.2 bt717.1 bt717.2.1 bt717.2.2.1))))) = some r := H
    have A8 := Aside0.mk A80
    clear A80
    replace H := Option.bind_eq_some_iff.mp H
    obtain ⟨⟨t711, t712, t713⟩, A90, H⟩ := H
    replace H : ((impl_DoubleMatrix.f t711 t712 t713).bind fun bt717 => ((laws_eqMatrix.f k bt717.1 bt717.2.1 bt717.2.2.1 t704 t705 t706).bind fun t724 => (if t724 = true then (laws_FnExactDoubleMatrix.j0 k t709 bt717.2.2.2 (bt717.2.2.2 != t709) a0_0 a0_1 l0_2 t704 t705 t706 t711 t712 t713 bt717.1 bt717.2.1 bt717.2.2.1) else (laws_FnExactDoubleMatrix.j0 k t709 bt717.2.2.2 true a0_0 a0_1 l0_2 t704 t705 t706 t711 t712 t713 bt717.1 bt717.2.1 bt717.2.2.1)))) = some r := H
    have A9 := Aside0.mk A90
    clear A90
    replace H := Option.bind_eq_some_iff.mp H
    obtain ⟨⟨t717, t718, t719, t722⟩, A100, H⟩ := H
    replace H : ((laws_eqMatrix.f k t717 t718 t719 t704 t705 t706).bind fun t724 => (if t724 = true then (laws_FnExactDoubleMatrix.j0 k t709 t722 (t722 != t709) a0_0 a0_1 l0_2 t704 t705 t706 t711 t712 t713 t717 t718 t719) else (laws_FnExactDoubleMatrix.j0 k t709 t722 true a0_0 a0_1 l0_2 t704 t705 t706 t711 t712 t713 t717 t718 t719))) = some r := H
    have A10 := Aside0.mk A100
    clear A100
    have HC11 := Aside0.mk H
    clear H
    go_enter Try.func12, Try.ntmps12
    go_upto_region 8 with (first | ((with_reducible refine gate_dst (N := 1) rfl ?_); refine box_event ?hg (N := 1) ?hd (cs := #[.int .i64 a0_0, .int .i64 a0_1, .slice A0_2 l0_2.length c0_2]) (t := 55) ?hr ?_; (case hd => rfl); (case hg => rfl); (case hr => first | (go_simp; done) | (go_simp; rfl)); intro gb697 hg w12 hbox hb; have n0_ := Aside0.mk (below_step (by repeat (first | (with_reducible first | exact HB.out | apply below_alloc | apply pw_below_drewN | apply below_drew1) | exact HB.out)) hb); have n1_ := Aside0.mk (hbox); have n2_ := Aside0.mk ((by rw [hg]; exact (below_size (by repeat (first | (with_reducible first | exact HB.out | apply below_alloc | apply pw_below_drewN | apply below_drew1) | exact HB.out))) : w.heap.size ≤ gb697)); have n3_ := Aside0.mk ((by rw [hg]; exact (below_size (by repeat (first | (with_reducible first | exact HB.out | apply below_alloc | apply pw_below_drewN | apply below_drew1) | exact HB.out))) : w.heap.size ≤ gb697)); clear HB; have HB := n0_; have BK697 := n1_; have GW697 := n2_; have GE697 := n3_; clear n0_ n1_ n2_ n3_; clear hb hbox hg; have hcz13_0 : w12.cell? ⟨gb697, 0, none⟩ = some (.int .i64 a0_0) := (blk_cell BK697.out 0).trans rfl; have hcz13_1 : w12.cell? ⟨gb697, 1, none⟩ = some (.int .i64 a0_1) := (blk_cell BK697.out 1).trans rfl; have hcz13_2 : w12.cell? ⟨gb697, 2, none⟩ = some (.slice A0_2 l0_2.length c0_2) := (blk_cell BK697.out 2).trans rfl; have hfz13_0 := blk_frozen BK697.out 0; have hfz13_1 := blk_frozen BK697.out 1; have hfz13_2 := blk_frozen BK697.out 2) | ((with_reducible refine gate_callee (f := 56) rfl ?_); refine goesL_ (some 16) rfl rfl Try.func56 (by kernel_rfl) rfl #[.agg #[.int .i64 a0_0, .int .i64 a0_1, .slice A0_2 l0_2.length c0_2], .int .i64 1048576] rfl (by (try simp only [List.map_toArray, List.map_cons, List.map_nil]); first | done | rfl | (simp only [List.length_drop, List.length_take]; rfl)) ?_; (with_reducible refine (laws_szMatrix.calls a0_0 a0_1 _ _ l0_2 1048576 t698 _ ?side1 ?side2 A2.out).mono ?_); (case side1 => repeat (first | exact (Kd.C_below HR0_2.out HB.out) | (with_reducible refine Kd.C_alloc ?_ _) | (with_reducible refine Kd.C_drewN ?_ _) | (with_reducible refine Kd.C_drew ?_))); (case side2 => exact HC0_2.out); rintro e w14 ⟨rfl, hb⟩; refine ⟨_, rfl, ?_⟩; have n0_ := Aside0.mk (blk_below (g := gb697) (o := .cells #[.int .i64 a0_0, .int .i64 a0_1, .slice A0_2 l0_2.length c0_2] 55 (0, 0)) (by (with_reducible repeat (first | refine blk_drewN ?_ _ | refine blk_drew ?_ | refine blk_alloc ?_ _)); exact BK697.out) hb); have n1_ := Aside0.mk (below_step (by repeat (first | (with_reducible first | exact HB.out | apply below_alloc | apply pw_below_drewN | apply below_drew1 | refine below_set ?_ GE697.out) | exact HB.out)) hb); clear BK697; clear HB; have BK697 := n0_; have HB := n1_; clear n0_ n1_; (try clear hb); (try clear hb2); (try clear hk); (try clear hi); have hcz15_0 : w14.cell? ⟨gb697, 0, none⟩ = some (.int .i64 a0_0) := (blk_cell BK697.out 0).trans rfl; have hcz15_1 : w14.cell? ⟨gb697, 1, none⟩ = some (.int .i64 a0_1) := (blk_cell BK697.out 1).trans rfl; have hcz15_2 : w14.cell? ⟨gb697, 2, none⟩ = some (.slice A0_2 l0_2.length c0_2) := (blk_cell BK697.out 2).trans rfl; have hfz15_0 := blk_frozen BK697.out 0; have hfz15_1 := blk_frozen BK697.out 1; have hfz15_2 := blk_frozen BK697.out 2) | ((with_reducible refine gate_callee (f := 58) rfl ?_); refine goesL_ (some 21) rfl rfl Try.func58 (by kernel_rfl) rfl #[.agg #[.int .i64 a0_0, .int .i64 a0_1, .slice A0_2 l0_2.length c0_2]] rfl (by (try simp only [List.map_toArray, List.map_cons, List.map_nil]); first | done | rfl | (simp only [List.length_drop, List.length_take]; rfl)) ?_; (with_reducible refine (laws_toMatrix.calls k a0_0 a0_1 _ _ l0_2 t699 t700 t701 _ ?side1 ?side2 A7.out).mono ?_); (case side1 => repeat (first | exact (Kd.C_below HR0_2.out HB.out) | (with_reducible refine Kd.C_alloc ?_ _) | (with_reducible refine Kd.C_drewN ?_ _) | (with_reducible refine Kd.C_drew ?_))); (case side2 => exact HC0_2.out); rintro e w16 ⟨v702, rfl, ho0, hb⟩; refine ⟨_, rfl, ?_⟩; have n0_ := Aside0.mk (Kd.R_lower ho0 (below_size (by repeat (first | (with_reducible first | exact HB.out | apply below_alloc | apply pw_below_drewN | apply below_drew1 | refine below_set ?_ GE697.out) | exact HB.out)))); have n1_ := Aside0.mk (blk_below (g := gb697) (o := .cells #[.int .i64 a0_0, .int .i64 a0_1, .slice A0_2 l0_2.length c0_2] 55 (0, 0)) (by (with_reducible repeat (first | refine blk_drewN ?_ _ | refine blk_drew ?_ | refine blk_alloc ?_ _)); exact BK697.out) hb); have n2_ := Aside0.mk (below_step (by repeat (first | (with_reducible first | exact HB.out | apply below_alloc | apply pw_below_drewN | apply below_drew1 | refine below_set ?_ GE697.out) | exact HB.out)) hb); clear BK697; clear HB; have HO703 := n0_; have BK697 := n1_; have HB := n2_; clear n0_ n1_ n2_; (try clear hb); (try clear hb2); (try clear hk); (try clear hi); (try clear ho0); obtain ⟨Ao17, co17, eo17⟩ := Kd.R_slice HO703.out; subst eo17) | ((with_reducible refine gate_callee (f := 57) rfl ?_); refine goesL_ (some 22) rfl rfl Try.func57 (by kernel_rfl) rfl #[.agg #[.int .i64 t699, .int .i64 t700, .slice Ao17 t701.length co17]] rfl (by (try simp only [List.map_toArray, List.map_cons, List.map_nil]); first | done | rfl | (simp only [List.length_drop, List.length_take]; rfl)) ?_; (with_reducible refine (spec_DoubleMatrix.calls k t699 t700 _ _ t701 t704 t705 t706 t709 _ ?side1 ?side2 A8.out).mono ?_); (case side1 => repeat (first | exact (Kd.R_reads' HO703.out).2.2 | (with_reducible refine Kd.C_alloc ?_ _) | (with_reducible refine Kd.C_drewN ?_ _) | (with_reducible refine Kd.C_drew ?_))); (case side2 => exact (Kd.R_reads' HO703.out).2.1); rintro e w18 ⟨v707, rfl, ho0, hb⟩; refine ⟨_, rfl, ?_⟩; have n0_ := Aside0.mk (Kd.R_elder' (by (with_reducible repeat (first | apply Kd.R_alloc | apply Kd.R_drewN | apply Kd.R_drew)); exact HO703.out) (Kd.R_base ho0) hb); have n1_ := Aside0.mk (Kd.R_lower (Kd.R_new' ho0 (Kd.R_lt (by (with_reducible repeat (first | apply Kd.R_alloc | apply Kd.R_drewN | apply Kd.R_drew)); exact HO703.out))) (below_size (by repeat (first | (with_reducible first | exact HB.out | apply below_alloc | apply pw_below_drewN | apply below_drew1 | refine below_set ?_ GE697.out) | exact HB.out)))); have n2_ := Aside0.mk (blk_below (g := gb697) (o := .cells #[.int .i64 a0_0, .int .i64 a0_1, .slice A0_2 l0_2.length c0_2] 55 (0, 0)) (by (with_reducible repeat (first | refine blk_drewN ?_ _ | refine blk_drew ?_ | refine blk_alloc ?_ _)); exact BK697.out) hb); have n3_ := Aside0.mk (below_step (by repeat (first | (with_reducible first | exact HB.out | apply below_alloc | apply pw_below_drewN | apply below_drew1 | refine below_set ?_ GE697.out) | exact HB.out)) hb); clear HO703; clear BK697; clear HB; have HO703 := n0_; have HO708 := n1_; have BK697 := n2_; have HB := n3_; clear n0_ n1_ n2_ n3_; (try clear hb); (try clear hb2); (try clear hk); (try clear hi); (try clear ho0)) | ((with_reducible refine gate_dst (N := 4) rfl ?_); refine box_event ?hg (N := 4) ?hd (cs := #[.int .i64 0, .int .i64 0, .slice none 0 0]) (t := 26) ?hr ?_; (case hd => rfl); (case hg => rfl); (case hr => first | (go_simp; done) | (go_simp; rfl)); intro gb710 hg w19 hbox hb; have n0_ := Aside0.mk (Kd.R_below (by (with_reducible repeat (first | apply Kd.R_alloc | apply Kd.R_drewN | apply Kd.R_drew)); exact HO703.out) hb); have n1_ := Aside0.mk (Kd.R_below (by (with_reducible repeat (first | apply Kd.R_alloc | apply Kd.R_drewN | apply Kd.R_drew)); exact HO708.out) hb); have n2_ := Aside0.mk (blk_below (g := gb697) (o := .cells #[.int .i64 a0_0, .int .i64 a0_1, .slice A0_2 l0_2.length c0_2] 55 (0, 0)) (by (with_reducible repeat (first | refine blk_drewN ?_ _ | refine blk_drew ?_ | refine blk_alloc ?_ _)); exact BK697.out) hb); have n3_ := Aside0.mk (below_step (by repeat (first | (with_reducible first | exact HB.out | apply below_alloc | apply pw_below_drewN | apply below_drew1 | refine below_set ?_ GE697.out) | exact HB.out)) hb); have n4_ := Aside0.mk (hbox); have n5_ := Aside0.mk ((by rw [hg]; exact (below_size (by repeat (first | (with_reducible first | exact HB.out | apply below_alloc | apply pw_below_drewN | apply below_drew1 | refine below_set ?_ GE697.out) | exact HB.out))) : w.heap.size ≤ gb710)); have n6_ := Aside0.mk ((by rw [hg]; exact (below_size (by repeat (first | (with_reducible first | exact HB.out | apply below_alloc | apply pw_below_drewN | apply below_drew1 | refine below_set ?_ GE697.out) | exact HB.out))) : w.heap.size ≤ gb710)); have n7_ := Aside0.mk ((by rw [hg]; exact Nat.ne_of_lt (blk_lt (g := gb697) (o := .cells #[.int .i64 a0_0, .int .i64 a0_1, .slice A0_2 l0_2.length c0_2] 55 (0, 0)) (by (with_reducible repeat (first | refine blk_drewN ?_ _ | refine blk_drew ?_ | refine blk_alloc ?_ _)); exact BK697.out)) : gb697 ≠ gb710)); have n8_ := Aside0.mk ((by rw [hg]; exact Nat.ne_of_gt (blk_lt (g := gb697) (o := .cells #[.int .i64 a0_0, .int .i64 a0_1, .slice A0_2 l0_2.length c0_2] 55 (0, 0)) (by (with_reducible repeat (first | refine blk_drewN ?_ _ | refine blk_drew ?_ | refine blk_alloc ?_ _)); exact BK697.out)) : gb710 ≠ gb697)); clear HO703; clear HO708; clear BK697; clear HB; have HO703 := n0_; have HO708 := n1_; have BK697 := n2_; have HB := n3_; have BK710 := n4_; have GW710 := n5_; have GE710 := n6_; have NB697_710 := n7_; have NB710_697 := n8_; clear n0_ n1_ n2_ n3_ n4_ n5_ n6_ n7_ n8_; clear hb hbox hg; have hnb20 := NB710_697.out; have hnc20 := NB697_710.out; have hcz21_0 : w19.cell? ⟨gb710, 0, none⟩ = some (.int .i64 0) := (blk_cell BK710.out 0).trans rfl; have hcz21_1 : w19.cell? ⟨gb710, 1, none⟩ = some (.int .i64 0) := (blk_cell BK710.out 1).trans rfl; have hcz21_2 : w19.cell? ⟨gb710, 2, none⟩ = some (.slice none 0 0) := (blk_cell BK710.out 2).trans rfl; have hfz21_0 := blk_frozen BK710.out 0; have hfz21_1 := blk_frozen BK710.out 1; have hfz21_2 := blk_frozen BK710.out 2; obtain ⟨Ao22, co22, eo22⟩ := Kd.R_slice HO708.out; subst eo22; have hcz23_0 : w19.cell? ⟨gb697, 0, none⟩ = some (.int .i64 a0_0) := (blk_cell BK697.out 0).trans rfl; have hcz23_1 : w19.cell? ⟨gb697, 1, none⟩ = some (.int .i64 a0_1) := (blk_cell BK697.out 1).trans rfl; have hcz23_2 : w19.cell? ⟨gb697, 2, none⟩ = some (.slice A0_2 l0_2.length c0_2) := (blk_cell BK697.out 2).trans rfl; have hfz23_0 := blk_frozen BK697.out 0; have hfz23_1 := blk_frozen BK697.out 1; have hfz23_2 := blk_frozen BK697.out 2) | ((with_reducible refine gate_callee (f := 58) rfl ?_); refine goesL_ (some 26) rfl rfl Try.func58 (by kernel_rfl) rfl #[.agg #[.int .i64 a0_0, .int .i64 a0_1, .slice A0_2 l0_2.length c0_2]] rfl (by (try simp only [List.map_toArray, List.map_cons, List.map_nil]); first | done | rfl | (simp only [List.length_drop, List.length_take]; rfl)) ?_; (with_reducible refine (laws_toMatrix.calls k a0_0 a0_1 _ _ l0_2 t711 t712 t713 _ ?side1 ?side2 A9.out).mono ?_); (case side1 => exact Kd.C_below HR0_2.out (by repeat (first | (with_reducible first | exact HB.out | apply below_alloc | apply pw_below_drewN | apply below_drew1 | refine below_set ?_ GE697.out | refine below_set ?_ GE710.out) | exact HB.out))); (case side2 => exact HC0_2.out); rintro e w24 ⟨v714, rfl, ho0, hb⟩; refine ⟨_, rfl, ?_⟩; have n0_ := Aside0.mk (Kd.R_elder' (by (with_reducible repeat (first | apply Kd.R_alloc | apply Kd.R_drewN | apply Kd.R_drew)); exact (Kd.R_mono (Kd.R_far (p := ⟨gb710, 2, none⟩) (Kd.R_far (p := ⟨gb710, 1, none⟩) (Kd.R_far (p := ⟨gb710, 0, none⟩) (Kd.R_types HO703.out BK710.out (by decide)) (fun _ hk => hk.2) (.int .i64 t704)) (fun _ hk => hk.2) (.int .i64 t705)) (fun _ hk => hk.2) (.slice Ao22 t706.length co22)) (fun _ h_ => h_.1))) (Kd.R_base ho0) hb); have n1_ := Aside0.mk (Kd.R_elder' (by (with_reducible repeat (first | apply Kd.R_alloc | apply Kd.R_drewN | apply Kd.R_drew)); exact (Kd.R_mono (Kd.R_far (p := ⟨gb710, 2, none⟩) (Kd.R_far (p := ⟨gb710, 1, none⟩) (Kd.R_far (p := ⟨gb710, 0, none⟩) (Kd.R_types HO708.out BK710.out (by decide)) (fun _ hk => hk.2) (.int .i64 t704)) (fun _ hk => hk.2) (.int .i64 t705)) (fun _ hk => hk.2) (.slice Ao22 t706.length co22)) (fun _ h_ => h_.1))) (Kd.R_base ho0) hb); have n2_ := Aside0.mk (Kd.R_lower (Kd.R_new' (Kd.R_new' ho0 (Kd.R_lt (by (with_reducible repeat (first | apply Kd.R_alloc | apply Kd.R_drewN | apply Kd.R_drew)); exact (Kd.R_mono (Kd.R_far (p := ⟨gb710, 2, none⟩) (Kd.R_far (p := ⟨gb710, 1, none⟩) (Kd.R_far (p := ⟨gb710, 0, none⟩) (Kd.R_types HO703.out BK710.out (by decide)) (fun _ hk => hk.2) (.int .i64 t704)) (fun _ hk => hk.2) (.int .i64 t705)) (fun _ hk => hk.2) (.slice Ao22 t706.length co22)) (fun _ h_ => h_.1))))) (Kd.R_lt (by (with_reducible repeat (first | apply Kd.R_alloc | apply Kd.R_drewN | apply Kd.R_drew)); exact (Kd.R_mono (Kd.R_far (p := ⟨gb710, 2, none⟩) (Kd.R_far (p := ⟨gb710, 1, none⟩) (Kd.R_far (p := ⟨gb710, 0, none⟩) (Kd.R_types HO708.out BK710.out (by decide)) (fun _ hk => hk.2) (.int .i64 t704)) (fun _ hk => hk.2) (.int .i64 t705)) (fun _ hk => hk.2) (.slice Ao22 t706.length co22)) (fun _ h_ => h_.1))))) (below_size (by repeat (first | (with_reducible first | exact HB.out | apply below_alloc | apply pw_below_drewN | apply below_drew1 | refine below_set ?_ GE697.out | refine below_set ?_ GE710.out) | exact HB.out)))); have n3_ := Aside0.mk (blk_below (g := gb697) (o := .cells #[.int .i64 a0_0, .int .i64 a0_1, .slice A0_2 l0_2.length c0_2] 55 (0, 0)) (by (with_reducible repeat (first | refine blk_drewN ?_ _ | refine blk_drew ?_ | refine blk_alloc ?_ _)); refine blk_far ?_ NB697_710.out _; (with_reducible repeat (first | refine blk_drewN ?_ _ | refine blk_drew ?_ | refine blk_alloc ?_ _)); refine blk_far ?_ NB697_710.out _; (with_reducible repeat (first | refine blk_drewN ?_ _ | refine blk_drew ?_ | refine blk_alloc ?_ _)); refine blk_far ?_ NB697_710.out _; (with_reducible repeat (first | refine blk_drewN ?_ _ | refine blk_drew ?_ | refine blk_alloc ?_ _)); exact BK697.out) hb); have n4_ := Aside0.mk (blk_below (g := gb710) (o := .cells #[.int .i64 t704, .int .i64 t705, .slice Ao22 t706.length co22] 26 (0, 0)) (by (with_reducible repeat (first | refine blk_drewN ?_ _ | refine blk_drew ?_ | refine blk_alloc ?_ _)); refine blk_put (cs := #[.int .i64 t704, .int .i64 t705, .slice none 0 0]) ?_ 2 _ rfl; (with_reducible repeat (first | refine blk_drewN ?_ _ | refine blk_drew ?_ | refine blk_alloc ?_ _)); refine blk_put (cs := #[.int .i64 t704, .int .i64 0, .slice none 0 0]) ?_ 1 _ rfl; (with_reducible repeat (first | refine blk_drewN ?_ _ | refine blk_drew ?_ | refine blk_alloc ?_ _)); refine blk_put (cs := #[.int .i64 0, .int .i64 0, .slice none 0 0]) ?_ 0 _ rfl; (with_reducible repeat (first | refine blk_drewN ?_ _ | refine blk_drew ?_ | refine blk_alloc ?_ _)); exact BK710.out) hb); have n5_ := Aside0.mk (below_step (by repeat (first | (with_reducible first | exact HB.out | apply below_alloc | apply pw_below_drewN | apply below_drew1 | refine below_set ?_ GE697.out | refine below_set ?_ GE710.out) | exact HB.out)) hb); clear HO703; clear HO708; clear BK697; clear BK710; clear HB; have HO703 := n0_; have HO708 := n1_; have HO715 := n2_; have BK697 := n3_; have BK710 := n4_; have HB := n5_; clear n0_ n1_ n2_ n3_ n4_ n5_; (try clear hb); (try clear hb2); (try clear hk); (try clear hi); (try clear ho0)) | ((with_reducible refine gate_dst (N := 6) rfl ?_); refine box_event ?hg (N := 6) ?hd (cs := #[.int .i64 0, .int .i64 0, .slice none 0 0]) (t := 26) ?hr ?_; (case hd => rfl); (case hg => rfl); (case hr => first | (go_simp; done) | (go_simp; rfl)); intro gb716 hg w25 hbox hb; have n0_ := Aside0.mk (Kd.R_below (by (with_reducible repeat (first | apply Kd.R_alloc | apply Kd.R_drewN | apply Kd.R_drew)); exact HO703.out) hb); have n1_ := Aside0.mk (Kd.R_below (by (with_reducible repeat (first | apply Kd.R_alloc | apply Kd.R_drewN | apply Kd.R_drew)); exact HO708.out) hb); have n2_ := Aside0.mk (Kd.R_below (by (with_reducible repeat (first | apply Kd.R_alloc | apply Kd.R_drewN | apply Kd.R_drew)); exact HO715.out) hb); have n3_ := Aside0.mk (blk_below (g := gb697) (o := .cells #[.int .i64 a0_0, .int .i64 a0_1, .slice A0_2 l0_2.length c0_2] 55 (0, 0)) (by (with_reducible repeat (first | refine blk_drewN ?_ _ | refine blk_drew ?_ | refine blk_alloc ?_ _)); exact BK697.out) hb); have n4_ := Aside0.mk (blk_below (g := gb710) (o := .cells #[.int .i64 t704, .int .i64 t705, .slice Ao22 t706.length co22] 26 (0, 0)) (by (with_reducible repeat (first | refine blk_drewN ?_ _ | refine blk_drew ?_ | refine blk_alloc ?_ _)); exact BK710.out) hb); have n5_ := Aside0.mk (below_step (by repeat (first | (with_reducible first | exact HB.out | apply below_alloc | apply pw_below_drewN | apply below_drew1 | refine below_set ?_ GE697.out | refine below_set ?_ GE710.out) | exact HB.out)) hb); have n6_ := Aside0.mk (hbox); have n7_ := Aside0.mk ((by rw [hg]; exact (below_size (by repeat (first | (with_reducible first | exact HB.out | apply below_alloc | apply pw_below_drewN | apply below_drew1 | refine below_set ?_ GE697.out | refine below_set ?_ GE710.out) | exact HB.out))) : w.heap.size ≤ gb716)); have n8_ := Aside0.mk ((by rw [hg]; exact (below_size (by repeat (first | (with_reducible first | exact HB.out | apply below_alloc | apply pw_below_drewN | apply below_drew1 | refine below_set ?_ GE697.out | refine below_set ?_ GE710.out) | exact HB.out))) : w.heap.size ≤ gb716)); have n9_ := Aside0.mk ((by rw [hg]; exact Nat.ne_of_lt (blk_lt (g := gb697) (o := .cells #[.int .i64 a0_0, .int .i64 a0_1, .slice A0_2 l0_2.length c0_2] 55 (0, 0)) (by (with_reducible repeat (first | refine blk_drewN ?_ _ | refine blk_drew ?_ | refine blk_alloc ?_ _)); exact BK697.out)) : gb697 ≠ gb716)); have n10_ := Aside0.mk ((by rw [hg]; exact Nat.ne_of_gt (blk_lt (g := gb697) (o := .cells #[.int .i64 a0_0, .int .i64 a0_1, .slice A0_2 l0_2.length c0_2] 55 (0, 0)) (by (with_reducible repeat (first | refine blk_drewN ?_ _ | refine blk_drew ?_ | refine blk_alloc ?_ _)); exact BK697.out)) : gb716 ≠ gb697)); have n11_ := Aside0.mk ((by rw [hg]; exact Nat.ne_of_lt (blk_lt (g := gb710) (o := .cells #[.int .i64 t704, .int .i64 t705, .slice Ao22 t706.length co22] 26 (0, 0)) (by (with_reducible repeat (first | refine blk_drewN ?_ _ | refine blk_drew ?_ | refine blk_alloc ?_ _)); exact BK710.out)) : gb710 ≠ gb716)); have n12_ := Aside0.mk ((by rw [hg]; exact Nat.ne_of_gt (blk_lt (g := gb710) (o := .cells #[.int .i64 t704, .int .i64 t705, .slice Ao22 t706.length co22] 26 (0, 0)) (by (with_reducible repeat (first | refine blk_drewN ?_ _ | refine blk_drew ?_ | refine blk_alloc ?_ _)); exact BK710.out)) : gb716 ≠ gb710)); clear HO703; clear HO708; clear HO715; clear BK697; clear BK710; clear HB; have HO703 := n0_; have HO708 := n1_; have HO715 := n2_; have BK697 := n3_; have BK710 := n4_; have HB := n5_; have BK716 := n6_; have GW716 := n7_; have GE716 := n8_; have NB697_716 := n9_; have NB716_697 := n10_; have NB710_716 := n11_; have NB716_710 := n12_; clear n0_ n1_ n2_ n3_ n4_ n5_ n6_ n7_ n8_ n9_ n10_ n11_ n12_; clear hb hbox hg; have hnb26 := NB716_697.out; have hnc26 := NB697_716.out; have hnb27 := NB716_710.out; have hnc27 := NB710_716.out; have hcz28_0 : w25.cell? ⟨gb716, 0, none⟩ = some (.int .i64 0) := (blk_cell BK716.out 0).trans rfl; have hcz28_1 : w25.cell? ⟨gb716, 1, none⟩ = some (.int .i64 0) := (blk_cell BK716.out 1).trans rfl; have hcz28_2 : w25.cell? ⟨gb716, 2, none⟩ = some (.slice none 0 0) := (blk_cell BK716.out 2).trans rfl; have hfz28_0 := blk_frozen BK716.out 0; have hfz28_1 := blk_frozen BK716.out 1; have hfz28_2 := blk_frozen BK716.out 2; obtain ⟨Ao29, co29, eo29⟩ := Kd.R_slice HO715.out; subst eo29) | ((with_reducible refine gate_callee (f := 31) rfl ?_); refine goesL_ (some 29) rfl rfl Try.func31 (by kernel_rfl) rfl #[.agg #[.int .i64 t711, .int .i64 t712, .slice Ao29 t713.length co29]] rfl (by (try simp only [List.map_toArray, List.map_cons, List.map_nil]); first | done | rfl | (simp only [List.length_drop, List.length_take]; rfl)) ?_; (with_reducible refine (impl_DoubleMatrix.calls t711 t712 _ _ t713 t717 t718 t719 t722 _ ?side1 ?side2 A10.out).mono ?_); (case side1 => refine (Kd.R_reads' (e := 3) (base := w.heap.size) (ok := fun k_ => ((True ∧ some k_ ≠ (.slice Ao17 t701.length co17 : Value).ownBlock) ∧ some k_ ≠ (.slice Ao22 t706.length co22 : Value).ownBlock)) (n := t713.length) (c := co29) ?_).2.2; exact (by (with_reducible repeat (first | apply Kd.R_alloc | apply Kd.R_drewN | apply Kd.R_drew)); exact (Kd.R_mono (Kd.R_far (p := ⟨gb716, 2, none⟩) (Kd.R_far (p := ⟨gb716, 1, none⟩) (Kd.R_far (p := ⟨gb716, 0, none⟩) (Kd.R_types HO715.out BK716.out (by decide)) (fun _ hk => hk.2) (.int .i64 t711)) (fun _ hk => hk.2) (.int .i64 t712)) (fun _ hk => hk.2) (.slice Ao29 t713.length co29)) (fun _ h_ => h_.1)))); (case side2 => exact (Kd.R_reads' HO715.out).2.1); rintro e w30 ⟨v720, rfl, ho0, hb⟩; refine ⟨_, rfl, ?_⟩; have n0_ := Aside0.mk (Kd.R_elder' (by (with_reducible repeat (first | apply Kd.R_alloc | apply Kd.R_drewN | apply Kd.R_drew)); exact (Kd.R_mono (Kd.R_far (p := ⟨gb716, 2, none⟩) (Kd.R_far (p := ⟨gb716, 1, none⟩) (Kd.R_far (p := ⟨gb716, 0, none⟩) (Kd.R_types HO703.out BK716.out (by decide)) (fun _ hk => hk.2) (.int .i64 t711)) (fun _ hk => hk.2) (.int .i64 t712)) (fun _ hk => hk.2) (.slice Ao29 t713.length co29)) (fun _ h_ => h_.1))) (Kd.R_base ho0) hb); have n1_ := Aside0.mk (Kd.R_elder' (by (with_reducible repeat (first | apply Kd.R_alloc | apply Kd.R_drewN | apply Kd.R_drew)); exact (Kd.R_mono (Kd.R_far (p := ⟨gb716, 2, none⟩) (Kd.R_far (p := ⟨gb716, 1, none⟩) (Kd.R_far (p := ⟨gb716, 0, none⟩) (Kd.R_types HO708.out BK716.out (by decide)) (fun _ hk => hk.2) (.int .i64 t711)) (fun _ hk => hk.2) (.int .i64 t712)) (fun _ hk => hk.2) (.slice Ao29 t713.length co29)) (fun _ h_ => h_.1))) (Kd.R_base ho0) hb); have n2_ := Aside0.mk (Kd.R_elder' (by (with_reducible repeat (first | apply Kd.R_alloc | apply Kd.R_drewN | apply Kd.R_drew)); exact (Kd.R_mono (Kd.R_far (p := ⟨gb716, 2, none⟩) (Kd.R_far (p := ⟨gb716, 1, none⟩) (Kd.R_far (p := ⟨gb716, 0, none⟩) (Kd.R_types HO715.out BK716.out (by decide)) (fun _ hk => hk.2) (.int .i64 t711)) (fun _ hk => hk.2) (.int .i64 t712)) (fun _ hk => hk.2) (.slice Ao29 t713.length co29)) (fun _ h_ => h_.1))) (Kd.R_base ho0) hb); have n3_ := Aside0.mk (Kd.R_lower (Kd.R_new' (Kd.R_new' (Kd.R_new' ho0 (Kd.R_lt (by (with_reducible repeat (first | apply Kd.R_alloc | apply Kd.R_drewN | apply Kd.R_drew)); exact (Kd.R_mono (Kd.R_far (p := ⟨gb716, 2, none⟩) (Kd.R_far (p := ⟨gb716, 1, none⟩) (Kd.R_far (p := ⟨gb716, 0, none⟩) (Kd.R_types HO703.out BK716.out (by decide)) (fun _ hk => hk.2) (.int .i64 t711)) (fun _ hk => hk.2) (.int .i64 t712)) (fun _ hk => hk.2) (.slice Ao29 t713.length co29)) (fun _ h_ => h_.1))))) (Kd.R_lt (by (with_reducible repeat (first | apply Kd.R_alloc | apply Kd.R_drewN | apply Kd.R_drew)); exact (Kd.R_mono (Kd.R_far (p := ⟨gb716, 2, none⟩) (Kd.R_far (p := ⟨gb716, 1, none⟩) (Kd.R_far (p := ⟨gb716, 0, none⟩) (Kd.R_types HO708.out BK716.out (by decide)) (fun _ hk => hk.2) (.int .i64 t711)) (fun _ hk => hk.2) (.int .i64 t712)) (fun _ hk => hk.2) (.slice Ao29 t713.length co29)) (fun _ h_ => h_.1))))) (Kd.R_lt (by (with_reducible repeat (first | apply Kd.R_alloc | apply Kd.R_drewN | apply Kd.R_drew)); exact (Kd.R_mono (Kd.R_far (p := ⟨gb716, 2, none⟩) (Kd.R_far (p := ⟨gb716, 1, none⟩) (Kd.R_far (p := ⟨gb716, 0, none⟩) (Kd.R_types HO715.out BK716.out (by decide)) (fun _ hk => hk.2) (.int .i64 t711)) (fun _ hk => hk.2) (.int .i64 t712)) (fun _ hk => hk.2) (.slice Ao29 t713.length co29)) (fun _ h_ => h_.1))))) (below_size (by repeat (first | (with_reducible first | exact HB.out | apply below_alloc | apply pw_below_drewN | apply below_drew1 | refine below_set ?_ GE697.out | refine below_set ?_ GE710.out | refine below_set ?_ GE716.out) | exact HB.out)))); have n4_ := Aside0.mk (blk_below (g := gb697) (o := .cells #[.int .i64 a0_0, .int .i64 a0_1, .slice A0_2 l0_2.length c0_2] 55 (0, 0)) (by (with_reducible repeat (first | refine blk_drewN ?_ _ | refine blk_drew ?_ | refine blk_alloc ?_ _)); refine blk_far ?_ NB697_716.out _; (with_reducible repeat (first | refine blk_drewN ?_ _ | refine blk_drew ?_ | refine blk_alloc ?_ _)); refine blk_far ?_ NB697_716.out _; (with_reducible repeat (first | refine blk_drewN ?_ _ | refine blk_drew ?_ | refine blk_alloc ?_ _)); refine blk_far ?_ NB697_716.out _; (with_reducible repeat (first | refine blk_drewN ?_ _ | refine blk_drew ?_ | refine blk_alloc ?_ _)); exact BK697.out) hb); have n5_ := Aside0.mk (blk_below (g := gb710) (o := .cells #[.int .i64 t704, .int .i64 t705, .slice Ao22 t706.length co22] 26 (0, 0)) (by (with_reducible repeat (first | refine blk_drewN ?_ _ | refine blk_drew ?_ | refine blk_alloc ?_ _)); refine blk_far ?_ NB710_716.out _; (with_reducible repeat (first | refine blk_drewN ?_ _ | refine blk_drew ?_ | refine blk_alloc ?_ _)); refine blk_far ?_ NB710_716.out _; (with_reducible repeat (first | refine blk_drewN ?_ _ | refine blk_drew ?_ | refine blk_alloc ?_ _)); refine blk_far ?_ NB710_716.out _; (with_reducible repeat (first | refine blk_drewN ?_ _ | refine blk_drew ?_ | refine blk_alloc ?_ _)); exact BK710.out) hb); have n6_ := Aside0.mk (blk_below (g := gb716) (o := .cells #[.int .i64 t711, .int .i64 t712, .slice Ao29 t713.length co29] 26 (0, 0)) (by (with_reducible repeat (first | refine blk_drewN ?_ _ | refine blk_drew ?_ | refine blk_alloc ?_ _)); refine blk_put (cs := #[.int .i64 t711, .int .i64 t712, .slice none 0 0]) ?_ 2 _ rfl; (with_reducible repeat (first | refine blk_drewN ?_ _ | refine blk_drew ?_ | refine blk_alloc ?_ _)); refine blk_put (cs := #[.int .i64 t711, .int .i64 0, .slice none 0 0]) ?_ 1 _ rfl; (with_reducible repeat (first | refine blk_drewN ?_ _ | refine blk_drew ?_ | refine blk_alloc ?_ _)); refine blk_put (cs := #[.int .i64 0, .int .i64 0, .slice none 0 0]) ?_ 0 _ rfl; (with_reducible repeat (first | refine blk_drewN ?_ _ | refine blk_drew ?_ | refine blk_alloc ?_ _)); exact BK716.out) hb); have n7_ := Aside0.mk (below_step (by repeat (first | (with_reducible first | exact HB.out | apply below_alloc | apply pw_below_drewN | apply below_drew1 | refine below_set ?_ GE697.out | refine below_set ?_ GE710.out | refine below_set ?_ GE716.out) | exact HB.out)) hb); clear HO703; clear HO708; clear HO715; clear BK697; clear BK710; clear BK716; clear HB; have HO703 := n0_; have HO708 := n1_; have HO715 := n2_; have HO721 := n3_; have BK697 := n4_; have BK710 := n5_; have BK716 := n6_; have HB := n7_; clear n0_ n1_ n2_ n3_ n4_ n5_ n6_ n7_; (try clear hb); (try clear hb2); (try clear hk); (try clear hi); (try clear ho0)) | ((with_reducible refine gate_dst (N := 7) rfl ?_); refine box_event ?hg (N := 7) ?hd (cs := #[.int .i64 0, .int .i64 0, .slice none 0 0]) (t := 26) ?hr ?_; (case hd => rfl); (case hg => rfl); (case hr => first | (go_simp; done) | (go_simp; rfl)); intro gb723 hg w31 hbox hb; have n0_ := Aside0.mk (Kd.R_below (by (with_reducible repeat (first | apply Kd.R_alloc | apply Kd.R_drewN | apply Kd.R_drew)); exact HO703.out) hb); have n1_ := Aside0.mk (Kd.R_below (by (with_reducible repeat (first | apply Kd.R_alloc | apply Kd.R_drewN | apply Kd.R_drew)); exact HO708.out) hb); have n2_ := Aside0.mk (Kd.R_below (by (with_reducible repeat (first | apply Kd.R_alloc | apply Kd.R_drewN | apply Kd.R_drew)); exact HO715.out) hb); have n3_ := Aside0.mk (Kd.R_below (by (with_reducible repeat (first | apply Kd.R_alloc | apply Kd.R_drewN | apply Kd.R_drew)); exact HO721.out) hb); have n4_ := Aside0.mk (blk_below (g := gb697) (o := .cells #[.int .i64 a0_0, .int .i64 a0_1, .slice A0_2 l0_2.length c0_2] 55 (0, 0)) (by (with_reducible repeat (first | refine blk_drewN ?_ _ | refine blk_drew ?_ | refine blk_alloc ?_ _)); exact BK697.out) hb); have n5_ := Aside0.mk (blk_below (g := gb710) (o := .cells #[.int .i64 t704, .int .i64 t705, .slice Ao22 t706.length co22] 26 (0, 0)) (by (with_reducible repeat (first | refine blk_drewN ?_ _ | refine blk_drew ?_ | refine blk_alloc ?_ _)); exact BK710.out) hb); have n6_ := Aside0.mk (blk_below (g := gb716) (o := .cells #[.int .i64 t711, .int .i64 t712, .slice Ao29 t713.length co29] 26 (0, 0)) (by (with_reducible repeat (first | refine blk_drewN ?_ _ | refine blk_drew ?_ | refine blk_alloc ?_ _)); exact BK716.out) hb); have n7_ := Aside0.mk (below_step (by repeat (first | (with_reducible first | exact HB.out | apply below_alloc | apply pw_below_drewN | apply below_drew1 | refine below_set ?_ GE697.out | refine below_set ?_ GE710.out | refine below_set ?_ GE716.out) | exact HB.out)) hb); have n8_ := Aside0.mk (hbox); have n9_ := Aside0.mk ((by rw [hg]; exact (below_size (by repeat (first | (with_reducible first | exact HB.out | apply below_alloc | apply pw_below_drewN | apply below_drew1 | refine below_set ?_ GE697.out | refine below_set ?_ GE710.out | refine below_set ?_ GE716.out) | exact HB.out))) : w.heap.size ≤ gb723)); have n10_ := Aside0.mk ((by rw [hg]; exact (below_size (by repeat (first | (with_reducible first | exact HB.out | apply below_alloc | apply pw_below_drewN | apply below_drew1 | refine below_set ?_ GE697.out | refine below_set ?_ GE710.out | refine below_set ?_ GE716.out) | exact HB.out))) : w.heap.size ≤ gb723)); have n11_ := Aside0.mk ((by rw [hg]; exact Nat.ne_of_lt (blk_lt (g := gb697) (o := .cells #[.int .i64 a0_0, .int .i64 a0_1, .slice A0_2 l0_2.length c0_2] 55 (0, 0)) (by (with_reducible repeat (first | refine blk_drewN ?_ _ | refine blk_drew ?_ | refine blk_alloc ?_ _)); exact BK697.out)) : gb697 ≠ gb723)); have n12_ := Aside0.mk ((by rw [hg]; exact Nat.ne_of_gt (blk_lt (g := gb697) (o := .cells #[.int .i64 a0_0, .int .i64 a0_1, .slice A0_2 l0_2.length c0_2] 55 (0, 0)) (by (with_reducible repeat (first | refine blk_drewN ?_ _ | refine blk_drew ?_ | refine blk_alloc ?_ _)); exact BK697.out)) : gb723 ≠ gb697)); have n13_ := Aside0.mk ((by rw [hg]; exact Nat.ne_of_lt (blk_lt (g := gb710) (o := .cells #[.int .i64 t704, .int .i64 t705, .slice Ao22 t706.length co22] 26 (0, 0)) (by (with_reducible repeat (first | refine blk_drewN ?_ _ | refine blk_drew ?_ | refine blk_alloc ?_ _)); exact BK710.out)) : gb710 ≠ gb723)); have n14_ := Aside0.mk ((by rw [hg]; exact Nat.ne_of_gt (blk_lt (g := gb710) (o := .cells #[.int .i64 t704, .int .i64 t705, .slice Ao22 t706.length co22] 26 (0, 0)) (by (with_reducible repeat (first | refine blk_drewN ?_ _ | refine blk_drew ?_ | refine blk_alloc ?_ _)); exact BK710.out)) : gb723 ≠ gb710)); have n15_ := Aside0.mk ((by rw [hg]; exact Nat.ne_of_lt (blk_lt (g := gb716) (o := .cells #[.int .i64 t711, .int .i64 t712, .slice Ao29 t713.length co29] 26 (0, 0)) (by (with_reducible repeat (first | refine blk_drewN ?_ _ | refine blk_drew ?_ | refine blk_alloc ?_ _)); exact BK716.out)) : gb716 ≠ gb723)); have n16_ := Aside0.mk ((by rw [hg]; exact Nat.ne_of_gt (blk_lt (g := gb716) (o := .cells #[.int .i64 t711, .int .i64 t712, .slice Ao29 t713.length co29] 26 (0, 0)) (by (with_reducible repeat (first | refine blk_drewN ?_ _ | refine blk_drew ?_ | refine blk_alloc ?_ _)); exact BK716.out)) : gb723 ≠ gb716)); clear HO703; clear HO708; clear HO715; clear HO721; clear BK697; clear BK710; clear BK716; clear HB; have HO703 := n0_; have HO708 := n1_; have HO715 := n2_; have HO721 := n3_; have BK697 := n4_; have BK710 := n5_; have BK716 := n6_; have HB := n7_; have BK723 := n8_; have GW723 := n9_; have GE723 := n10_; have NB697_723 := n11_; have NB723_697 := n12_; have NB710_723 := n13_; have NB723_710 := n14_; have NB716_723 := n15_; have NB723_716 := n16_; clear n0_ n1_ n2_ n3_ n4_ n5_ n6_ n7_ n8_ n9_ n10_ n11_ n12_ n13_ n14_ n15_ n16_; clear hb hbox hg; have hnb32 := NB723_697.out; have hnc32 := NB697_723.out; have hnb33 := NB723_710.out; have hnc33 := NB710_723.out; have hnb34 := NB723_716.out; have hnc34 := NB716_723.out; have hcz35_0 : w31.cell? ⟨gb723, 0, none⟩ = some (.int .i64 0) := (blk_cell BK723.out 0).trans rfl; have hcz35_1 : w31.cell? ⟨gb723, 1, none⟩ = some (.int .i64 0) := (blk_cell BK723.out 1).trans rfl; have hcz35_2 : w31.cell? ⟨gb723, 2, none⟩ = some (.slice none 0 0) := (blk_cell BK723.out 2).trans rfl; have hfz35_0 := blk_frozen BK723.out 0; have hfz35_1 := blk_frozen BK723.out 1; have hfz35_2 := blk_frozen BK723.out 2; obtain ⟨Ao36, co36, eo36⟩ := Kd.R_slice HO721.out; subst eo36))
    (try simp only [Act.put, List.setIfInBounds_toArray, List.set_cons_zero, List.set_cons_succ])
    go_cut [40] (fun v40 wc => ∃ (kq : Nat) (x40_10 : Bool), v40 = .bool x40_10 ∧ Aside0 (laws_FnExactDoubleMatrix.j0 kq t709 t722 x40_10 a0_0 a0_1 l0_2 t704 t705 t706 t711 t712 t713 t717 t718 t719 = some r) ∧ Aside0 (kq ≤ k) ∧ Aside0 (Kd.R (Kd.int .i64) 3 wc w.heap.size (fun k_ => some k_ ≠ ((.slice Ao29 t713.length co29) : Value).ownBlock ∧ some k_ ≠ ((.slice Ao36 t719.length co36) : Value).ownBlock) (.slice Ao22 t706.length co22) t706) ∧ Aside0 (Kd.R (Kd.int .i64) 3 wc w.heap.size (fun k_ => some k_ ≠ ((.slice Ao22 t706.length co22) : Value).ownBlock ∧ some k_ ≠ ((.slice Ao36 t719.length co36) : Value).ownBlock) (.slice Ao29 t713.length co29) t713) ∧ Aside0 (Kd.R (Kd.int .i64) 3 wc w.heap.size (fun k_ => some k_ ≠ ((.slice Ao22 t706.length co22) : Value).ownBlock ∧ some k_ ≠ ((.slice Ao29 t713.length co29) : Value).ownBlock) (.slice Ao36 t719.length co36) t719) ∧ Aside0 (wc.heap[gb697]? = some (.cells #[.int .i64 a0_0, .int .i64 a0_1, (.slice A0_2 l0_2.length c0_2)] 55 (0, 0))) ∧ Aside0 (wc.heap[gb710]? = some (.cells #[.int .i64 t704, .int .i64 t705, (.slice Ao22 t706.length co22)] 26 (0, 0))) ∧ Aside0 (wc.heap[gb716]? = some (.cells #[.int .i64 t711, .int .i64 t712, (.slice Ao29 t713.length co29)] 26 (0, 0))) ∧ Aside0 (wc.heap[gb723]? = some (.cells #[.int .i64 t717, .int .i64 t718, (.slice Ao36 t719.length co36)] 26 (0, 0))) ∧ Aside0 (Below w.heap.size w wc))
    case first =>
      have H := HC11.out
      clear HC11
      replace H := Option.bind_eq_some_iff.mp H
      obtain ⟨t724, A370, H⟩ := H
      replace H : (if t724 = true then (laws_FnExactDoubleMatrix.j0 k t709 t722 (t722 != t709) a0_0 a0_1 l0_2 t704 t705 t706 t711 t712 t713 t717 t718 t719) else (laws_FnExactDoubleMatrix.j0 k t709 t722 true a0_0 a0_1 l0_2 t704 t705 t706 t711 t712 t713 t717 t718 t719)) = some r := H
      have A37 := Aside0.mk A370
      clear A370
      by_cases c38 : t724 = true
      · subst c38
        have H1 : (laws_FnExactDoubleMatrix.j0 k t709 t722 (t722 != t709) a0_0 a0_1 l0_2 t704 t705 t706 t711 t712 t713 t717 t718 t719) = some r := by rw [if_pos rfl] at H; exact H
        clear H
        have H := H1
        clear H1
        have H' := Aside0.mk H
        clear H
        have hnb39 := NB723_697.out
        have hnc39 := NB697_723.out
        have hnb40 := NB723_710.out
        have hnc40 := NB710_723.out
        have hnb41 := NB723_716.out
        have hnc41 := NB716_723.out
        have hcz42_0 : w31.cell? ⟨gb723, 0, none⟩ = some (.int .i64 0) := (blk_cell BK723.out 0).trans rfl
        have hcz42_1 : w31.cell? ⟨gb723, 1, none⟩ = some (.int .i64 0) := (blk_cell BK723.out 1).trans rfl
        have hcz42_2 : w31.cell? ⟨gb723, 2, none⟩ = some (.slice none 0 0) := (blk_cell BK723.out 2).trans rfl
        have hfz42_0 := blk_frozen BK723.out 0
        have hfz42_1 := blk_frozen BK723.out 1
        have hfz42_2 := blk_frozen BK723.out 2
        have hnb43 := NB710_697.out
        have hnc43 := NB697_710.out
        have hnb44 := NB710_716.out
        have hnc44 := NB716_710.out
        have hcz45_0 : w31.cell? ⟨gb710, 0, none⟩ = some (.int .i64 t704) := (blk_cell BK710.out 0).trans rfl
        have hcz45_1 : w31.cell? ⟨gb710, 1, none⟩ = some (.int .i64 t705) := (blk_cell BK710.out 1).trans rfl
        have hcz45_2 : w31.cell? ⟨gb710, 2, none⟩ = some (.slice Ao22 t706.length co22) := (blk_cell BK710.out 2).trans rfl
        have hfz45_0 := blk_frozen BK710.out 0
        have hfz45_1 := blk_frozen BK710.out 1
        have hfz45_2 := blk_frozen BK710.out 2
        go_wp2_with (first | ((with_reducible refine gate_callee (f := 34) rfl ?_); refine goesL_ (some 34) rfl rfl Try.func34 (by kernel_rfl) rfl #[.agg #[.int .i64 t717, .int .i64 t718, .slice Ao36 t719.length co36], .agg #[.int .i64 t704, .int .i64 t705, .slice Ao22 t706.length co22]] rfl (by (try simp only [List.map_toArray, List.map_cons, List.map_nil]); first | done | rfl | (simp only [List.length_drop, List.length_take]; rfl)) ?_; (with_reducible refine (laws_eqMatrix.calls k t717 t718 _ _ t719 t704 t705 _ _ t706 true _ ?side1 ?side2 ?side3 ?side4 A37.out).mono ?_); (case side1 => refine (Kd.R_reads' (e := 3) (base := w.heap.size) (ok := fun k_ => (((True ∧ some k_ ≠ (.slice Ao17 t701.length co17 : Value).ownBlock) ∧ some k_ ≠ (.slice Ao22 t706.length co22 : Value).ownBlock) ∧ some k_ ≠ (.slice Ao29 t713.length co29 : Value).ownBlock)) (n := t719.length) (c := co36) ?_).2.2; exact (by (with_reducible repeat (first | apply Kd.R_alloc | apply Kd.R_drewN | apply Kd.R_drew)); exact (Kd.R_mono (Kd.R_far (p := ⟨gb723, 2, none⟩) (Kd.R_far (p := ⟨gb723, 1, none⟩) (Kd.R_far (p := ⟨gb723, 0, none⟩) (Kd.R_types HO721.out BK723.out (by decide)) (fun _ hk => hk.2) (.int .i64 t717)) (fun _ hk => hk.2) (.int .i64 t718)) (fun _ hk => hk.2) (.slice Ao36 t719.length co36)) (fun _ h_ => h_.1)))); (case side2 => exact (Kd.R_reads' HO721.out).2.1); (case side3 => refine (Kd.R_reads' (e := 3) (base := w.heap.size) (ok := fun k_ => (((True ∧ some k_ ≠ (.slice Ao17 t701.length co17 : Value).ownBlock) ∧ some k_ ≠ (.slice Ao29 t713.length co29 : Value).ownBlock) ∧ some k_ ≠ (.slice Ao36 t719.length co36 : Value).ownBlock)) (n := t706.length) (c := co22) ?_).2.2; exact (by (with_reducible repeat (first | apply Kd.R_alloc | apply Kd.R_drewN | apply Kd.R_drew)); exact (Kd.R_mono (Kd.R_far (p := ⟨gb723, 2, none⟩) (Kd.R_far (p := ⟨gb723, 1, none⟩) (Kd.R_far (p := ⟨gb723, 0, none⟩) (Kd.R_types HO708.out BK723.out (by decide)) (fun _ hk => hk.2) (.int .i64 t717)) (fun _ hk => hk.2) (.int .i64 t718)) (fun _ hk => hk.2) (.slice Ao36 t719.length co36)) (fun _ h_ => h_.1)))); (case side4 => exact (Kd.R_reads' HO708.out).2.1); rintro e w46 ⟨rfl, hb⟩; refine ⟨_, rfl, ?_⟩; have n0_ := Aside0.mk (Kd.R_below (by (with_reducible repeat (first | apply Kd.R_alloc | apply Kd.R_drewN | apply Kd.R_drew)); exact (Kd.R_mono (Kd.R_far (p := ⟨gb723, 2, none⟩) (Kd.R_far (p := ⟨gb723, 1, none⟩) (Kd.R_far (p := ⟨gb723, 0, none⟩) (Kd.R_types HO703.out BK723.out (by decide)) (fun _ hk => hk.2) (.int .i64 t717)) (fun _ hk => hk.2) (.int .i64 t718)) (fun _ hk => hk.2) (.slice Ao36 t719.length co36)) (fun _ h_ => h_.1))) hb); have n1_ := Aside0.mk (Kd.R_below (by (with_reducible repeat (first | apply Kd.R_alloc | apply Kd.R_drewN | apply Kd.R_drew)); exact (Kd.R_mono (Kd.R_far (p := ⟨gb723, 2, none⟩) (Kd.R_far (p := ⟨gb723, 1, none⟩) (Kd.R_far (p := ⟨gb723, 0, none⟩) (Kd.R_types HO708.out BK723.out (by decide)) (fun _ hk => hk.2) (.int .i64 t717)) (fun _ hk => hk.2) (.int .i64 t718)) (fun _ hk => hk.2) (.slice Ao36 t719.length co36)) (fun _ h_ => h_.1))) hb); have n2_ := Aside0.mk (Kd.R_below (by (with_reducible repeat (first | apply Kd.R_alloc | apply Kd.R_drewN | apply Kd.R_drew)); exact (Kd.R_mono (Kd.R_far (p := ⟨gb723, 2, none⟩) (Kd.R_far (p := ⟨gb723, 1, none⟩) (Kd.R_far (p := ⟨gb723, 0, none⟩) (Kd.R_types HO715.out BK723.out (by decide)) (fun _ hk => hk.2) (.int .i64 t717)) (fun _ hk => hk.2) (.int .i64 t718)) (fun _ hk => hk.2) (.slice Ao36 t719.length co36)) (fun _ h_ => h_.1))) hb); have n3_ := Aside0.mk (Kd.R_below (by (with_reducible repeat (first | apply Kd.R_alloc | apply Kd.R_drewN | apply Kd.R_drew)); exact (Kd.R_mono (Kd.R_far (p := ⟨gb723, 2, none⟩) (Kd.R_far (p := ⟨gb723, 1, none⟩) (Kd.R_far (p := ⟨gb723, 0, none⟩) (Kd.R_types HO721.out BK723.out (by decide)) (fun _ hk => hk.2) (.int .i64 t717)) (fun _ hk => hk.2) (.int .i64 t718)) (fun _ hk => hk.2) (.slice Ao36 t719.length co36)) (fun _ h_ => h_.1))) hb); have n4_ := Aside0.mk (blk_below (g := gb697) (o := .cells #[.int .i64 a0_0, .int .i64 a0_1, .slice A0_2 l0_2.length c0_2] 55 (0, 0)) (by (with_reducible repeat (first | refine blk_drewN ?_ _ | refine blk_drew ?_ | refine blk_alloc ?_ _)); refine blk_far ?_ NB697_723.out _; (with_reducible repeat (first | refine blk_drewN ?_ _ | refine blk_drew ?_ | refine blk_alloc ?_ _)); refine blk_far ?_ NB697_723.out _; (with_reducible repeat (first | refine blk_drewN ?_ _ | refine blk_drew ?_ | refine blk_alloc ?_ _)); refine blk_far ?_ NB697_723.out _; (with_reducible repeat (first | refine blk_drewN ?_ _ | refine blk_drew ?_ | refine blk_alloc ?_ _)); exact BK697.out) hb); have n5_ := Aside0.mk (blk_below (g := gb710) (o := .cells #[.int .i64 t704, .int .i64 t705, .slice Ao22 t706.length co22] 26 (0, 0)) (by (with_reducible repeat (first | refine blk_drewN ?_ _ | refine blk_drew ?_ | refine blk_alloc ?_ _)); refine blk_far ?_ NB710_723.out _; (with_reducible repeat (first | refine blk_drewN ?_ _ | refine blk_drew ?_ | refine blk_alloc ?_ _)); refine blk_far ?_ NB710_723.out _; (with_reducible repeat (first | refine blk_drewN ?_ _ | refine blk_drew ?_ | refine blk_alloc ?_ _)); refine blk_far ?_ NB710_723.out _; (with_reducible repeat (first | refine blk_drewN ?_ _ | refine blk_drew ?_ | refine blk_alloc ?_ _)); exact BK710.out) hb); have n6_ := Aside0.mk (blk_below (g := gb716) (o := .cells #[.int .i64 t711, .int .i64 t712, .slice Ao29 t713.length co29] 26 (0, 0)) (by (with_reducible repeat (first | refine blk_drewN ?_ _ | refine blk_drew ?_ | refine blk_alloc ?_ _)); refine blk_far ?_ NB716_723.out _; (with_reducible repeat (first | refine blk_drewN ?_ _ | refine blk_drew ?_ | refine blk_alloc ?_ _)); refine blk_far ?_ NB716_723.out _; (with_reducible repeat (first | refine blk_drewN ?_ _ | refine blk_drew ?_ | refine blk_alloc ?_ _)); refine blk_far ?_ NB716_723.out _; (with_reducible repeat (first | refine blk_drewN ?_ _ | refine blk_drew ?_ | refine blk_alloc ?_ _)); exact BK716.out) hb); have n7_ := Aside0.mk (blk_below (g := gb723) (o := .cells #[.int .i64 t717, .int .i64 t718, .slice Ao36 t719.length co36] 26 (0, 0)) (by (with_reducible repeat (first | refine blk_drewN ?_ _ | refine blk_drew ?_ | refine blk_alloc ?_ _)); refine blk_put (cs := #[.int .i64 t717, .int .i64 t718, .slice none 0 0]) ?_ 2 _ rfl; (with_reducible repeat (first | refine blk_drewN ?_ _ | refine blk_drew ?_ | refine blk_alloc ?_ _)); refine blk_put (cs := #[.int .i64 t717, .int .i64 0, .slice none 0 0]) ?_ 1 _ rfl; (with_reducible repeat (first | refine blk_drewN ?_ _ | refine blk_drew ?_ | refine blk_alloc ?_ _)); refine blk_put (cs := #[.int .i64 0, .int .i64 0, .slice none 0 0]) ?_ 0 _ rfl; (with_reducible repeat (first | refine blk_drewN ?_ _ | refine blk_drew ?_ | refine blk_alloc ?_ _)); exact BK723.out) hb); have n8_ := Aside0.mk (below_step (by repeat (first | (with_reducible first | exact HB.out | apply below_alloc | apply pw_below_drewN | apply below_drew1 | refine below_set ?_ GE697.out | refine below_set ?_ GE710.out | refine below_set ?_ GE716.out | refine below_set ?_ GE723.out) | exact HB.out)) hb); clear HO703; clear HO708; clear HO715; clear HO721; clear BK697; clear BK710; clear BK716; clear BK723; clear HB; have HO703 := n0_; have HO708 := n1_; have HO715 := n2_; have HO721 := n3_; have BK697 := n4_; have BK710 := n5_; have BK716 := n6_; have BK723 := n7_; have HB := n8_; clear n0_ n1_ n2_ n3_ n4_ n5_ n6_ n7_ n8_; (try clear hb); (try clear hb2); (try clear hk); (try clear hi)))
        go_meet
        case rel => exact ⟨_, ((t722 != t709)), (by first | rfl | (simp; done) | (simp [*]; done)), H', ⟨by first | omega | exact Nat.le_refl _⟩, ⟨by (with_reducible repeat (first | apply Kd.R_alloc | apply Kd.R_drewN | apply Kd.R_drew)); exact Kd.R_mono HO708.out (fun _ hk => ⟨hk.1.2, hk.2⟩)⟩, ⟨by (with_reducible repeat (first | apply Kd.R_alloc | apply Kd.R_drewN | apply Kd.R_drew)); exact Kd.R_mono HO715.out (fun _ hk => ⟨hk.1.2, hk.2⟩)⟩, ⟨by (with_reducible repeat (first | apply Kd.R_alloc | apply Kd.R_drewN | apply Kd.R_drew)); exact Kd.R_mono HO721.out (fun _ hk => ⟨hk.1.2, hk.2⟩)⟩, ⟨by (with_reducible repeat (first | refine blk_drewN ?_ _ | refine blk_drew ?_ | refine blk_alloc ?_ _)); exact BK697.out⟩, ⟨by (with_reducible repeat (first | refine blk_drewN ?_ _ | refine blk_drew ?_ | refine blk_alloc ?_ _)); exact BK710.out⟩, ⟨by (with_reducible repeat (first | refine blk_drewN ?_ _ | refine blk_drew ?_ | refine blk_alloc ?_ _)); exact BK716.out⟩, ⟨by (with_reducible repeat (first | refine blk_drewN ?_ _ | refine blk_drew ?_ | refine blk_alloc ?_ _)); exact BK723.out⟩, ⟨by repeat (first | (with_reducible first | exact HB.out | apply below_alloc | apply pw_below_drewN | apply below_drew1 | refine below_set ?_ GE697.out | refine below_set ?_ GE710.out | refine below_set ?_ GE716.out | refine below_set ?_ GE723.out) | exact HB.out)⟩⟩
      · replace c38 := Bool.eq_false_iff.mpr c38
        subst c38
        have H1 : (laws_FnExactDoubleMatrix.j0 k t709 t722 true a0_0 a0_1 l0_2 t704 t705 t706 t711 t712 t713 t717 t718 t719) = some r := by rw [if_neg (show ¬ (false = true) by decide)] at H; exact H
        clear H
        have H := H1
        clear H1
        have H' := Aside0.mk H
        clear H
        have hnb47 := NB723_697.out
        have hnc47 := NB697_723.out
        have hnb48 := NB723_710.out
        have hnc48 := NB710_723.out
        have hnb49 := NB723_716.out
        have hnc49 := NB716_723.out
        have hcz50_0 : w31.cell? ⟨gb723, 0, none⟩ = some (.int .i64 0) := (blk_cell BK723.out 0).trans rfl
        have hcz50_1 : w31.cell? ⟨gb723, 1, none⟩ = some (.int .i64 0) := (blk_cell BK723.out 1).trans rfl
        have hcz50_2 : w31.cell? ⟨gb723, 2, none⟩ = some (.slice none 0 0) := (blk_cell BK723.out 2).trans rfl
        have hfz50_0 := blk_frozen BK723.out 0
        have hfz50_1 := blk_frozen BK723.out 1
        have hfz50_2 := blk_frozen BK723.out 2
        have hnb51 := NB710_697.out
        have hnc51 := NB697_710.out
        have hnb52 := NB710_716.out
        have hnc52 := NB716_710.out
        have hcz53_0 : w31.cell? ⟨gb710, 0, none⟩ = some (.int .i64 t704) := (blk_cell BK710.out 0).trans rfl
        have hcz53_1 : w31.cell? ⟨gb710, 1, none⟩ = some (.int .i64 t705) := (blk_cell BK710.out 1).trans rfl
        have hcz53_2 : w31.cell? ⟨gb710, 2, none⟩ = some (.slice Ao22 t706.length co22) := (blk_cell BK710.out 2).trans rfl
        have hfz53_0 := blk_frozen BK710.out 0
        have hfz53_1 := blk_frozen BK710.out 1
        have hfz53_2 := blk_frozen BK710.out 2
        go_wp2_with (first | ((with_reducible refine gate_callee (f := 34) rfl ?_); refine goesL_ (some 34) rfl rfl Try.func34 (by kernel_rfl) rfl #[.agg #[.int .i64 t717, .int .i64 t718, .slice Ao36 t719.length co36], .agg #[.int .i64 t704, .int .i64 t705, .slice Ao22 t706.length co22]] rfl (by (try simp only [List.map_toArray, List.map_cons, List.map_nil]); first | done | rfl | (simp only [List.length_drop, List.length_take]; rfl)) ?_; (with_reducible refine (laws_eqMatrix.calls k t717 t718 _ _ t719 t704 t705 _ _ t706 false _ ?side1 ?side2 ?side3 ?side4 A37.out).mono ?_); (case side1 => refine (Kd.R_reads' (e := 3) (base := w.heap.size) (ok := fun k_ => (((True ∧ some k_ ≠ (.slice Ao17 t701.length co17 : Value).ownBlock) ∧ some k_ ≠ (.slice Ao22 t706.length co22 : Value).ownBlock) ∧ some k_ ≠ (.slice Ao29 t713.length co29 : Value).ownBlock)) (n := t719.length) (c := co36) ?_).2.2; exact (by (with_reducible repeat (first | apply Kd.R_alloc | apply Kd.R_drewN | apply Kd.R_drew)); exact (Kd.R_mono (Kd.R_far (p := ⟨gb723, 2, none⟩) (Kd.R_far (p := ⟨gb723, 1, none⟩) (Kd.R_far (p := ⟨gb723, 0, none⟩) (Kd.R_types HO721.out BK723.out (by decide)) (fun _ hk => hk.2) (.int .i64 t717)) (fun _ hk => hk.2) (.int .i64 t718)) (fun _ hk => hk.2) (.slice Ao36 t719.length co36)) (fun _ h_ => h_.1)))); (case side2 => exact (Kd.R_reads' HO721.out).2.1); (case side3 => refine (Kd.R_reads' (e := 3) (base := w.heap.size) (ok := fun k_ => (((True ∧ some k_ ≠ (.slice Ao17 t701.length co17 : Value).ownBlock) ∧ some k_ ≠ (.slice Ao29 t713.length co29 : Value).ownBlock) ∧ some k_ ≠ (.slice Ao36 t719.length co36 : Value).ownBlock)) (n := t706.length) (c := co22) ?_).2.2; exact (by (with_reducible repeat (first | apply Kd.R_alloc | apply Kd.R_drewN | apply Kd.R_drew)); exact (Kd.R_mono (Kd.R_far (p := ⟨gb723, 2, none⟩) (Kd.R_far (p := ⟨gb723, 1, none⟩) (Kd.R_far (p := ⟨gb723, 0, none⟩) (Kd.R_types HO708.out BK723.out (by decide)) (fun _ hk => hk.2) (.int .i64 t717)) (fun _ hk => hk.2) (.int .i64 t718)) (fun _ hk => hk.2) (.slice Ao36 t719.length co36)) (fun _ h_ => h_.1)))); (case side4 => exact (Kd.R_reads' HO708.out).2.1); rintro e w54 ⟨rfl, hb⟩; refine ⟨_, rfl, ?_⟩; have n0_ := Aside0.mk (Kd.R_below (by (with_reducible repeat (first | apply Kd.R_alloc | apply Kd.R_drewN | apply Kd.R_drew)); exact (Kd.R_mono (Kd.R_far (p := ⟨gb723, 2, none⟩) (Kd.R_far (p := ⟨gb723, 1, none⟩) (Kd.R_far (p := ⟨gb723, 0, none⟩) (Kd.R_types HO703.out BK723.out (by decide)) (fun _ hk => hk.2) (.int .i64 t717)) (fun _ hk => hk.2) (.int .i64 t718)) (fun _ hk => hk.2) (.slice Ao36 t719.length co36)) (fun _ h_ => h_.1))) hb); have n1_ := Aside0.mk (Kd.R_below (by (with_reducible repeat (first | apply Kd.R_alloc | apply Kd.R_drewN | apply Kd.R_drew)); exact (Kd.R_mono (Kd.R_far (p := ⟨gb723, 2, none⟩) (Kd.R_far (p := ⟨gb723, 1, none⟩) (Kd.R_far (p := ⟨gb723, 0, none⟩) (Kd.R_types HO708.out BK723.out (by decide)) (fun _ hk => hk.2) (.int .i64 t717)) (fun _ hk => hk.2) (.int .i64 t718)) (fun _ hk => hk.2) (.slice Ao36 t719.length co36)) (fun _ h_ => h_.1))) hb); have n2_ := Aside0.mk (Kd.R_below (by (with_reducible repeat (first | apply Kd.R_alloc | apply Kd.R_drewN | apply Kd.R_drew)); exact (Kd.R_mono (Kd.R_far (p := ⟨gb723, 2, none⟩) (Kd.R_far (p := ⟨gb723, 1, none⟩) (Kd.R_far (p := ⟨gb723, 0, none⟩) (Kd.R_types HO715.out BK723.out (by decide)) (fun _ hk => hk.2) (.int .i64 t717)) (fun _ hk => hk.2) (.int .i64 t718)) (fun _ hk => hk.2) (.slice Ao36 t719.length co36)) (fun _ h_ => h_.1))) hb); have n3_ := Aside0.mk (Kd.R_below (by (with_reducible repeat (first | apply Kd.R_alloc | apply Kd.R_drewN | apply Kd.R_drew)); exact (Kd.R_mono (Kd.R_far (p := ⟨gb723, 2, none⟩) (Kd.R_far (p := ⟨gb723, 1, none⟩) (Kd.R_far (p := ⟨gb723, 0, none⟩) (Kd.R_types HO721.out BK723.out (by decide)) (fun _ hk => hk.2) (.int .i64 t717)) (fun _ hk => hk.2) (.int .i64 t718)) (fun _ hk => hk.2) (.slice Ao36 t719.length co36)) (fun _ h_ => h_.1))) hb); have n4_ := Aside0.mk (blk_below (g := gb697) (o := .cells #[.int .i64 a0_0, .int .i64 a0_1, .slice A0_2 l0_2.length c0_2] 55 (0, 0)) (by (with_reducible repeat (first | refine blk_drewN ?_ _ | refine blk_drew ?_ | refine blk_alloc ?_ _)); refine blk_far ?_ NB697_723.out _; (with_reducible repeat (first | refine blk_drewN ?_ _ | refine blk_drew ?_ | refine blk_alloc ?_ _)); refine blk_far ?_ NB697_723.out _; (with_reducible repeat (first | refine blk_drewN ?_ _ | refine blk_drew ?_ | refine blk_alloc ?_ _)); refine blk_far ?_ NB697_723.out _; (with_reducible repeat (first | refine blk_drewN ?_ _ | refine blk_drew ?_ | refine blk_alloc ?_ _)); exact BK697.out) hb); have n5_ := Aside0.mk (blk_below (g := gb710) (o := .cells #[.int .i64 t704, .int .i64 t705, .slice Ao22 t706.length co22] 26 (0, 0)) (by (with_reducible repeat (first | refine blk_drewN ?_ _ | refine blk_drew ?_ | refine blk_alloc ?_ _)); refine blk_far ?_ NB710_723.out _; (with_reducible repeat (first | refine blk_drewN ?_ _ | refine blk_drew ?_ | refine blk_alloc ?_ _)); refine blk_far ?_ NB710_723.out _; (with_reducible repeat (first | refine blk_drewN ?_ _ | refine blk_drew ?_ | refine blk_alloc ?_ _)); refine blk_far ?_ NB710_723.out _; (with_reducible repeat (first | refine blk_drewN ?_ _ | refine blk_drew ?_ | refine blk_alloc ?_ _)); exact BK710.out) hb); have n6_ := Aside0.mk (blk_below (g := gb716) (o := .cells #[.int .i64 t711, .int .i64 t712, .slice Ao29 t713.length co29] 26 (0, 0)) (by (with_reducible repeat (first | refine blk_drewN ?_ _ | refine blk_drew ?_ | refine blk_alloc ?_ _)); refine blk_far ?_ NB716_723.out _; (with_reducible repeat (first | refine blk_drewN ?_ _ | refine blk_drew ?_ | refine blk_alloc ?_ _)); refine blk_far ?_ NB716_723.out _; (with_reducible repeat (first | refine blk_drewN ?_ _ | refine blk_drew ?_ | refine blk_alloc ?_ _)); refine blk_far ?_ NB716_723.out _; (with_reducible repeat (first | refine blk_drewN ?_ _ | refine blk_drew ?_ | refine blk_alloc ?_ _)); exact BK716.out) hb); have n7_ := Aside0.mk (blk_below (g := gb723) (o := .cells #[.int .i64 t717, .int .i64 t718, .slice Ao36 t719.length co36] 26 (0, 0)) (by (with_reducible repeat (first | refine blk_drewN ?_ _ | refine blk_drew ?_ | refine blk_alloc ?_ _)); refine blk_put (cs := #[.int .i64 t717, .int .i64 t718, .slice none 0 0]) ?_ 2 _ rfl; (with_reducible repeat (first | refine blk_drewN ?_ _ | refine blk_drew ?_ | refine blk_alloc ?_ _)); refine blk_put (cs := #[.int .i64 t717, .int .i64 0, .slice none 0 0]) ?_ 1 _ rfl; (with_reducible repeat (first | refine blk_drewN ?_ _ | refine blk_drew ?_ | refine blk_alloc ?_ _)); refine blk_put (cs := #[.int .i64 0, .int .i64 0, .slice none 0 0]) ?_ 0 _ rfl; (with_reducible repeat (first | refine blk_drewN ?_ _ | refine blk_drew ?_ | refine blk_alloc ?_ _)); exact BK723.out) hb); have n8_ := Aside0.mk (below_step (by repeat (first | (with_reducible first | exact HB.out | apply below_alloc | apply pw_below_drewN | apply below_drew1 | refine below_set ?_ GE697.out | refine below_set ?_ GE710.out | refine below_set ?_ GE716.out | refine below_set ?_ GE723.out) | exact HB.out)) hb); clear HO703; clear HO708; clear HO715; clear HO721; clear BK697; clear BK710; clear BK716; clear BK723; clear HB; have HO703 := n0_; have HO708 := n1_; have HO715 := n2_; have HO721 := n3_; have BK697 := n4_; have BK710 := n5_; have BK716 := n6_; have BK723 := n7_; have HB := n8_; clear n0_ n1_ n2_ n3_ n4_ n5_ n6_ n7_ n8_; (try clear hb); (try clear hb2); (try clear hk); (try clear hi)))
        go_meet
        case rel => exact ⟨_, (true), (by first | rfl | (simp; done) | (simp [*]; done)), H', ⟨by first | omega | exact Nat.le_refl _⟩, ⟨by (with_reducible repeat (first | apply Kd.R_alloc | apply Kd.R_drewN | apply Kd.R_drew)); exact Kd.R_mono HO708.out (fun _ hk => ⟨hk.1.2, hk.2⟩)⟩, ⟨by (with_reducible repeat (first | apply Kd.R_alloc | apply Kd.R_drewN | apply Kd.R_drew)); exact Kd.R_mono HO715.out (fun _ hk => ⟨hk.1.2, hk.2⟩)⟩, ⟨by (with_reducible repeat (first | apply Kd.R_alloc | apply Kd.R_drewN | apply Kd.R_drew)); exact Kd.R_mono HO721.out (fun _ hk => ⟨hk.1.2, hk.2⟩)⟩, ⟨by (with_reducible repeat (first | refine blk_drewN ?_ _ | refine blk_drew ?_ | refine blk_alloc ?_ _)); exact BK697.out⟩, ⟨by (with_reducible repeat (first | refine blk_drewN ?_ _ | refine blk_drew ?_ | refine blk_alloc ?_ _)); exact BK710.out⟩, ⟨by (with_reducible repeat (first | refine blk_drewN ?_ _ | refine blk_drew ?_ | refine blk_alloc ?_ _)); exact BK716.out⟩, ⟨by (with_reducible repeat (first | refine blk_drewN ?_ _ | refine blk_drew ?_ | refine blk_alloc ?_ _)); exact BK723.out⟩, ⟨by repeat (first | (with_reducible first | exact HB.out | apply below_alloc | apply pw_below_drewN | apply below_drew1 | refine below_set ?_ GE697.out | refine below_set ?_ GE710.out | refine below_set ?_ GE716.out | refine below_set ?_ GE723.out) | exact HB.out)⟩⟩
    case rest =>
      clear HC11
      try clear c1
      try clear c2
      try clear p2
      try clear c3
      try clear c3b0
      try clear c4
      try clear c5
      try clear c12
      try clear c20
      try clear c26
      try clear c27
      try clear c31
      try clear c32
      try clear c33
      try clear c34
      try clear c38
      try clear c39
      try clear c40
      try clear c41
      try clear c43
      try clear c44
      try clear c47
      try clear c48
      try clear c49
      try clear c51
      try clear c52
      try clear hcz13_0
      try clear hcz13_1
      try clear hcz13_2
      try clear hcz15_0
      try clear hcz15_1
      try clear hcz15_2
      try clear hcz21_0
      try clear hcz21_1
      try clear hcz21_2
      try clear hcz23_0
      try clear hcz23_1
      try clear hcz23_2
      try clear hcz28_0
      try clear hcz28_1
      try clear hcz28_2
      try clear hcz35_0
      try clear hcz35_1
      try clear hcz35_2
      try clear hcz42_0
      try clear hcz42_1
      try clear hcz42_2
      try clear hcz45_0
      try clear hcz45_1
      try clear hcz45_2
      try clear hcz50_0
      try clear hcz50_1
      try clear hcz50_2
      try clear hcz53_0
      try clear hcz53_1
      try clear hcz53_2
      try clear hcz5_0
      try clear hcz5_1
      try clear hcz5_2
      try clear hfz13_0
      try clear hfz13_1
      try clear hfz13_2
      try clear hfz15_0
      try clear hfz15_1
      try clear hfz15_2
      try clear hfz21_0
      try clear hfz21_1
      try clear hfz21_2
      try clear hfz23_0
      try clear hfz23_1
      try clear hfz23_2
      try clear hfz28_0
      try clear hfz28_1
      try clear hfz28_2
      try clear hfz35_0
      try clear hfz35_1
      try clear hfz35_2
      try clear hfz42_0
      try clear hfz42_1
      try clear hfz42_2
      try clear hfz45_0
      try clear hfz45_1
      try clear hfz45_2
      try clear hfz50_0
      try clear hfz50_1
      try clear hfz50_2
      try clear hfz53_0
      try clear hfz53_1
      try clear hfz53_2
      try clear hfz5_0
      try clear hfz5_1
      try clear hfz5_2
      obtain ⟨kq, x40_10, rfl, HA, HJ10, HO_711002, HO_717002, HO_724002, BK697, BK710, BK716, BK723, HB⟩ := hcut
      cases kq with
      | zero => exact absurd HA.out (by simp [laws_FnExactDoubleMatrix.j0])
      | succ kj10 =>
        have H := HA.out
        clear HA
        simp only [laws_FnExactDoubleMatrix.j0] at H
        by_cases c55 : x40_10 = true
        · subst c55
          have H1 : (some false) = some r := by rw [if_pos rfl] at H; exact H
          clear H
          have H := H1
          clear H1
          exact absurd ((Option.some.inj H).trans hT.out) (by decide)
        · replace c55 := Bool.eq_false_iff.mpr c55
          subst c55
          have H1 : ((laws_toMatrix.f kj10 a0_0 a0_1 l0_2).bind fun bt725 => ((laws_eqMatrix.f kj10 t711 t712 t713 bt725.1 bt725.2.1 bt725.2.2).bind fun t730 => (if t730 = true then ((laws_markMatrix.f kj10 t711 t712 t713 1).bind fun bt731 => (if bt731.1 < 0 then (laws_FnExactDoubleMatrix.j1 kj10 t709 true a0_0 a0_1 l0_2 t704 t705 t706 t717 t718 t719) else ((laws_eqMatrix.f kj10 t717 t718 t719 t704 t705 t706).bind fun t733 => (if t733 = true then (laws_FnExactDoubleMatrix.j1 kj10 t709 (t722 != t709) a0_0 a0_1 l0_2 t704 t705 t706 t717 t718 t719) else (laws_FnExactDoubleMatrix.j1 kj10 t709 true a0_0 a0_1 l0_2 t704 t705 t706 t717 t718 t719))))) else (some false)))) = some r := by rw [if_neg (show ¬ (false = true) by decide)] at H; exact H
          clear H
          have H := H1
          clear H1
          replace H := Option.bind_eq_some_iff.mp H
          obtain ⟨⟨t725, t726, t727⟩, A560, H⟩ := H
          replace H : ((laws_eqMatrix.f kj10 t711 t712 t713 t725 t726 t727).bind fun t730 => (if t730 = true then ((laws_markMatrix.f kj10 t711 t712 t713 1).bind fun bt731 => (if bt731.1 < 0 then (laws_FnExactDoubleMatrix.j1 kj10 t709 true a0_0 a0_1 l0_2 t704 t705 t706 t717 t718 t719) else ((laws_eqMatrix.f kj10 t717 t718 t719 t704 t705 t706).bind fun t733 => (if t733 = true then (laws_FnExactDoubleMatrix.j1 kj10 t709 (t722 != t709) a0_0 a0_1 l0_2 t704 t705 t706 t717 t718 t719) else (laws_FnExactDoubleMatrix.j1 kj10 t709 true a0_0 a0_1 l0_2 t704 t705 t706 t717 t718 t719))))) else (some false))) = some r := H
          have A56 := Aside0.mk A560
          clear A560
          replace H := Option.bind_eq_some_iff.mp H
          obtain ⟨t730, A570, H⟩ := H
          replace H : (if t730 = true then ((laws_markMatrix.f kj10 t711 t712 t713 1).bind fun bt731 => (if bt731.1 < 0 then (laws_FnExactDoubleMatrix.j1 kj10 t709 true a0_0 a0_1 l0_2 t704 t705 t706 t717 t718 t719) else ((laws_eqMatrix.f kj10 t717 t718 t719 t704 t705 t706).bind fun t733 => (if t733 = true then (laws_FnExactDoubleMatrix.j1 kj10 t709 (t722 != t709) a0_0 a0_1 l0_2 t704 t705 t706 t717 t718 t719) else (laws_FnExactDoubleMatrix.j1 kj10 t709 true a0_0 a0_1 l0_2 t704 t705 t706 t717 t718 t719))))) else (some false)) = some r := H
          have A57 := Aside0.mk A570
          clear A570
          by_cases c58 : t730 = true
          · subst c58
            have H1 : ((laws_markMatrix.f kj10 t711 t712 t713 1).bind fun bt731 => (if bt731.1 < 0 then (laws_FnExactDoubleMatrix.j1 kj10 t709 true a0_0 a0_1 l0_2 t704 t705 t706 t717 t718 t719) else ((laws_eqMatrix.f kj10 t717 t718 t719 t704 t705 t706).bind fun t733 => (if t733 = true then (laws_FnExactDoubleMatrix.j1 kj10 t709 (t722 != t709) a0_0 a0_1 l0_2 t704 t705 t706 t717 t718 t719) else (laws_FnExactDoubleMatrix.j1 kj10 t709 true a0_0 a0_1 l0_2 t704 t705 t706 t717 t718 t719))))) = some r := by rw [if_pos rfl] at H; exact H
            clear H
            have H := H1
            clear H1
            replace H := Option.bind_eq_some_iff.mp H
            obtain ⟨⟨t731, t732⟩, A590, H⟩ := H
            replace H : (if t731 < 0 then (laws_FnExactDoubleMatrix.j1 kj10 t709 true a0_0 a0_1 l0_2 t704 t705 t706 t717 t718 t719) else ((laws_eqMatrix.f kj10 t717 t718 t719 t704 t705 t706).bind fun t733 => (if t733 = true then (laws_FnExactDoubleMatrix.j1 kj10 t709 (t722 != t709) a0_0 a0_1 l0_2 t704 t705 t706 t717 t718 t719) else (laws_FnExactDoubleMatrix.j1 kj10 t709 true a0_0 a0_1 l0_2 t704 t705 t706 t717 t718 t719)))) = some r := H
            have A59 := Aside0.mk A590
            clear A590
            have HC60 := Aside0.mk H
            clear H
            try go_wp2
            have n0_ := Aside0.mk (Kd.R_drew HO_711002.out)
            have n1_ := Aside0.mk (Kd.R_drew HO_717002.out)
            have n2_ := Aside0.mk (Kd.R_drew HO_724002.out)
            have n3_ := Aside0.mk (blk_drew BK697.out)
            have n4_ := Aside0.mk (blk_drew BK710.out)
            have n5_ := Aside0.mk (blk_drew BK716.out)
            have n6_ := Aside0.mk (blk_drew BK723.out)
            have n7_ := Aside0.mk (below_drew1 HB.out)
            clear HO_711002
            clear HO_717002
            clear HO_724002
            clear BK697
            clear BK710
            clear BK716
            clear BK723
            clear HB
            have HO_711002 := n0_
            have HO_717002 := n1_
            have HO_724002 := n2_
            have BK697 := n3_
            have BK710 := n4_
            have BK716 := n5_
            have BK723 := n6_
            have HB := n7_
            clear n0_ n1_ n2_ n3_ n4_ n5_ n6_ n7_
            refine start_ (n := 5) (S := fun w' => w'.cell? ⟨gb716, 0, none⟩ = some (.int .i64 t711) ∧ w'.cell? ⟨gb716, 1, none⟩ = some (.int .i64 t712) ∧ w'.cell? ⟨gb716, 2, none⟩ = some (.slice Ao29 t713.length co29) ∧ w'.cell? ⟨gb697, 0, none⟩ = some (.int .i64 a0_0) ∧ w'.cell? ⟨gb697, 1, none⟩ = some (.int .i64 a0_1) ∧ w'.cell? ⟨gb697, 2, none⟩ = some (.slice A0_2 l0_2.length c0_2)) (ds := []) #[false, false, false, false, false] (by kernel_rfl) rfl rfl ⟨(blk_cell BK716.out 0).trans rfl, (blk_cell BK716.out 1).trans rfl, (blk_cell BK716.out 2).trans rfl, (blk_cell BK697.out 0).trans rfl, (blk_cell BK697.out 1).trans rfl, (blk_cell BK697.out 2).trans rfl⟩ (fun hHeld => ?_)
            generalize wc.drew = w61 at HO_711002 HO_717002 HO_724002 BK697 BK710 BK716 BK723 HB hHeld ⊢
            refine take_ (i := 0) (N := some 41) (v := ?_) (a' := ?_) #[true, false, false, false, false] rfl rfl (by kernel_rfl) (fun _ _ _ h => h) (Or.inl ⟨by rfl, ?_⟩) hHeld ?_ ?_
            rotate_left
            · rintro w' ⟨s0, s1, s2, s3, s4, s5⟩
              go_simp
              with_reducible rfl
            rotate_left
            · simp only [Act.put, List.setIfInBounds_toArray, List.set_cons_zero, List.set_cons_succ, i64_w, i32_w]
              rfl
            refine take_ (i := 1) (N := some 42) (v := ?_) (a' := ?_) #[true, true, false, false, false] rfl rfl (by kernel_rfl) (fun _ _ _ h => h) (Or.inl ⟨by rfl, ?_⟩) hHeld ?_ ?_
            rotate_left
            · rintro w' ⟨s0, s1, s2, s3, s4, s5⟩
              go_simp
              with_reducible rfl
            rotate_left
            · simp only [Act.put, List.setIfInBounds_toArray, List.set_cons_zero, List.set_cons_succ, i64_w, i32_w]
              rfl
            refine one_ (i := 2) (N := some 43) #[true, true, true, false, false] rfl rfl (by kernel_rfl) (by decide) (fun K hK => ?_)
            refine goes_ Try.func58 (by kernel_rfl) rfl #[.agg #[.int .i64 a0_0, .int .i64 a0_1, .slice A0_2 l0_2.length c0_2]] (by rfl) rfl rfl (by (try simp only [List.map_toArray, List.map_cons, List.map_nil]); first | done | rfl | (simp only [List.length_drop, List.length_take]; rfl)) ?_
            with_reducible refine (laws_toMatrix.calls kj10 a0_0 a0_1 _ _ l0_2 t725 t726 t727 _ ?side1 ?side2 A56.out).mono ?_
            (case side1 => repeat (first | exact (Kd.C_below HR0_2.out HB.out) | (with_reducible refine Kd.C_alloc ?_ _) | (with_reducible refine Kd.C_drewN ?_ _) | (with_reducible refine Kd.C_drew ?_)))
            (case side2 => exact HC0_2.out)
            rintro e w62 ⟨v728, rfl, ho0, hb⟩
            refine ⟨_, rfl, ?_⟩
            have n0_ := Aside0.mk (Kd.R_elder' (by (with_reducible repeat (first | apply Kd.R_alloc | apply Kd.R_drewN | apply Kd.R_drew)); exact HO_711002.out) (Kd.R_base ho0) hb)
            have n1_ := Aside0.mk (Kd.R_elder' (by (with_reducible repeat (first | apply Kd.R_alloc | apply Kd.R_drewN | apply Kd.R_drew)); exact HO_717002.out) (Kd.R_base ho0) hb)
            have n2_ := Aside0.mk (Kd.R_elder' (by (with_reducible repeat (first | apply Kd.R_alloc | apply Kd.R_drewN | apply Kd.R_drew)); exact HO_724002.out) (Kd.R_base ho0) hb)
            have n3_ := Aside0.mk (Kd.R_lower (Kd.R_new' (Kd.R_new' (Kd.R_new' ho0 (Kd.R_lt (by (with_reducible repeat (first | apply Kd.R_alloc | apply Kd.R_drewN | apply Kd.R_drew)); exact HO_711002.out))) (Kd.R_lt (by (with_reducible repeat (first | apply Kd.R_alloc | apply Kd.R_drewN | apply Kd.R_drew)); exact HO_717002.out))) (Kd.R_lt (by (with_reducible repeat (first | apply Kd.R_alloc | apply Kd.R_drewN | apply Kd.R_drew)); exact HO_724002.out))) (below_size (by repeat (first | (with_reducible first | exact HB.out | apply below_alloc | apply pw_below_drewN | apply below_drew1 | refine below_set ?_ GE697.out | refine below_set ?_ GE710.out | refine below_set ?_ GE716.out | refine below_set ?_ GE723.out) | exact HB.out))))
            have n4_ := Aside0.mk (blk_below (g := gb697) (o := .cells #[.int .i64 a0_0, .int .i64 a0_1, .slice A0_2 l0_2.length c0_2] 55 (0, 0)) (by (with_reducible repeat (first | refine blk_drewN ?_ _ | refine blk_drew ?_ | refine blk_alloc ?_ _)); exact BK697.out) hb)
            have n5_ := Aside0.mk (blk_below (g := gb710) (o := .cells #[.int .i64 t704, .int .i64 t705, .slice Ao22 t706.length co22] 26 (0, 0)) (by (with_reducible repeat (first | refine blk_drewN ?_ _ | refine blk_drew ?_ | refine blk_alloc ?_ _)); exact BK710.out) hb)
            have n6_ := Aside0.mk (blk_below (g := gb716) (o := .cells #[.int .i64 t711, .int .i64 t712, .slice Ao29 t713.length co29] 26 (0, 0)) (by (with_reducible repeat (first | refine blk_drewN ?_ _ | refine blk_drew ?_ | refine blk_alloc ?_ _)); exact BK716.out) hb)
            have n7_ := Aside0.mk (blk_below (g := gb723) (o := .cells #[.int .i64 t717, .int .i64 t718, .slice Ao36 t719.length co36] 26 (0, 0)) (by (with_reducible repeat (first | refine blk_drewN ?_ _ | refine blk_drew ?_ | refine blk_alloc ?_ _)); exact BK723.out) hb)
            have n8_ := Aside0.mk (below_step (by repeat (first | (with_reducible first | exact HB.out | apply below_alloc | apply pw_below_drewN | apply below_drew1 | refine below_set ?_ GE697.out | refine below_set ?_ GE710.out | refine below_set ?_ GE716.out | refine below_set ?_ GE723.out) | exact HB.out)) hb)
            clear HO_711002
            clear HO_717002
            clear HO_724002
            clear BK697
            clear BK710
            clear BK716
            clear BK723
            clear HB
            have HO_711002 := n0_
            have HO_717002 := n1_
            have HO_724002 := n2_
            have HO729 := n3_
            have BK697 := n4_
            have BK710 := n5_
            have BK716 := n6_
            have BK723 := n7_
            have HB := n8_
            clear n0_ n1_ n2_ n3_ n4_ n5_ n6_ n7_ n8_
            (try clear hb)
            (try clear hb2)
            (try clear hk)
            (try clear hi)
            (try clear ho0)
            obtain ⟨Ao63, co63, eo63⟩ := Kd.R_slice HO729.out
            (first | subst eo63 | (injection eo63 with f1_ f2_ f3_; have f4_ := f1_.symm; have f5_ := f3_.symm; clear f1_ f2_ f3_; subst f4_; subst f5_))
            refine hK.out _ _ ⟨(blk_cell BK716.out 0).trans rfl, (blk_cell BK716.out 1).trans rfl, (blk_cell BK716.out 2).trans rfl, (blk_cell BK697.out 0).trans rfl, (blk_cell BK697.out 1).trans rfl, (blk_cell BK697.out 2).trans rfl⟩ (fun hHeld => ?_)
            clear hK K
            refine norm_ (a' := ?_) ?_ ?_
            rotate_left
            · show Act.put _ (some 43) _ = _
              simp only [Act.put, List.setIfInBounds_toArray, List.set_cons_zero, List.set_cons_succ, i64_w, i32_w]
              rfl
            refine one_ (i := 3) (N := some 44) #[true, true, true, true, false] rfl rfl (by kernel_rfl) (by decide) (fun K hK => ?_)
            refine goes_ Try.func34 (by kernel_rfl) rfl #[.agg #[.int .i64 t711, .int .i64 t712, .slice Ao29 t713.length co29], .agg #[.int .i64 t725, .int .i64 t726, .slice Ao63 t727.length co63]] (by rfl) rfl rfl (by (try simp only [List.map_toArray, List.map_cons, List.map_nil]); first | done | rfl | (simp only [List.length_drop, List.length_take]; rfl)) ?_
            with_reducible refine (laws_eqMatrix.calls kj10 t711 t712 _ _ t713 t725 t726 _ _ t727 true _ ?side1 ?side2 ?side3 ?side4 A57.out).mono ?_
            (case side1 => repeat (first | exact (Kd.R_reads' HO_717002.out).2.2 | (with_reducible refine Kd.C_alloc ?_ _) | (with_reducible refine Kd.C_drewN ?_ _) | (with_reducible refine Kd.C_drew ?_)))
            (case side2 => exact (Kd.R_reads' HO_717002.out).2.1)
            (case side3 => repeat (first | exact (Kd.R_reads' HO729.out).2.2 | (with_reducible refine Kd.C_alloc ?_ _) | (with_reducible refine Kd.C_drewN ?_ _) | (with_reducible refine Kd.C_drew ?_)))
            (case side4 => exact (Kd.R_reads' HO729.out).2.1)
            rintro e w64 ⟨rfl, hb⟩
            refine ⟨_, rfl, ?_⟩
            have n0_ := Aside0.mk (Kd.R_below (by (with_reducible repeat (first | apply Kd.R_alloc | apply Kd.R_drewN | apply Kd.R_drew)); exact HO_711002.out) hb)
            have n1_ := Aside0.mk (Kd.R_below (by (with_reducible repeat (first | apply Kd.R_alloc | apply Kd.R_drewN | apply Kd.R_drew)); exact HO_717002.out) hb)
            have n2_ := Aside0.mk (Kd.R_below (by (with_reducible repeat (first | apply Kd.R_alloc | apply Kd.R_drewN | apply Kd.R_drew)); exact HO_724002.out) hb)
            have n3_ := Aside0.mk (Kd.R_below (by (with_reducible repeat (first | apply Kd.R_alloc | apply Kd.R_drewN | apply Kd.R_drew)); exact HO729.out) hb)
            have n4_ := Aside0.mk (blk_below (g := gb697) (o := .cells #[.int .i64 a0_0, .int .i64 a0_1, .slice A0_2 l0_2.length c0_2] 55 (0, 0)) (by (with_reducible repeat (first | refine blk_drewN ?_ _ | refine blk_drew ?_ | refine blk_alloc ?_ _)); exact BK697.out) hb)
            have n5_ := Aside0.mk (blk_below (g := gb710) (o := .cells #[.int .i64 t704, .int .i64 t705, .slice Ao22 t706.length co22] 26 (0, 0)) (by (with_reducible repeat (first | refine blk_drewN ?_ _ | refine blk_drew ?_ | refine blk_alloc ?_ _)); exact BK710.out) hb)
            have n6_ := Aside0.mk (blk_below (g := gb716) (o := .cells #[.int .i64 t711, .int .i64 t712, .slice Ao29 t713.length co29] 26 (0, 0)) (by (with_reducible repeat (first | refine blk_drewN ?_ _ | refine blk_drew ?_ | refine blk_alloc ?_ _)); exact BK716.out) hb)
            have n7_ := Aside0.mk (blk_below (g := gb723) (o := .cells #[.int .i64 t717, .int .i64 t718, .slice Ao36 t719.length co36] 26 (0, 0)) (by (with_reducible repeat (first | refine blk_drewN ?_ _ | refine blk_drew ?_ | refine blk_alloc ?_ _)); exact BK723.out) hb)
            have n8_ := Aside0.mk (below_step (by repeat (first | (with_reducible first | exact HB.out | apply below_alloc | apply pw_below_drewN | apply below_drew1 | refine below_set ?_ GE697.out | refine below_set ?_ GE710.out | refine below_set ?_ GE716.out | refine below_set ?_ GE723.out) | exact HB.out)) hb)
            clear HO_711002
            clear HO_717002
            clear HO_724002
            clear HO729
            clear BK697
            clear BK710
            clear BK716
            clear BK723
            clear HB
            have HO_711002 := n0_
            have HO_717002 := n1_
            have HO_724002 := n2_
            have HO729 := n3_
            have BK697 := n4_
            have BK710 := n5_
            have BK716 := n6_
            have BK723 := n7_
            have HB := n8_
            clear n0_ n1_ n2_ n3_ n4_ n5_ n6_ n7_ n8_
            (try clear hb)
            (try clear hb2)
            (try clear hk)
            (try clear hi)
            refine hK.out _ _ ⟨(blk_cell BK716.out 0).trans rfl, (blk_cell BK716.out 1).trans rfl, (blk_cell BK716.out 2).trans rfl, (blk_cell BK697.out 0).trans rfl, (blk_cell BK697.out 1).trans rfl, (blk_cell BK697.out 2).trans rfl⟩ (fun hHeld => ?_)
            clear hK K
            refine norm_ (a' := ?_) ?_ ?_
            rotate_left
            · show Act.put _ (some 44) _ = _
              simp only [Act.put, List.setIfInBounds_toArray, List.set_cons_zero, List.set_cons_succ, i64_w, i32_w]
              rfl
            refine pure_ (i := 4) (N := some 45) (v := ?_) (a' := ?_) #[true, true, true, true, true] rfl rfl (by kernel_rfl) (fun _ _ _ h => h) (Or.inl ⟨by rfl, ?_⟩) ?_ ?_
            rotate_left
            · intro w'
              go_simp
              with_reducible rfl
            rotate_left
            · simp only [Act.put, List.setIfInBounds_toArray, List.set_cons_zero, List.set_cons_succ, i64_w, i32_w]
              rfl
            refine done_ (by kernel_rfl) ?_
            have hnb65 := NB716_697.out
            have hnc65 := NB697_716.out
            have hnb66 := NB716_710.out
            have hnc66 := NB710_716.out
            have hnb67 := NB716_723.out
            have hnc67 := NB723_716.out
            have hcz68_0 : w64.cell? ⟨gb716, 0, none⟩ = some (.int .i64 t711) := (blk_cell BK716.out 0).trans rfl
            have hcz68_1 : w64.cell? ⟨gb716, 1, none⟩ = some (.int .i64 t712) := (blk_cell BK716.out 1).trans rfl
            have hcz68_2 : w64.cell? ⟨gb716, 2, none⟩ = some (.slice Ao29 t713.length co29) := (blk_cell BK716.out 2).trans rfl
            have hfz68_0 := blk_frozen BK716.out 0
            have hfz68_1 := blk_frozen BK716.out 1
            have hfz68_2 := blk_frozen BK716.out 2
            go_upto_region 14 with (first | ((with_reducible refine gate_callee (f := 35) rfl ?_); refine goesL_ (some 48) rfl rfl Try.func35 (by kernel_rfl) rfl #[.agg #[.int .i64 t711, .int .i64 t712, .slice Ao29 t713.length co29], .int .i64 1] rfl (by (try simp only [List.map_toArray, List.map_cons, List.map_nil]); first | done | rfl | (simp only [List.length_drop, List.length_take]; rfl)) ?_; (with_reducible refine (laws_markMatrix.calls kj10 t711 t712 (fun k_ => some k_ = (.slice Ao29 t713.length co29 : Value).ownBlock) (.slice Ao29 t713.length co29) t713 1 t731 t732 w _ ?side1 ?side2 A59.out).mono ?_); (case side1 => repeat (first | (with_reducible first | exact HB.out | apply below_alloc | apply pw_below_drewN | apply below_drew1 | refine below_set ?_ GE697.out | refine below_set ?_ GE710.out | refine below_set ?_ GE716.out | refine below_set ?_ GE723.out) | exact HB.out)); (case side2 => exact Kd.R_tight rfl HO_717002.out); rintro e w69 ⟨rfl, hy0, hb, hkp⟩; refine ⟨_, rfl, ?_⟩; have n0_ := Aside0.mk (Kd.R_mono (ok' := fun k_ => some k_ ≠ (.slice Ao29 t713.length co29 : Value).ownBlock ∧ some k_ ≠ (.slice Ao36 t719.length co36 : Value).ownBlock ∧ some k_ ≠ (.slice Ao63 t727.length co63 : Value).ownBlock) (Kd.R_keptB (HO_711002.out) hkp (fun k_ hk_ hs_ => (hk_.1.1) hs_)) (fun k_ hk_ => ⟨hk_.1.1.1, hk_.1.1.2, hk_.1.2⟩)); have n1_ := Aside0.mk (Kd.R_reok rfl hy0 (fun k_ e_ => HO_717002.out.1 k_ e_)); have n2_ := Aside0.mk (Kd.R_mono (ok' := fun k_ => some k_ ≠ (.slice Ao22 t706.length co22 : Value).ownBlock ∧ some k_ ≠ (.slice Ao29 t713.length co29 : Value).ownBlock ∧ some k_ ≠ (.slice Ao63 t727.length co63 : Value).ownBlock) (Kd.R_keptB (HO_724002.out) hkp (fun k_ hk_ hs_ => (hk_.1.2) hs_)) (fun k_ hk_ => ⟨hk_.1.1.1, hk_.1.1.2, hk_.1.2⟩)); have n3_ := Aside0.mk (blk_kept (by (with_reducible repeat (first | refine blk_drewN ?_ _ | refine blk_drew ?_ | refine blk_alloc ?_ _)); exact BK697.out) hkp (fun hs_ => (fun e_ => (Kd.R_ne HO_717002.out BK697.out (by decide)) e_) hs_)); have n4_ := Aside0.mk (blk_kept (by (with_reducible repeat (first | refine blk_drewN ?_ _ | refine blk_drew ?_ | refine blk_alloc ?_ _)); exact BK710.out) hkp (fun hs_ => (fun e_ => (Kd.R_ne HO_717002.out BK710.out (by decide)) e_) hs_)); have n5_ := Aside0.mk (blk_kept (by (with_reducible repeat (first | refine blk_drewN ?_ _ | refine blk_drew ?_ | refine blk_alloc ?_ _)); exact BK716.out) hkp (fun hs_ => (fun e_ => (Kd.R_ne HO_717002.out BK716.out (by decide)) e_) hs_)); have n6_ := Aside0.mk (blk_kept (by (with_reducible repeat (first | refine blk_drewN ?_ _ | refine blk_drew ?_ | refine blk_alloc ?_ _)); exact BK723.out) hkp (fun hs_ => (fun e_ => (Kd.R_ne HO_717002.out BK723.out (by decide)) e_) hs_)); have n7_ := Aside0.mk (Kd.R_mono (ok' := fun k_ => some k_ ≠ (.slice Ao22 t706.length co22 : Value).ownBlock ∧ some k_ ≠ (.slice Ao29 t713.length co29 : Value).ownBlock ∧ some k_ ≠ (.slice Ao36 t719.length co36 : Value).ownBlock) (Kd.R_keptB (HO729.out) hkp (fun k_ hk_ hs_ => (hk_.1.2) hs_)) (fun k_ hk_ => ⟨hk_.1.1.1.2, hk_.1.1.2, hk_.1.2⟩)); have n8_ := Aside0.mk (hb); clear HO_711002; clear HO_717002; clear HO_724002; clear BK697; clear BK710; clear BK716; clear BK723; clear HO729; clear HB; have HO_711002 := n0_; have HO_717002 := n1_; have HO_724002 := n2_; have BK697 := n3_; have BK710 := n4_; have BK716 := n5_; have BK723 := n6_; have HO729 := n7_; have HB := n8_; clear n0_ n1_ n2_ n3_ n4_ n5_ n6_ n7_ n8_; (try clear hb); (try clear hkp); (try clear hy0)))
            (try simp only [Act.put, List.setIfInBounds_toArray, List.set_cons_zero, List.set_cons_succ])
            go_cut [61] (fun v61 wc => ∃ (kq : Nat) (x61_59 : Bool), v61 = .bool x61_59 ∧ Aside0 (laws_FnExactDoubleMatrix.j1 kq t709 x61_59 a0_0 a0_1 l0_2 t704 t705 t706 t717 t718 t719 = some r) ∧ Aside0 (kq ≤ kj10) ∧ Aside0 (Kd.R (Kd.int .i64) 3 wc w.heap.size (fun k_ => some k_ ≠ ((.slice Ao29 t713.length co29) : Value).ownBlock ∧ some k_ ≠ ((.slice Ao36 t719.length co36) : Value).ownBlock) (.slice Ao22 t706.length co22) t706) ∧ Aside0 (Kd.R (Kd.int .i64) 3 wc w.heap.size (fun k_ => some k_ ≠ ((.slice Ao22 t706.length co22) : Value).ownBlock ∧ some k_ ≠ ((.slice Ao36 t719.length co36) : Value).ownBlock) (.slice Ao29 t713.length co29) t732) ∧ Aside0 (Kd.R (Kd.int .i64) 3 wc w.heap.size (fun k_ => some k_ ≠ ((.slice Ao22 t706.length co22) : Value).ownBlock ∧ some k_ ≠ ((.slice Ao29 t713.length co29) : Value).ownBlock) (.slice Ao36 t719.length co36) t719) ∧ Aside0 (wc.heap[gb697]? = some (.cells #[.int .i64 a0_0, .int .i64 a0_1, (.slice A0_2 l0_2.length c0_2)] 55 (0, 0))) ∧ Aside0 (wc.heap[gb710]? = some (.cells #[.int .i64 t704, .int .i64 t705, (.slice Ao22 t706.length co22)] 26 (0, 0))) ∧ Aside0 (wc.heap[gb716]? = some (.cells #[.int .i64 t711, .int .i64 t712, (.slice Ao29 t713.length co29)] 26 (0, 0))) ∧ Aside0 (wc.heap[gb723]? = some (.cells #[.int .i64 t717, .int .i64 t718, (.slice Ao36 t719.length co36)] 26 (0, 0))) ∧ Aside0 (Below w.heap.size w wc))
            case first =>
              have H := HC60.out
              clear HC60
              by_cases c70 : t731 < 0
              · rw [if_pos c70] at H
                have c70b0 : decide (t731 < 0) = true := decide_eq_true c70
                clear c70
                (first | rw [c70b0] | (simp only [i64_w, i32_w]; rw [c70b0]) | skip)
                have H' := Aside0.mk H
                clear H
                go_wp2
                go_meet
                case rel => exact ⟨_, (true), (by first | rfl | (simp; done) | (simp [*]; done)), H', ⟨by have := HJ10.out; first | omega | exact Nat.le_refl _⟩, ⟨by (with_reducible repeat (first | apply Kd.R_alloc | apply Kd.R_drewN | apply Kd.R_drew)); exact Kd.R_mono HO_711002.out (fun _ hk => ⟨hk.1, hk.2.1⟩)⟩, ⟨by (with_reducible repeat (first | apply Kd.R_alloc | apply Kd.R_drewN | apply Kd.R_drew)); exact Kd.R_mono HO_717002.out (fun _ hk => ⟨hk.1.1, hk.1.2⟩)⟩, ⟨by (with_reducible repeat (first | apply Kd.R_alloc | apply Kd.R_drewN | apply Kd.R_drew)); exact Kd.R_mono HO_724002.out (fun _ hk => ⟨hk.1, hk.2.1⟩)⟩, ⟨by (with_reducible repeat (first | refine blk_drewN ?_ _ | refine blk_drew ?_ | refine blk_alloc ?_ _)); exact BK697.out⟩, ⟨by (with_reducible repeat (first | refine blk_drewN ?_ _ | refine blk_drew ?_ | refine blk_alloc ?_ _)); exact BK710.out⟩, ⟨by (with_reducible repeat (first | refine blk_drewN ?_ _ | refine blk_drew ?_ | refine blk_alloc ?_ _)); exact BK716.out⟩, ⟨by (with_reducible repeat (first | refine blk_drewN ?_ _ | refine blk_drew ?_ | refine blk_alloc ?_ _)); exact BK723.out⟩, ⟨by repeat (first | (with_reducible first | exact HB.out | apply below_alloc | apply pw_below_drewN | apply below_drew1 | refine below_set ?_ GE697.out | refine below_set ?_ GE710.out | refine below_set ?_ GE716.out | refine below_set ?_ GE723.out) | exact HB.out)⟩⟩
              · rw [if_neg c70] at H
                have c70b0 : decide (t731 < 0) = false := decide_eq_false c70
                clear c70
                (first | rw [c70b0] | (simp only [i64_w, i32_w]; rw [c70b0]) | skip)
                replace H := Option.bind_eq_some_iff.mp H
                obtain ⟨t733, A710, H⟩ := H
                replace H : (if t733 = true then (laws_FnExactDoubleMatrix.j1 kj10 t709 (t722 != t709) a0_0 a0_1 l0_2 t704 t705 t706 t717 t718 t719) else (laws_FnExactDoubleMatrix.j1 kj10 t709 true a0_0 a0_1 l0_2 t704 t705 t706 t717 t718 t719)) = some r := H
                have A71 := Aside0.mk A710
                clear A710
                by_cases c72 : t733 = true
                · subst c72
                  have H1 : (laws_FnExactDoubleMatrix.j1 kj10 t709 (t722 != t709) a0_0 a0_1 l0_2 t704 t705 t706 t717 t718 t719) = some r := by rw [if_pos rfl] at H; exact H
                  clear H
                  have H := H1
                  clear H1
                  have H' := Aside0.mk H
                  clear H
                  have hnb73 := NB723_697.out
                  have hnc73 := NB697_723.out
                  have hnb74 := NB723_710.out
                  have hnc74 := NB710_723.out
                  have hnb75 := NB723_716.out
                  have hnc75 := NB716_723.out
                  have hcz76_0 : w69.cell? ⟨gb723, 0, none⟩ = some (.int .i64 t717) := (blk_cell BK723.out 0).trans rfl
                  have hcz76_1 : w69.cell? ⟨gb723, 1, none⟩ = some (.int .i64 t718) := (blk_cell BK723.out 1).trans rfl
                  have hcz76_2 : w69.cell? ⟨gb723, 2, none⟩ = some (.slice Ao36 t719.length co36) := (blk_cell BK723.out 2).trans rfl
                  have hfz76_0 := blk_frozen BK723.out 0
                  have hfz76_1 := blk_frozen BK723.out 1
                  have hfz76_2 := blk_frozen BK723.out 2
                  have hnb77 := NB710_697.out
                  have hnc77 := NB697_710.out
                  have hnb78 := NB710_716.out
                  have hnc78 := NB716_710.out
                  have hcz79_0 : w69.cell? ⟨gb710, 0, none⟩ = some (.int .i64 t704) := (blk_cell BK710.out 0).trans rfl
                  have hcz79_1 : w69.cell? ⟨gb710, 1, none⟩ = some (.int .i64 t705) := (blk_cell BK710.out 1).trans rfl
                  have hcz79_2 : w69.cell? ⟨gb710, 2, none⟩ = some (.slice Ao22 t706.length co22) := (blk_cell BK710.out 2).trans rfl
                  have hfz79_0 := blk_frozen BK710.out 0
                  have hfz79_1 := blk_frozen BK710.out 1
                  have hfz79_2 := blk_frozen BK710.out 2
                  go_wp2_with (first | (go_at_call 34; (with_reducible refine (laws_eqMatrix.calls kj10 t717 t718 _ _ t719 t704 t705 _ _ t706 true _ ?side1 ?side2 ?side3 ?side4 A71.out).mono ?_); (case side1 => repeat (first | exact (Kd.R_reads' HO_724002.out).2.2 | (with_reducible refine Kd.C_alloc ?_ _) | (with_reducible refine Kd.C_drewN ?_ _) | (with_reducible refine Kd.C_drew ?_))); (case side2 => exact (Kd.R_reads' HO_724002.out).2.1); (case side3 => repeat (first | exact (Kd.R_reads' HO_711002.out).2.2 | (with_reducible refine Kd.C_alloc ?_ _) | (with_reducible refine Kd.C_drewN ?_ _) | (with_reducible refine Kd.C_drew ?_))); (case side4 => exact (Kd.R_reads' HO_711002.out).2.1); rintro e w80 ⟨rfl, hb⟩; have n0_ := Aside0.mk (Kd.R_below (by (with_reducible repeat (first | apply Kd.R_alloc | apply Kd.R_drewN | apply Kd.R_drew)); exact HO_711002.out) hb); have n1_ := Aside0.mk (Kd.R_below (by (with_reducible repeat (first | apply Kd.R_alloc | apply Kd.R_drewN | apply Kd.R_drew)); exact HO_717002.out) hb); have n2_ := Aside0.mk (Kd.R_below (by (with_reducible repeat (first | apply Kd.R_alloc | apply Kd.R_drewN | apply Kd.R_drew)); exact HO_724002.out) hb); have n3_ := Aside0.mk (Kd.R_below (by (with_reducible repeat (first | apply Kd.R_alloc | apply Kd.R_drewN | apply Kd.R_drew)); exact HO729.out) hb); have n4_ := Aside0.mk (blk_below (g := gb697) (o := .cells #[.int .i64 a0_0, .int .i64 a0_1, .slice A0_2 l0_2.length c0_2] 55 (0, 0)) (by (with_reducible repeat (first | refine blk_drewN ?_ _ | refine blk_drew ?_ | refine blk_alloc ?_ _)); exact BK697.out) hb); have n5_ := Aside0.mk (blk_below (g := gb710) (o := .cells #[.int .i64 t704, .int .i64 t705, .slice Ao22 t706.length co22] 26 (0, 0)) (by (with_reducible repeat (first | refine blk_drewN ?_ _ | refine blk_drew ?_ | refine blk_alloc ?_ _)); exact BK710.out) hb); have n6_ := Aside0.mk (blk_below (g := gb716) (o := .cells #[.int .i64 t711, .int .i64 t712, .slice Ao29 t713.length co29] 26 (0, 0)) (by (with_reducible repeat (first | refine blk_drewN ?_ _ | refine blk_drew ?_ | refine blk_alloc ?_ _)); exact BK716.out) hb); have n7_ := Aside0.mk (blk_below (g := gb723) (o := .cells #[.int .i64 t717, .int .i64 t718, .slice Ao36 t719.length co36] 26 (0, 0)) (by (with_reducible repeat (first | refine blk_drewN ?_ _ | refine blk_drew ?_ | refine blk_alloc ?_ _)); exact BK723.out) hb); have n8_ := Aside0.mk (below_step (by repeat (first | (with_reducible first | exact HB.out | apply below_alloc | apply pw_below_drewN | apply below_drew1 | refine below_set ?_ GE697.out | refine below_set ?_ GE710.out | refine below_set ?_ GE716.out | refine below_set ?_ GE723.out) | exact HB.out)) hb); clear HO_711002; clear HO_717002; clear HO_724002; clear HO729; clear BK697; clear BK710; clear BK716; clear BK723; clear HB; have HO_711002 := n0_; have HO_717002 := n1_; have HO_724002 := n2_; have HO729 := n3_; have BK697 := n4_; have BK710 := n5_; have BK716 := n6_; have BK723 := n7_; have HB := n8_; clear n0_ n1_ n2_ n3_ n4_ n5_ n6_ n7_ n8_; (try clear hb); (try clear hb2); (try clear hk); (try clear hi)))
                  go_meet
                  case rel => exact ⟨_, ((t722 != t709)), (by first | rfl | (simp; done) | (simp [*]; done)), H', ⟨by have := HJ10.out; first | omega | exact Nat.le_refl _⟩, ⟨by (with_reducible repeat (first | apply Kd.R_alloc | apply Kd.R_drewN | apply Kd.R_drew)); exact Kd.R_mono HO_711002.out (fun _ hk => ⟨hk.1, hk.2.1⟩)⟩, ⟨by (with_reducible repeat (first | apply Kd.R_alloc | apply Kd.R_drewN | apply Kd.R_drew)); exact Kd.R_mono HO_717002.out (fun _ hk => ⟨hk.1.1, hk.1.2⟩)⟩, ⟨by (with_reducible repeat (first | apply Kd.R_alloc | apply Kd.R_drewN | apply Kd.R_drew)); exact Kd.R_mono HO_724002.out (fun _ hk => ⟨hk.1, hk.2.1⟩)⟩, ⟨by (with_reducible repeat (first | refine blk_drewN ?_ _ | refine blk_drew ?_ | refine blk_alloc ?_ _)); exact BK697.out⟩, ⟨by (with_reducible repeat (first | refine blk_drewN ?_ _ | refine blk_drew ?_ | refine blk_alloc ?_ _)); exact BK710.out⟩, ⟨by (with_reducible repeat (first | refine blk_drewN ?_ _ | refine blk_drew ?_ | refine blk_alloc ?_ _)); exact BK716.out⟩, ⟨by (with_reducible repeat (first | refine blk_drewN ?_ _ | refine blk_drew ?_ | refine blk_alloc ?_ _)); exact BK723.out⟩, ⟨by repeat (first | (with_reducible first | exact HB.out | apply below_alloc | apply pw_below_drewN | apply below_drew1 | refine below_set ?_ GE697.out | refine below_set ?_ GE710.out | refine below_set ?_ GE716.out | refine below_set ?_ GE723.out) | exact HB.out)⟩⟩
                · replace c72 := Bool.eq_false_iff.mpr c72
                  subst c72
                  have H1 : (laws_FnExactDoubleMatrix.j1 kj10 t709 true a0_0 a0_1 l0_2 t704 t705 t706 t717 t718 t719) = some r := by rw [if_neg (show ¬ (false = true) by decide)] at H; exact H
                  clear H
                  have H := H1
                  clear H1
                  have H' := Aside0.mk H
                  clear H
                  have hnb81 := NB723_697.out
                  have hnc81 := NB697_723.out
                  have hnb82 := NB723_710.out
                  have hnc82 := NB710_723.out
                  have hnb83 := NB723_716.out
                  have hnc83 := NB716_723.out
                  have hcz84_0 : w69.cell? ⟨gb723, 0, none⟩ = some (.int .i64 t717) := (blk_cell BK723.out 0).trans rfl
                  have hcz84_1 : w69.cell? ⟨gb723, 1, none⟩ = some (.int .i64 t718) := (blk_cell BK723.out 1).trans rfl
                  have hcz84_2 : w69.cell? ⟨gb723, 2, none⟩ = some (.slice Ao36 t719.length co36) := (blk_cell BK723.out 2).trans rfl
                  have hfz84_0 := blk_frozen BK723.out 0
                  have hfz84_1 := blk_frozen BK723.out 1
                  have hfz84_2 := blk_frozen BK723.out 2
                  have hnb85 := NB710_697.out
                  have hnc85 := NB697_710.out
                  have hnb86 := NB710_716.out
                  have hnc86 := NB716_710.out
                  have hcz87_0 : w69.cell? ⟨gb710, 0, none⟩ = some (.int .i64 t704) := (blk_cell BK710.out 0).trans rfl
                  have hcz87_1 : w69.cell? ⟨gb710, 1, none⟩ = some (.int .i64 t705) := (blk_cell BK710.out 1).trans rfl
                  have hcz87_2 : w69.cell? ⟨gb710, 2, none⟩ = some (.slice Ao22 t706.length co22) := (blk_cell BK710.out 2).trans rfl
                  have hfz87_0 := blk_frozen BK710.out 0
                  have hfz87_1 := blk_frozen BK710.out 1
                  have hfz87_2 := blk_frozen BK710.out 2
                  go_wp2_with (first | (go_at_call 34; (with_reducible refine (laws_eqMatrix.calls kj10 t717 t718 _ _ t719 t704 t705 _ _ t706 false _ ?side1 ?side2 ?side3 ?side4 A71.out).mono ?_); (case side1 => repeat (first | exact (Kd.R_reads' HO_724002.out).2.2 | (with_reducible refine Kd.C_alloc ?_ _) | (with_reducible refine Kd.C_drewN ?_ _) | (with_reducible refine Kd.C_drew ?_))); (case side2 => exact (Kd.R_reads' HO_724002.out).2.1); (case side3 => repeat (first | exact (Kd.R_reads' HO_711002.out).2.2 | (with_reducible refine Kd.C_alloc ?_ _) | (with_reducible refine Kd.C_drewN ?_ _) | (with_reducible refine Kd.C_drew ?_))); (case side4 => exact (Kd.R_reads' HO_711002.out).2.1); rintro e w88 ⟨rfl, hb⟩; have n0_ := Aside0.mk (Kd.R_below (by (with_reducible repeat (first | apply Kd.R_alloc | apply Kd.R_drewN | apply Kd.R_drew)); exact HO_711002.out) hb); have n1_ := Aside0.mk (Kd.R_below (by (with_reducible repeat (first | apply Kd.R_alloc | apply Kd.R_drewN | apply Kd.R_drew)); exact HO_717002.out) hb); have n2_ := Aside0.mk (Kd.R_below (by (with_reducible repeat (first | apply Kd.R_alloc | apply Kd.R_drewN | apply Kd.R_drew)); exact HO_724002.out) hb); have n3_ := Aside0.mk (Kd.R_below (by (with_reducible repeat (first | apply Kd.R_alloc | apply Kd.R_drewN | apply Kd.R_drew)); exact HO729.out) hb); have n4_ := Aside0.mk (blk_below (g := gb697) (o := .cells #[.int .i64 a0_0, .int .i64 a0_1, .slice A0_2 l0_2.length c0_2] 55 (0, 0)) (by (with_reducible repeat (first | refine blk_drewN ?_ _ | refine blk_drew ?_ | refine blk_alloc ?_ _)); exact BK697.out) hb); have n5_ := Aside0.mk (blk_below (g := gb710) (o := .cells #[.int .i64 t704, .int .i64 t705, .slice Ao22 t706.length co22] 26 (0, 0)) (by (with_reducible repeat (first | refine blk_drewN ?_ _ | refine blk_drew ?_ | refine blk_alloc ?_ _)); exact BK710.out) hb); have n6_ := Aside0.mk (blk_below (g := gb716) (o := .cells #[.int .i64 t711, .int .i64 t712, .slice Ao29 t713.length co29] 26 (0, 0)) (by (with_reducible repeat (first | refine blk_drewN ?_ _ | refine blk_drew ?_ | refine blk_alloc ?_ _)); exact BK716.out) hb); have n7_ := Aside0.mk (blk_below (g := gb723) (o := .cells #[.int .i64 t717, .int .i64 t718, .slice Ao36 t719.length co36] 26 (0, 0)) (by (with_reducible repeat (first | refine blk_drewN ?_ _ | refine blk_drew ?_ | refine blk_alloc ?_ _)); exact BK723.out) hb); have n8_ := Aside0.mk (below_step (by repeat (first | (with_reducible first | exact HB.out | apply below_alloc | apply pw_below_drewN | apply below_drew1 | refine below_set ?_ GE697.out | refine below_set ?_ GE710.out | refine below_set ?_ GE716.out | refine below_set ?_ GE723.out) | exact HB.out)) hb); clear HO_711002; clear HO_717002; clear HO_724002; clear HO729; clear BK697; clear BK710; clear BK716; clear BK723; clear HB; have HO_711002 := n0_; have HO_717002 := n1_; have HO_724002 := n2_; have HO729 := n3_; have BK697 := n4_; have BK710 := n5_; have BK716 := n6_; have BK723 := n7_; have HB := n8_; clear n0_ n1_ n2_ n3_ n4_ n5_ n6_ n7_ n8_; (try clear hb); (try clear hb2); (try clear hk); (try clear hi)))
                  go_meet
                  case rel => exact ⟨_, (true), (by first | rfl | (simp; done) | (simp [*]; done)), H', ⟨by have := HJ10.out; first | omega | exact Nat.le_refl _⟩, ⟨by (with_reducible repeat (first | apply Kd.R_alloc | apply Kd.R_drewN | apply Kd.R_drew)); exact Kd.R_mono HO_711002.out (fun _ hk => ⟨hk.1, hk.2.1⟩)⟩, ⟨by (with_reducible repeat (first | apply Kd.R_alloc | apply Kd.R_drewN | apply Kd.R_drew)); exact Kd.R_mono HO_717002.out (fun _ hk => ⟨hk.1.1, hk.1.2⟩)⟩, ⟨by (with_reducible repeat (first | apply Kd.R_alloc | apply Kd.R_drewN | apply Kd.R_drew)); exact Kd.R_mono HO_724002.out (fun _ hk => ⟨hk.1, hk.2.1⟩)⟩, ⟨by (with_reducible repeat (first | refine blk_drewN ?_ _ | refine blk_drew ?_ | refine blk_alloc ?_ _)); exact BK697.out⟩, ⟨by (with_reducible repeat (first | refine blk_drewN ?_ _ | refine blk_drew ?_ | refine blk_alloc ?_ _)); exact BK710.out⟩, ⟨by (with_reducible repeat (first | refine blk_drewN ?_ _ | refine blk_drew ?_ | refine blk_alloc ?_ _)); exact BK716.out⟩, ⟨by (with_reducible repeat (first | refine blk_drewN ?_ _ | refine blk_drew ?_ | refine blk_alloc ?_ _)); exact BK723.out⟩, ⟨by repeat (first | (with_reducible first | exact HB.out | apply below_alloc | apply pw_below_drewN | apply below_drew1 | refine below_set ?_ GE697.out | refine below_set ?_ GE710.out | refine below_set ?_ GE716.out | refine below_set ?_ GE723.out) | exact HB.out)⟩⟩
            case rest =>
              clear HC60
              try clear c1
              try clear c2
              try clear p2
              try clear c3
              try clear c3b0
              try clear c4
              try clear c5
              try clear c6
              try clear c7
              try clear c8
              try clear c12
              try clear c20
              try clear c26
              try clear c27
              try clear c31
              try clear c32
              try clear c33
              try clear c34
              try clear c35
              try clear c38
              try clear c39
              try clear c40
              try clear c41
              try clear c43
              try clear c44
              try clear c47
              try clear c48
              try clear c49
              try clear c51
              try clear c52
              try clear c55
              try clear c56
              try clear c57
              try clear c58
              try clear c65
              try clear c66
              try clear c67
              try clear c70
              try clear c70b0
              try clear c72
              try clear c73
              try clear c74
              try clear c75
              try clear c77
              try clear c78
              try clear c81
              try clear c82
              try clear c83
              try clear c85
              try clear c86
              try clear hcz13_0
              try clear hcz13_1
              try clear hcz13_2
              try clear hcz15_0
              try clear hcz15_1
              try clear hcz15_2
              try clear hcz21_0
              try clear hcz21_1
              try clear hcz21_2
              try clear hcz23_0
              try clear hcz23_1
              try clear hcz23_2
              try clear hcz28_0
              try clear hcz28_1
              try clear hcz28_2
              try clear hcz35_0
              try clear hcz35_1
              try clear hcz35_2
              try clear hcz42_0
              try clear hcz42_1
              try clear hcz42_2
              try clear hcz45_0
              try clear hcz45_1
              try clear hcz45_2
              try clear hcz50_0
              try clear hcz50_1
              try clear hcz50_2
              try clear hcz53_0
              try clear hcz53_1
              try clear hcz53_2
              try clear hcz5_0
              try clear hcz5_1
              try clear hcz5_2
              try clear hcz68_0
              try clear hcz68_1
              try clear hcz68_2
              try clear hcz76_0
              try clear hcz76_1
              try clear hcz76_2
              try clear hcz79_0
              try clear hcz79_1
              try clear hcz79_2
              try clear hcz84_0
              try clear hcz84_1
              try clear hcz84_2
              try clear hcz87_0
              try clear hcz87_1
              try clear hcz87_2
              try clear hfz13_0
              try clear hfz13_1
              try clear hfz13_2
              try clear hfz15_0
              try clear hfz15_1
              try clear hfz15_2
              try clear hfz21_0
              try clear hfz21_1
              try clear hfz21_2
              try clear hfz23_0
              try clear hfz23_1
              try clear hfz23_2
              try clear hfz28_0
              try clear hfz28_1
              try clear hfz28_2
              try clear hfz35_0
              try clear hfz35_1
              try clear hfz35_2
              try clear hfz42_0
              try clear hfz42_1
              try clear hfz42_2
              try clear hfz45_0
              try clear hfz45_1
              try clear hfz45_2
              try clear hfz50_0
              try clear hfz50_1
              try clear hfz50_2
              try clear hfz53_0
              try clear hfz53_1
              try clear hfz53_2
              try clear hfz5_0
              try clear hfz5_1
              try clear hfz5_2
              try clear hfz68_0
              try clear hfz68_1
              try clear hfz68_2
              try clear hfz76_0
              try clear hfz76_1
              try clear hfz76_2
              try clear hfz79_0
              try clear hfz79_1
              try clear hfz79_2
              try clear hfz84_0
              try clear hfz84_1
              try clear hfz84_2
              try clear hfz87_0
              try clear hfz87_1
              try clear hfz87_2
              try clear p2
              obtain ⟨kq, x61_59, rfl, HA, HJ59, HO_711002, HO_717002, HO_724002, BK697, BK710, BK716, BK723, HB⟩ := hcut
              have hl717002_59 := (Kd.R_reads' HO_717002.out).1
              rw [hl717002_59] at HO_717002
              (try simp only [hl717002_59])
              (try simp only [hl717002_59] at BK697)
              (try simp only [hl717002_59] at BK710)
              (try simp only [hl717002_59] at BK716)
              (try simp only [hl717002_59] at BK723)
              (try simp only [hl717002_59] at HO_711002)
              (try simp only [hl717002_59] at HO_724002)
              cases kq with
              | zero => exact absurd HA.out (by simp [laws_FnExactDoubleMatrix.j1])
              | succ kj59 =>
                have H := HA.out
                clear HA
                simp only [laws_FnExactDoubleMatrix.j1] at H
                by_cases c89 : x61_59 = true
                · subst c89
                  have H1 : (some false) = some r := by rw [if_pos rfl] at H; exact H
                  clear H
                  have H := H1
                  clear H1
                  exact absurd ((Option.some.inj H).trans hT.out) (by decide)
                · replace c89 := Bool.eq_false_iff.mpr c89
                  subst c89
                  have H1 : ((laws_markMatrix.f kj59 t717 t718 t719 1).bind fun bt734 => ((laws_heldMatrix.f kj59 t717 t718 bt734.2 1).bind fun t736 => (if t736 < 0 then (some false) else (if t736 = bt734.1 then ((laws_toMatrix.f kj59 a0_0 a0_1 l0_2).bind fun bt737 => ((impl_DoubleMatrix.f bt737.1 bt737.2.1 bt737.2.2).bind fun bt742 => ((laws_eqMatrix.f kj59 bt742.1 bt742.2.1 bt742.2.2.1 t704 t705 t706).bind fun t749 => (if t749 = true then (laws_FnExactDoubleMatrix.j2 kj59 bt734.1 (bt742.2.2.2 != t709) t717 t718 bt734.2) else (laws_FnExactDoubleMatrix.j2 kj59 bt734.1 true t717 t718 bt734.2))))) else (some false))))) = some r := by rw [if_neg (show ¬ (false = true) by decide)] at H; exact H
                  clear H
                  have H := H1
                  clear H1
                  replace H := Option.bind_eq_some_iff.mp H
                  obtain ⟨⟨t734, t735⟩, A900, H⟩ := H
                  replace H : ((laws_heldMatrix.f kj59 t717 t718 t735 1).bind fun t736 => (if t736 < 0 then (some false) else (if t736 = t734 then ((laws_toMatrix.f kj59 a0_0 a0_1 l0_2).bind fun bt737 => ((impl_DoubleMatrix.f bt737.1 bt737.2.1 bt737.2.2).bind fun bt742 => ((laws_eqMatrix.f kj59 bt742.1 bt742.2.1 bt742.2.2.1 t704 t705 t706).bind fun t749 => (if t749 = true then (laws_FnExactDoubleMatrix.j2 kj59 t734 (bt742.2.2.2 != t709) t717 t718 t735) else (laws_FnExactDoubleMatrix.j2 kj59 t734 true t717 t718 t735))))) else (some false)))) = some r := H
                  have A90 := Aside0.mk A900
                  clear A900
                  replace H := Option.bind_eq_some_iff.mp H
                  obtain ⟨t736, A910, H⟩ := H
                  replace H : (if t736 < 0 then (some false) else (if t736 = t734 then ((laws_toMatrix.f kj59 a0_0 a0_1 l0_2).bind fun bt737 => ((impl_DoubleMatrix.f bt737.1 bt737.2.1 bt737.2.2).bind fun bt742 => ((laws_eqMatrix.f kj59 bt742.1 bt742.2.1 bt742.2.2.1 t704 t705 t706).bind fun t749 => (if t749 = true then (laws_FnExactDoubleMatrix.j2 kj59 t734 (bt742.2.2.2 != t709) t717 t718 t735) else (laws_FnExactDoubleMatrix.j2 kj59 t734 true t717 t718 t735))))) else (some false))) = some r := H
                  have A91 := Aside0.mk A910
                  clear A910
                  by_cases c92 : t736 < 0
                  · rw [if_pos c92] at H
                    have c92b0 : decide (t736 < 0) = true := decide_eq_true c92
                    clear c92
                    exact absurd ((Option.some.inj H).trans hT.out) (by decide)
                  · rw [if_neg c92] at H
                    have c92b0 : decide (t736 < 0) = false := decide_eq_false c92
                    clear c92
                    by_cases c93 : t736 = t734
                    · rw [if_pos c93] at H
                      have c93b0 : (t736 == t734) = true := beq_iff_eq.mpr c93
                      have c93b1 : (t736 != t734) = false := bne_eq_false_iff_eq.mpr c93
                      clear c93
                      replace H := Option.bind_eq_some_iff.mp H
                      obtain ⟨⟨t737, t738, t739⟩, A940, H⟩ := H
                      replace H : ((impl_DoubleMatrix.f t737 t738 t739).bind fun bt742 => ((laws_eqMatrix.f kj59 bt742.1 bt742.2.1 bt742.2.2.1 t704 t705 t706).bind fun t749 => (if t749 = true then (laws_FnExactDoubleMatrix.j2 kj59 t734 (bt742.2.2.2 != t709) t717 t718 t735) else (laws_FnExactDoubleMatrix.j2 kj59 t734 true t717 t718 t735)))) = some r := H
                      have A94 := Aside0.mk A940
                      clear A940
                      replace H := Option.bind_eq_some_iff.mp H
                      obtain ⟨⟨t742, t743, t744, t747⟩, A950, H⟩ := H
                      replace H : ((laws_eqMatrix.f kj59 t742 t743 t744 t704 t705 t706).bind fun t749 => (if t749 = true then (laws_FnExactDoubleMatrix.j2 kj59 t734 (t747 != t709) t717 t718 t735) else (laws_FnExactDoubleMatrix.j2 kj59 t734 true t717 t718 t735))) = some r := H
                      have A95 := Aside0.mk A950
                      clear A950
                      have HC96 := Aside0.mk H
                      clear H
                      have hnb97 := NB723_697.out
                      have hnc97 := NB697_723.out
                      have hnb98 := NB723_710.out
                      have hnc98 := NB710_723.out
                      have hnb99 := NB723_716.out
                      have hnc99 := NB716_723.out
                      have hcz100_0 : wc.cell? ⟨gb723, 0, none⟩ = some (.int .i64 t717) := (blk_cell BK723.out 0).trans rfl
                      have hcz100_1 : wc.cell? ⟨gb723, 1, none⟩ = some (.int .i64 t718) := (blk_cell BK723.out 1).trans rfl
                      have hcz100_2 : wc.cell? ⟨gb723, 2, none⟩ = some (.slice Ao36 t719.length co36) := (blk_cell BK723.out 2).trans rfl
                      have hfz100_0 := blk_frozen BK723.out 0
                      have hfz100_1 := blk_frozen BK723.out 1
                      have hfz100_2 := blk_frozen BK723.out 2
                      go_upto_region 25 with (first | ((with_reducible refine gate_callee (f := 35) rfl ?_); refine goesL_ (some 64) rfl rfl Try.func35 (by kernel_rfl) rfl #[.agg #[.int .i64 t717, .int .i64 t718, .slice Ao36 t719.length co36], .int .i64 1] rfl (by (try simp only [List.map_toArray, List.map_cons, List.map_nil]); first | done | rfl | (simp only [List.length_drop, List.length_take]; rfl)) ?_; (with_reducible refine (laws_markMatrix.calls kj59 t717 t718 (fun k_ => some k_ = (.slice Ao36 t719.length co36 : Value).ownBlock) (.slice Ao36 t719.length co36) t719 1 t734 t735 w _ ?side1 ?side2 A90.out).mono ?_); (case side1 => repeat (first | (with_reducible first | exact HB.out | apply below_alloc | apply pw_below_drewN | apply below_drew1 | refine below_set ?_ GE697.out | refine below_set ?_ GE710.out | refine below_set ?_ GE716.out | refine below_set ?_ GE723.out) | exact HB.out)); (case side2 => exact Kd.R_tight rfl HO_724002.out); rintro e w101 ⟨rfl, hy0, hb, hkp⟩; refine ⟨_, rfl, ?_⟩; have n0_ := Aside0.mk (Kd.R_mono (ok' := fun k_ => some k_ ≠ (.slice Ao29 t732.length co29 : Value).ownBlock ∧ some k_ ≠ (.slice Ao36 t719.length co36 : Value).ownBlock) (Kd.R_keptB (HO_711002.out) hkp (fun k_ hk_ hs_ => (hk_.2) hs_)) (fun k_ hk_ => ⟨hk_.1.1, hk_.1.2⟩)); have n1_ := Aside0.mk (Kd.R_mono (ok' := fun k_ => some k_ ≠ (.slice Ao22 t706.length co22 : Value).ownBlock ∧ some k_ ≠ (.slice Ao36 t719.length co36 : Value).ownBlock) (Kd.R_keptB (HO_717002.out) hkp (fun k_ hk_ hs_ => (hk_.2) hs_)) (fun k_ hk_ => ⟨hk_.1.1, hk_.1.2⟩)); have n2_ := Aside0.mk (Kd.R_reok rfl hy0 (fun k_ e_ => HO_724002.out.1 k_ e_)); have n3_ := Aside0.mk (blk_kept (by (with_reducible repeat (first | refine blk_drewN ?_ _ | refine blk_drew ?_ | refine blk_alloc ?_ _)); exact BK697.out) hkp (fun hs_ => (fun e_ => (Kd.R_ne HO_724002.out BK697.out (by decide)) e_) hs_)); have n4_ := Aside0.mk (blk_kept (by (with_reducible repeat (first | refine blk_drewN ?_ _ | refine blk_drew ?_ | refine blk_alloc ?_ _)); exact BK710.out) hkp (fun hs_ => (fun e_ => (Kd.R_ne HO_724002.out BK710.out (by decide)) e_) hs_)); have n5_ := Aside0.mk (blk_kept (by (with_reducible repeat (first | refine blk_drewN ?_ _ | refine blk_drew ?_ | refine blk_alloc ?_ _)); exact BK716.out) hkp (fun hs_ => (fun e_ => (Kd.R_ne HO_724002.out BK716.out (by decide)) e_) hs_)); have n6_ := Aside0.mk (blk_kept (by (with_reducible repeat (first | refine blk_drewN ?_ _ | refine blk_drew ?_ | refine blk_alloc ?_ _)); exact BK723.out) hkp (fun hs_ => (fun e_ => (Kd.R_ne HO_724002.out BK723.out (by decide)) e_) hs_)); have n7_ := Aside0.mk (hb); clear HO_711002; clear HO_717002; clear HO_724002; clear BK697; clear BK710; clear BK716; clear BK723; clear HB; have HO_711002 := n0_; have HO_717002 := n1_; have HO_724002 := n2_; have BK697 := n3_; have BK710 := n4_; have BK716 := n5_; have BK723 := n6_; have HB := n7_; clear n0_ n1_ n2_ n3_ n4_ n5_ n6_ n7_; (try clear hb); (try clear hkp); (try clear hy0); have hcz102_0 : w101.cell? ⟨gb723, 0, none⟩ = some (.int .i64 t717) := (blk_cell BK723.out 0).trans rfl; have hcz102_1 : w101.cell? ⟨gb723, 1, none⟩ = some (.int .i64 t718) := (blk_cell BK723.out 1).trans rfl; have hcz102_2 : w101.cell? ⟨gb723, 2, none⟩ = some (.slice Ao36 t719.length co36) := (blk_cell BK723.out 2).trans rfl; have hfz102_0 := blk_frozen BK723.out 0; have hfz102_1 := blk_frozen BK723.out 1; have hfz102_2 := blk_frozen BK723.out 2) | ((with_reducible refine gate_callee (f := 36) rfl ?_); refine goesL_ (some 67) rfl rfl Try.func36 (by kernel_rfl) rfl #[.agg #[.int .i64 t717, .int .i64 t718, .slice Ao36 t735.length co36], .int .i64 1] rfl (by (try simp only [List.map_toArray, List.map_cons, List.map_nil]); first | done | (rw [show t735.length = t719.length from (Kd.R_reads' HO_724002.out).1.symm] <;> rfl) | rfl | (simp only [List.length_drop, List.length_take]; rfl)) ?_; (with_reducible refine (laws_heldMatrix.calls kj59 t717 t718 _ _ t735 1 t736 _ ?side1 ?side2 A91.out).mono ?_); (case side1 => repeat (first | exact (Kd.R_reads' HO_724002.out).2.2 | (with_reducible refine Kd.C_alloc ?_ _) | (with_reducible refine Kd.C_drewN ?_ _) | (with_reducible refine Kd.C_drew ?_))); (case side2 => rw [show t735.length = t719.length from (Kd.R_reads' HO_724002.out).1.symm]; exact (Kd.R_reads' HO_724002.out).2.1); rintro e w103 ⟨rfl, hb⟩; refine ⟨_, rfl, ?_⟩; have n0_ := Aside0.mk (Kd.R_below (by (with_reducible repeat (first | apply Kd.R_alloc | apply Kd.R_drewN | apply Kd.R_drew)); exact HO_711002.out) hb); have n1_ := Aside0.mk (Kd.R_below (by (with_reducible repeat (first | apply Kd.R_alloc | apply Kd.R_drewN | apply Kd.R_drew)); exact HO_717002.out) hb); have n2_ := Aside0.mk (Kd.R_below (by (with_reducible repeat (first | apply Kd.R_alloc | apply Kd.R_drewN | apply Kd.R_drew)); exact HO_724002.out) hb); have n3_ := Aside0.mk (blk_below (g := gb697) (o := .cells #[.int .i64 a0_0, .int .i64 a0_1, .slice A0_2 l0_2.length c0_2] 55 (0, 0)) (by (with_reducible repeat (first | refine blk_drewN ?_ _ | refine blk_drew ?_ | refine blk_alloc ?_ _)); exact BK697.out) hb); have n4_ := Aside0.mk (blk_below (g := gb710) (o := .cells #[.int .i64 t704, .int .i64 t705, .slice Ao22 t706.length co22] 26 (0, 0)) (by (with_reducible repeat (first | refine blk_drewN ?_ _ | refine blk_drew ?_ | refine blk_alloc ?_ _)); exact BK710.out) hb); have n5_ := Aside0.mk (blk_below (g := gb716) (o := .cells #[.int .i64 t711, .int .i64 t712, .slice Ao29 t732.length co29] 26 (0, 0)) (by (with_reducible repeat (first | refine blk_drewN ?_ _ | refine blk_drew ?_ | refine blk_alloc ?_ _)); exact BK716.out) hb); have n6_ := Aside0.mk (blk_below (g := gb723) (o := .cells #[.int .i64 t717, .int .i64 t718, .slice Ao36 t719.length co36] 26 (0, 0)) (by (with_reducible repeat (first | refine blk_drewN ?_ _ | refine blk_drew ?_ | refine blk_alloc ?_ _)); exact BK723.out) hb); have n7_ := Aside0.mk (below_step (by repeat (first | (with_reducible first | exact HB.out | apply below_alloc | apply pw_below_drewN | apply below_drew1 | refine below_set ?_ GE697.out | refine below_set ?_ GE710.out | refine below_set ?_ GE716.out | refine below_set ?_ GE723.out) | exact HB.out)) hb); clear HO_711002; clear HO_717002; clear HO_724002; clear BK697; clear BK710; clear BK716; clear BK723; clear HB; have HO_711002 := n0_; have HO_717002 := n1_; have HO_724002 := n2_; have BK697 := n3_; have BK710 := n4_; have BK716 := n5_; have BK723 := n6_; have HB := n7_; clear n0_ n1_ n2_ n3_ n4_ n5_ n6_ n7_; (try clear hb); (try clear hb2); (try clear hk); (try clear hi); have hnb104 := NB697_710.out; have hnc104 := NB710_697.out; have hnb105 := NB697_716.out; have hnc105 := NB716_697.out; have hcz106_0 : w103.cell? ⟨gb697, 0, none⟩ = some (.int .i64 a0_0) := (blk_cell BK697.out 0).trans rfl; have hcz106_1 : w103.cell? ⟨gb697, 1, none⟩ = some (.int .i64 a0_1) := (blk_cell BK697.out 1).trans rfl; have hcz106_2 : w103.cell? ⟨gb697, 2, none⟩ = some (.slice A0_2 l0_2.length c0_2) := (blk_cell BK697.out 2).trans rfl; have hfz106_0 := blk_frozen BK697.out 0; have hfz106_1 := blk_frozen BK697.out 1; have hfz106_2 := blk_frozen BK697.out 2) | ((with_reducible refine gate_callee (f := 58) rfl ?_); refine goesL_ (some 75) rfl rfl Try.func58 (by kernel_rfl) rfl #[.agg #[.int .i64 a0_0, .int .i64 a0_1, .slice A0_2 l0_2.length c0_2]] rfl (by (try simp only [List.map_toArray, List.map_cons, List.map_nil]); first | done | rfl | (simp only [List.length_drop, List.length_take]; rfl)) ?_; (with_reducible refine (laws_toMatrix.calls kj59 a0_0 a0_1 _ _ l0_2 t737 t738 t739 _ ?side1 ?side2 A94.out).mono ?_); (case side1 => repeat (first | exact (Kd.C_below HR0_2.out HB.out) | (with_reducible refine Kd.C_alloc ?_ _) | (with_reducible refine Kd.C_drewN ?_ _) | (with_reducible refine Kd.C_drew ?_))); (case side2 => exact HC0_2.out); rintro e w107 ⟨v740, rfl, ho0, hb⟩; refine ⟨_, rfl, ?_⟩; have n0_ := Aside0.mk (Kd.R_elder' (by (with_reducible repeat (first | apply Kd.R_alloc | apply Kd.R_drewN | apply Kd.R_drew)); exact HO_711002.out) (Kd.R_base ho0) hb); have n1_ := Aside0.mk (Kd.R_elder' (by (with_reducible repeat (first | apply Kd.R_alloc | apply Kd.R_drewN | apply Kd.R_drew)); exact HO_717002.out) (Kd.R_base ho0) hb); have n2_ := Aside0.mk (Kd.R_elder' (by (with_reducible repeat (first | apply Kd.R_alloc | apply Kd.R_drewN | apply Kd.R_drew)); exact HO_724002.out) (Kd.R_base ho0) hb); have n3_ := Aside0.mk (Kd.R_lower (Kd.R_new' (Kd.R_new' (Kd.R_new' ho0 (Kd.R_lt (by (with_reducible repeat (first | apply Kd.R_alloc | apply Kd.R_drewN | apply Kd.R_drew)); exact HO_711002.out))) (Kd.R_lt (by (with_reducible repeat (first | apply Kd.R_alloc | apply Kd.R_drewN | apply Kd.R_drew)); exact HO_717002.out))) (Kd.R_lt (by (with_reducible repeat (first | apply Kd.R_alloc | apply Kd.R_drewN | apply Kd.R_drew)); exact HO_724002.out))) (below_size (by repeat (first | (with_reducible first | exact HB.out | apply below_alloc | apply pw_below_drewN | apply below_drew1 | refine below_set ?_ GE697.out | refine below_set ?_ GE710.out | refine below_set ?_ GE716.out | refine below_set ?_ GE723.out) | exact HB.out)))); have n4_ := Aside0.mk (blk_below (g := gb697) (o := .cells #[.int .i64 a0_0, .int .i64 a0_1, .slice A0_2 l0_2.length c0_2] 55 (0, 0)) (by (with_reducible repeat (first | refine blk_drewN ?_ _ | refine blk_drew ?_ | refine blk_alloc ?_ _)); exact BK697.out) hb); have n5_ := Aside0.mk (blk_below (g := gb710) (o := .cells #[.int .i64 t704, .int .i64 t705, .slice Ao22 t706.length co22] 26 (0, 0)) (by (with_reducible repeat (first | refine blk_drewN ?_ _ | refine blk_drew ?_ | refine blk_alloc ?_ _)); exact BK710.out) hb); have n6_ := Aside0.mk (blk_below (g := gb716) (o := .cells #[.int .i64 t711, .int .i64 t712, .slice Ao29 t732.length co29] 26 (0, 0)) (by (with_reducible repeat (first | refine blk_drewN ?_ _ | refine blk_drew ?_ | refine blk_alloc ?_ _)); exact BK716.out) hb); have n7_ := Aside0.mk (blk_below (g := gb723) (o := .cells #[.int .i64 t717, .int .i64 t718, .slice Ao36 t719.length co36] 26 (0, 0)) (by (with_reducible repeat (first | refine blk_drewN ?_ _ | refine blk_drew ?_ | refine blk_alloc ?_ _)); exact BK723.out) hb); have n8_ := Aside0.mk (below_step (by repeat (first | (with_reducible first | exact HB.out | apply below_alloc | apply pw_below_drewN | apply below_drew1 | refine below_set ?_ GE697.out | refine below_set ?_ GE710.out | refine below_set ?_ GE716.out | refine below_set ?_ GE723.out) | exact HB.out)) hb); clear HO_711002; clear HO_717002; clear HO_724002; clear BK697; clear BK710; clear BK716; clear BK723; clear HB; have HO_711002 := n0_; have HO_717002 := n1_; have HO_724002 := n2_; have HO741 := n3_; have BK697 := n4_; have BK710 := n5_; have BK716 := n6_; have BK723 := n7_; have HB := n8_; clear n0_ n1_ n2_ n3_ n4_ n5_ n6_ n7_ n8_; (try clear hb); (try clear hb2); (try clear hk); (try clear hi); (try clear ho0); obtain ⟨Ao108, co108, eo108⟩ := Kd.R_slice HO741.out; subst eo108) | ((with_reducible refine gate_callee (f := 31) rfl ?_); refine goesL_ (some 76) rfl rfl Try.func31 (by kernel_rfl) rfl #[.agg #[.int .i64 t737, .int .i64 t738, .slice Ao108 t739.length co108]] rfl (by (try simp only [List.map_toArray, List.map_cons, List.map_nil]); first | done | rfl | (simp only [List.length_drop, List.length_take]; rfl)) ?_; (with_reducible refine (impl_DoubleMatrix.calls t737 t738 _ _ t739 t742 t743 t744 t747 _ ?side1 ?side2 A95.out).mono ?_); (case side1 => repeat (first | exact (Kd.R_reads' HO741.out).2.2 | (with_reducible refine Kd.C_alloc ?_ _) | (with_reducible refine Kd.C_drewN ?_ _) | (with_reducible refine Kd.C_drew ?_))); (case side2 => exact (Kd.R_reads' HO741.out).2.1); rintro e w109 ⟨v745, rfl, ho0, hb⟩; refine ⟨_, rfl, ?_⟩; have n0_ := Aside0.mk (Kd.R_elder' (by (with_reducible repeat (first | apply Kd.R_alloc | apply Kd.R_drewN | apply Kd.R_drew)); exact HO_711002.out) (Kd.R_base ho0) hb); have n1_ := Aside0.mk (Kd.R_elder' (by (with_reducible repeat (first | apply Kd.R_alloc | apply Kd.R_drewN | apply Kd.R_drew)); exact HO_717002.out) (Kd.R_base ho0) hb); have n2_ := Aside0.mk (Kd.R_elder' (by (with_reducible repeat (first | apply Kd.R_alloc | apply Kd.R_drewN | apply Kd.R_drew)); exact HO_724002.out) (Kd.R_base ho0) hb); have n3_ := Aside0.mk (Kd.R_elder' (by (with_reducible repeat (first | apply Kd.R_alloc | apply Kd.R_drewN | apply Kd.R_drew)); exact HO741.out) (Kd.R_base ho0) hb); have n4_ := Aside0.mk (Kd.R_lower (Kd.R_new' (Kd.R_new' (Kd.R_new' (Kd.R_new' ho0 (Kd.R_lt (by (with_reducible repeat (first | apply Kd.R_alloc | apply Kd.R_drewN | apply Kd.R_drew)); exact HO_711002.out))) (Kd.R_lt (by (with_reducible repeat (first | apply Kd.R_alloc | apply Kd.R_drewN | apply Kd.R_drew)); exact HO_717002.out))) (Kd.R_lt (by (with_reducible repeat (first | apply Kd.R_alloc | apply Kd.R_drewN | apply Kd.R_drew)); exact HO_724002.out))) (Kd.R_lt (by (with_reducible repeat (first | apply Kd.R_alloc | apply Kd.R_drewN | apply Kd.R_drew)); exact HO741.out))) (below_size (by repeat (first | (with_reducible first | exact HB.out | apply below_alloc | apply pw_below_drewN | apply below_drew1 | refine below_set ?_ GE697.out | refine below_set ?_ GE710.out | refine below_set ?_ GE716.out | refine below_set ?_ GE723.out) | exact HB.out)))); have n5_ := Aside0.mk (blk_below (g := gb697) (o := .cells #[.int .i64 a0_0, .int .i64 a0_1, .slice A0_2 l0_2.length c0_2] 55 (0, 0)) (by (with_reducible repeat (first | refine blk_drewN ?_ _ | refine blk_drew ?_ | refine blk_alloc ?_ _)); exact BK697.out) hb); have n6_ := Aside0.mk (blk_below (g := gb710) (o := .cells #[.int .i64 t704, .int .i64 t705, .slice Ao22 t706.length co22] 26 (0, 0)) (by (with_reducible repeat (first | refine blk_drewN ?_ _ | refine blk_drew ?_ | refine blk_alloc ?_ _)); exact BK710.out) hb); have n7_ := Aside0.mk (blk_below (g := gb716) (o := .cells #[.int .i64 t711, .int .i64 t712, .slice Ao29 t732.length co29] 26 (0, 0)) (by (with_reducible repeat (first | refine blk_drewN ?_ _ | refine blk_drew ?_ | refine blk_alloc ?_ _)); exact BK716.out) hb); have n8_ := Aside0.mk (blk_below (g := gb723) (o := .cells #[.int .i64 t717, .int .i64 t718, .slice Ao36 t719.length co36] 26 (0, 0)) (by (with_reducible repeat (first | refine blk_drewN ?_ _ | refine blk_drew ?_ | refine blk_alloc ?_ _)); exact BK723.out) hb); have n9_ := Aside0.mk (below_step (by repeat (first | (with_reducible first | exact HB.out | apply below_alloc | apply pw_below_drewN | apply below_drew1 | refine below_set ?_ GE697.out | refine below_set ?_ GE710.out | refine below_set ?_ GE716.out | refine below_set ?_ GE723.out) | exact HB.out)) hb); clear HO_711002; clear HO_717002; clear HO_724002; clear HO741; clear BK697; clear BK710; clear BK716; clear BK723; clear HB; have HO_711002 := n0_; have HO_717002 := n1_; have HO_724002 := n2_; have HO741 := n3_; have HO746 := n4_; have BK697 := n5_; have BK710 := n6_; have BK716 := n7_; have BK723 := n8_; have HB := n9_; clear n0_ n1_ n2_ n3_ n4_ n5_ n6_ n7_ n8_ n9_; (try clear hb); (try clear hb2); (try clear hk); (try clear hi); (try clear ho0)) | ((with_reducible refine gate_dst (N := 12) rfl ?_); refine box_event ?hg (N := 12) ?hd (cs := #[.int .i64 0, .int .i64 0, .slice none 0 0]) (t := 26) ?hr ?_; (case hd => rfl); (case hg => rfl); (case hr => first | (go_simp; done) | (go_simp; rfl)); intro gb748 hg w110 hbox hb; have n0_ := Aside0.mk (Kd.R_below (by (with_reducible repeat (first | apply Kd.R_alloc | apply Kd.R_drewN | apply Kd.R_drew)); exact HO_711002.out) hb); have n1_ := Aside0.mk (Kd.R_below (by (with_reducible repeat (first | apply Kd.R_alloc | apply Kd.R_drewN | apply Kd.R_drew)); exact HO_717002.out) hb); have n2_ := Aside0.mk (Kd.R_below (by (with_reducible repeat (first | apply Kd.R_alloc | apply Kd.R_drewN | apply Kd.R_drew)); exact HO_724002.out) hb); have n3_ := Aside0.mk (Kd.R_below (by (with_reducible repeat (first | apply Kd.R_alloc | apply Kd.R_drewN | apply Kd.R_drew)); exact HO741.out) hb); have n4_ := Aside0.mk (Kd.R_below (by (with_reducible repeat (first | apply Kd.R_alloc | apply Kd.R_drewN | apply Kd.R_drew)); exact HO746.out) hb); have n5_ := Aside0.mk (blk_below (g := gb697) (o := .cells #[.int .i64 a0_0, .int .i64 a0_1, .slice A0_2 l0_2.length c0_2] 55 (0, 0)) (by (with_reducible repeat (first | refine blk_drewN ?_ _ | refine blk_drew ?_ | refine blk_alloc ?_ _)); exact BK697.out) hb); have n6_ := Aside0.mk (blk_below (g := gb710) (o := .cells #[.int .i64 t704, .int .i64 t705, .slice Ao22 t706.length co22] 26 (0, 0)) (by (with_reducible repeat (first | refine blk_drewN ?_ _ | refine blk_drew ?_ | refine blk_alloc ?_ _)); exact BK710.out) hb); have n7_ := Aside0.mk (blk_below (g := gb716) (o := .cells #[.int .i64 t711, .int .i64 t712, .slice Ao29 t732.length co29] 26 (0, 0)) (by (with_reducible repeat (first | refine blk_drewN ?_ _ | refine blk_drew ?_ | refine blk_alloc ?_ _)); exact BK716.out) hb); have n8_ := Aside0.mk (blk_below (g := gb723) (o := .cells #[.int .i64 t717, .int .i64 t718, .slice Ao36 t719.length co36] 26 (0, 0)) (by (with_reducible repeat (first | refine blk_drewN ?_ _ | refine blk_drew ?_ | refine blk_alloc ?_ _)); exact BK723.out) hb); have n9_ := Aside0.mk (below_step (by repeat (first | (with_reducible first | exact HB.out | apply below_alloc | apply pw_below_drewN | apply below_drew1 | refine below_set ?_ GE697.out | refine below_set ?_ GE710.out | refine below_set ?_ GE716.out | refine below_set ?_ GE723.out) | exact HB.out)) hb); have n10_ := Aside0.mk (hbox); have n11_ := Aside0.mk ((by rw [hg]; exact (below_size (by repeat (first | (with_reducible first | exact HB.out | apply below_alloc | apply pw_below_drewN | apply below_drew1 | refine below_set ?_ GE697.out | refine below_set ?_ GE710.out | refine below_set ?_ GE716.out | refine below_set ?_ GE723.out) | exact HB.out))) : w.heap.size ≤ gb748)); have n12_ := Aside0.mk ((by rw [hg]; exact (below_size (by repeat (first | (with_reducible first | exact HB.out | apply below_alloc | apply pw_below_drewN | apply below_drew1 | refine below_set ?_ GE697.out | refine below_set ?_ GE710.out | refine below_set ?_ GE716.out | refine below_set ?_ GE723.out) | exact HB.out))) : w.heap.size ≤ gb748)); have n13_ := Aside0.mk ((by rw [hg]; exact Nat.ne_of_lt (blk_lt (g := gb697) (o := .cells #[.int .i64 a0_0, .int .i64 a0_1, .slice A0_2 l0_2.length c0_2] 55 (0, 0)) (by (with_reducible repeat (first | refine blk_drewN ?_ _ | refine blk_drew ?_ | refine blk_alloc ?_ _)); exact BK697.out)) : gb697 ≠ gb748)); have n14_ := Aside0.mk ((by rw [hg]; exact Nat.ne_of_gt (blk_lt (g := gb697) (o := .cells #[.int .i64 a0_0, .int .i64 a0_1, .slice A0_2 l0_2.length c0_2] 55 (0, 0)) (by (with_reducible repeat (first | refine blk_drewN ?_ _ | refine blk_drew ?_ | refine blk_alloc ?_ _)); exact BK697.out)) : gb748 ≠ gb697)); have n15_ := Aside0.mk ((by rw [hg]; exact Nat.ne_of_lt (blk_lt (g := gb710) (o := .cells #[.int .i64 t704, .int .i64 t705, .slice Ao22 t706.length co22] 26 (0, 0)) (by (with_reducible repeat (first | refine blk_drewN ?_ _ | refine blk_drew ?_ | refine blk_alloc ?_ _)); exact BK710.out)) : gb710 ≠ gb748)); have n16_ := Aside0.mk ((by rw [hg]; exact Nat.ne_of_gt (blk_lt (g := gb710) (o := .cells #[.int .i64 t704, .int .i64 t705, .slice Ao22 t706.length co22] 26 (0, 0)) (by (with_reducible repeat (first | refine blk_drewN ?_ _ | refine blk_drew ?_ | refine blk_alloc ?_ _)); exact BK710.out)) : gb748 ≠ gb710)); have n17_ := Aside0.mk ((by rw [hg]; exact Nat.ne_of_lt (blk_lt (g := gb716) (o := .cells #[.int .i64 t711, .int .i64 t712, .slice Ao29 t732.length co29] 26 (0, 0)) (by (with_reducible repeat (first | refine blk_drewN ?_ _ | refine blk_drew ?_ | refine blk_alloc ?_ _)); exact BK716.out)) : gb716 ≠ gb748)); have n18_ := Aside0.mk ((by rw [hg]; exact Nat.ne_of_gt (blk_lt (g := gb716) (o := .cells #[.int .i64 t711, .int .i64 t712, .slice Ao29 t732.length co29] 26 (0, 0)) (by (with_reducible repeat (first | refine blk_drewN ?_ _ | refine blk_drew ?_ | refine blk_alloc ?_ _)); exact BK716.out)) : gb748 ≠ gb716)); have n19_ := Aside0.mk ((by rw [hg]; exact Nat.ne_of_lt (blk_lt (g := gb723) (o := .cells #[.int .i64 t717, .int .i64 t718, .slice Ao36 t719.length co36] 26 (0, 0)) (by (with_reducible repeat (first | refine blk_drewN ?_ _ | refine blk_drew ?_ | refine blk_alloc ?_ _)); exact BK723.out)) : gb723 ≠ gb748)); have n20_ := Aside0.mk ((by rw [hg]; exact Nat.ne_of_gt (blk_lt (g := gb723) (o := .cells #[.int .i64 t717, .int .i64 t718, .slice Ao36 t719.length co36] 26 (0, 0)) (by (with_reducible repeat (first | refine blk_drewN ?_ _ | refine blk_drew ?_ | refine blk_alloc ?_ _)); exact BK723.out)) : gb748 ≠ gb723)); clear HO_711002; clear HO_717002; clear HO_724002; clear HO741; clear HO746; clear BK697; clear BK710; clear BK716; clear BK723; clear HB; have HO_711002 := n0_; have HO_717002 := n1_; have HO_724002 := n2_; have HO741 := n3_; have HO746 := n4_; have BK697 := n5_; have BK710 := n6_; have BK716 := n7_; have BK723 := n8_; have HB := n9_; have BK748 := n10_; have GW748 := n11_; have GE748 := n12_; have NB697_748 := n13_; have NB748_697 := n14_; have NB710_748 := n15_; have NB748_710 := n16_; have NB716_748 := n17_; have NB748_716 := n18_; have NB723_748 := n19_; have NB748_723 := n20_; clear n0_ n1_ n2_ n3_ n4_ n5_ n6_ n7_ n8_ n9_ n10_ n11_ n12_ n13_ n14_ n15_ n16_ n17_ n18_ n19_ n20_; clear hb hbox hg; have hnb111 := NB748_697.out; have hnc111 := NB697_748.out; have hnb112 := NB748_710.out; have hnc112 := NB710_748.out; have hnb113 := NB748_716.out; have hnc113 := NB716_748.out; have hnb114 := NB748_723.out; have hnc114 := NB723_748.out; have hcz115_0 : w110.cell? ⟨gb748, 0, none⟩ = some (.int .i64 0) := (blk_cell BK748.out 0).trans rfl; have hcz115_1 : w110.cell? ⟨gb748, 1, none⟩ = some (.int .i64 0) := (blk_cell BK748.out 1).trans rfl; have hcz115_2 : w110.cell? ⟨gb748, 2, none⟩ = some (.slice none 0 0) := (blk_cell BK748.out 2).trans rfl; have hfz115_0 := blk_frozen BK748.out 0; have hfz115_1 := blk_frozen BK748.out 1; have hfz115_2 := blk_frozen BK748.out 2; obtain ⟨Ao116, co116, eo116⟩ := Kd.R_slice HO746.out; subst eo116))
                      (try simp only [Act.put, List.setIfInBounds_toArray, List.set_cons_zero, List.set_cons_succ])
                      go_cut [87] (fun v87 wc => ∃ (kq : Nat) (x87_95 : Bool), v87 = .bool x87_95 ∧ Aside0 (laws_FnExactDoubleMatrix.j2 kq t734 x87_95 t717 t718 t735 = some r) ∧ Aside0 (kq ≤ kj59) ∧ Aside0 (Kd.R (Kd.int .i64) 3 wc w.heap.size (fun k_ => some k_ ≠ ((.slice Ao29 t732.length co29) : Value).ownBlock ∧ some k_ ≠ ((.slice Ao36 t719.length co36) : Value).ownBlock ∧ some k_ ≠ ((.slice Ao116 t744.length co116) : Value).ownBlock) (.slice Ao22 t706.length co22) t706) ∧ Aside0 (Kd.R (Kd.int .i64) 3 wc w.heap.size (fun k_ => some k_ ≠ ((.slice Ao22 t706.length co22) : Value).ownBlock ∧ some k_ ≠ ((.slice Ao36 t719.length co36) : Value).ownBlock ∧ some k_ ≠ ((.slice Ao116 t744.length co116) : Value).ownBlock) (.slice Ao29 t732.length co29) t732) ∧ Aside0 (Kd.R (Kd.int .i64) 3 wc w.heap.size (fun k_ => some k_ ≠ ((.slice Ao22 t706.length co22) : Value).ownBlock ∧ some k_ ≠ ((.slice Ao29 t732.length co29) : Value).ownBlock ∧ some k_ ≠ ((.slice Ao116 t744.length co116) : Value).ownBlock) (.slice Ao36 t719.length co36) t735) ∧ Aside0 (Kd.R (Kd.int .i64) 3 wc w.heap.size (fun k_ => some k_ ≠ ((.slice Ao22 t706.length co22) : Value).ownBlock ∧ some k_ ≠ ((.slice Ao29 t732.length co29) : Value).ownBlock ∧ some k_ ≠ ((.slice Ao36 t719.length co36) : Value).ownBlock) (.slice Ao116 t744.length co116) t744) ∧ Aside0 (wc.heap[gb697]? = some (.cells #[.int .i64 a0_0, .int .i64 a0_1, (.slice A0_2 l0_2.length c0_2)] 55 (0, 0))) ∧ Aside0 (wc.heap[gb710]? = some (.cells #[.int .i64 t704, .int .i64 t705, (.slice Ao22 t706.length co22)] 26 (0, 0))) ∧ Aside0 (wc.heap[gb716]? = some (.cells #[.int .i64 t711, .int .i64 t712, (.slice Ao29 t732.length co29)] 26 (0, 0))) ∧ Aside0 (wc.heap[gb723]? = some (.cells #[.int .i64 t717, .int .i64 t718, (.slice Ao36 t719.length co36)] 26 (0, 0))) ∧ Aside0 (wc.heap[gb748]? = some (.cells #[.int .i64 t742, .int .i64 t743, (.slice Ao116 t744.length co116)] 26 (0, 0))) ∧ Aside0 (Below w.heap.size w wc))
                      case first =>
                        have H := HC96.out
                        clear HC96
                        replace H := Option.bind_eq_some_iff.mp H
                        obtain ⟨t749, A1170, H⟩ := H
                        replace H : (if t749 = true then (laws_FnExactDoubleMatrix.j2 kj59 t734 (t747 != t709) t717 t718 t735) else (laws_FnExactDoubleMatrix.j2 kj59 t734 true t717 t718 t735)) = some r := H
                        have A117 := Aside0.mk A1170
                        clear A1170
                        by_cases c118 : t749 = true
                        · subst c118
                          have H1 : (laws_FnExactDoubleMatrix.j2 kj59 t734 (t747 != t709) t717 t718 t735) = some r := by rw [if_pos rfl] at H; exact H
                          clear H
                          have H := H1
                          clear H1
                          have H' := Aside0.mk H
                          clear H
                          have hnb119 := NB748_697.out
                          have hnc119 := NB697_748.out
                          have hnb120 := NB748_710.out
                          have hnc120 := NB710_748.out
                          have hnb121 := NB748_716.out
                          have hnc121 := NB716_748.out
                          have hnb122 := NB748_723.out
                          have hnc122 := NB723_748.out
                          have hcz123_0 : w110.cell? ⟨gb748, 0, none⟩ = some (.int .i64 0) := (blk_cell BK748.out 0).trans rfl
                          have hcz123_1 : w110.cell? ⟨gb748, 1, none⟩ = some (.int .i64 0) := (blk_cell BK748.out 1).trans rfl
                          have hcz123_2 : w110.cell? ⟨gb748, 2, none⟩ = some (.slice none 0 0) := (blk_cell BK748.out 2).trans rfl
                          have hfz123_0 := blk_frozen BK748.out 0
                          have hfz123_1 := blk_frozen BK748.out 1
                          have hfz123_2 := blk_frozen BK748.out 2
                          have hnb124 := NB710_697.out
                          have hnc124 := NB697_710.out
                          have hnb125 := NB710_716.out
                          have hnc125 := NB716_710.out
                          have hnb126 := NB710_723.out
                          have hnc126 := NB723_710.out
                          have hcz127_0 : w110.cell? ⟨gb710, 0, none⟩ = some (.int .i64 t704) := (blk_cell BK710.out 0).trans rfl
                          have hcz127_1 : w110.cell? ⟨gb710, 1, none⟩ = some (.int .i64 t705) := (blk_cell BK710.out 1).trans rfl
                          have hcz127_2 : w110.cell? ⟨gb710, 2, none⟩ = some (.slice Ao22 t706.length co22) := (blk_cell BK710.out 2).trans rfl
                          have hfz127_0 := blk_frozen BK710.out 0
                          have hfz127_1 := blk_frozen BK710.out 1
                          have hfz127_2 := blk_frozen BK710.out 2
                          go_wp2_with (first | ((with_reducible refine gate_callee (f := 34) rfl ?_); refine goesL_ (some 81) rfl rfl Try.func34 (by kernel_rfl) rfl #[.agg #[.int .i64 t742, .int .i64 t743, .slice Ao116 t744.length co116], .agg #[.int .i64 t704, .int .i64 t705, .slice Ao22 t706.length co22]] rfl (by (try simp only [List.map_toArray, List.map_cons, List.map_nil]); first | done | rfl | (simp only [List.length_drop, List.length_take]; rfl)) ?_; (with_reducible refine (laws_eqMatrix.calls kj59 t742 t743 _ _ t744 t704 t705 _ _ t706 true _ ?side1 ?side2 ?side3 ?side4 A117.out).mono ?_); (case side1 => refine (Kd.R_reads' (e := 3) (base := w.heap.size) (ok := fun k_ => ((((True ∧ some k_ ≠ (.slice Ao22 t706.length co22 : Value).ownBlock) ∧ some k_ ≠ (.slice Ao29 t732.length co29 : Value).ownBlock) ∧ some k_ ≠ (.slice Ao36 t719.length co36 : Value).ownBlock) ∧ some k_ ≠ (.slice Ao108 t739.length co108 : Value).ownBlock)) (n := t744.length) (c := co116) ?_).2.2; exact (by (with_reducible repeat (first | apply Kd.R_alloc | apply Kd.R_drewN | apply Kd.R_drew)); exact (Kd.R_mono (Kd.R_far (p := ⟨gb748, 2, none⟩) (Kd.R_far (p := ⟨gb748, 1, none⟩) (Kd.R_far (p := ⟨gb748, 0, none⟩) (Kd.R_types HO746.out BK748.out (by decide)) (fun _ hk => hk.2) (.int .i64 t742)) (fun _ hk => hk.2) (.int .i64 t743)) (fun _ hk => hk.2) (.slice Ao116 t744.length co116)) (fun _ h_ => h_.1)))); (case side2 => exact (Kd.R_reads' HO746.out).2.1); (case side3 => refine (Kd.R_reads' (e := 3) (base := w.heap.size) (ok := fun k_ => (((some k_ ≠ (.slice Ao29 t732.length co29 : Value).ownBlock ∧ some k_ ≠ (.slice Ao36 t719.length co36 : Value).ownBlock) ∧ some k_ ≠ (.slice Ao108 t739.length co108 : Value).ownBlock) ∧ some k_ ≠ (.slice Ao116 t744.length co116 : Value).ownBlock)) (n := t706.length) (c := co22) ?_).2.2; exact (by (with_reducible repeat (first | apply Kd.R_alloc | apply Kd.R_drewN | apply Kd.R_drew)); exact (Kd.R_mono (Kd.R_far (p := ⟨gb748, 2, none⟩) (Kd.R_far (p := ⟨gb748, 1, none⟩) (Kd.R_far (p := ⟨gb748, 0, none⟩) (Kd.R_types HO_711002.out BK748.out (by decide)) (fun _ hk => hk.2) (.int .i64 t742)) (fun _ hk => hk.2) (.int .i64 t743)) (fun _ hk => hk.2) (.slice Ao116 t744.length co116)) (fun _ h_ => h_.1)))); (case side4 => exact (Kd.R_reads' HO_711002.out).2.1); rintro e w128 ⟨rfl, hb⟩; refine ⟨_, rfl, ?_⟩; have n0_ := Aside0.mk (Kd.R_below (by (with_reducible repeat (first | apply Kd.R_alloc | apply Kd.R_drewN | apply Kd.R_drew)); exact (Kd.R_mono (Kd.R_far (p := ⟨gb748, 2, none⟩) (Kd.R_far (p := ⟨gb748, 1, none⟩) (Kd.R_far (p := ⟨gb748, 0, none⟩) (Kd.R_types HO_711002.out BK748.out (by decide)) (fun _ hk => hk.2) (.int .i64 t742)) (fun _ hk => hk.2) (.int .i64 t743)) (fun _ hk => hk.2) (.slice Ao116 t744.length co116)) (fun _ h_ => h_.1))) hb); have n1_ := Aside0.mk (Kd.R_below (by (with_reducible repeat (first | apply Kd.R_alloc | apply Kd.R_drewN | apply Kd.R_drew)); exact (Kd.R_mono (Kd.R_far (p := ⟨gb748, 2, none⟩) (Kd.R_far (p := ⟨gb748, 1, none⟩) (Kd.R_far (p := ⟨gb748, 0, none⟩) (Kd.R_types HO_717002.out BK748.out (by decide)) (fun _ hk => hk.2) (.int .i64 t742)) (fun _ hk => hk.2) (.int .i64 t743)) (fun _ hk => hk.2) (.slice Ao116 t744.length co116)) (fun _ h_ => h_.1))) hb); have n2_ := Aside0.mk (Kd.R_below (by (with_reducible repeat (first | apply Kd.R_alloc | apply Kd.R_drewN | apply Kd.R_drew)); exact (Kd.R_mono (Kd.R_far (p := ⟨gb748, 2, none⟩) (Kd.R_far (p := ⟨gb748, 1, none⟩) (Kd.R_far (p := ⟨gb748, 0, none⟩) (Kd.R_types HO_724002.out BK748.out (by decide)) (fun _ hk => hk.2) (.int .i64 t742)) (fun _ hk => hk.2) (.int .i64 t743)) (fun _ hk => hk.2) (.slice Ao116 t744.length co116)) (fun _ h_ => h_.1))) hb); have n3_ := Aside0.mk (Kd.R_below (by (with_reducible repeat (first | apply Kd.R_alloc | apply Kd.R_drewN | apply Kd.R_drew)); exact (Kd.R_mono (Kd.R_far (p := ⟨gb748, 2, none⟩) (Kd.R_far (p := ⟨gb748, 1, none⟩) (Kd.R_far (p := ⟨gb748, 0, none⟩) (Kd.R_types HO741.out BK748.out (by decide)) (fun _ hk => hk.2) (.int .i64 t742)) (fun _ hk => hk.2) (.int .i64 t743)) (fun _ hk => hk.2) (.slice Ao116 t744.length co116)) (fun _ h_ => h_.1))) hb); have n4_ := Aside0.mk (Kd.R_below (by (with_reducible repeat (first | apply Kd.R_alloc | apply Kd.R_drewN | apply Kd.R_drew)); exact (Kd.R_mono (Kd.R_far (p := ⟨gb748, 2, none⟩) (Kd.R_far (p := ⟨gb748, 1, none⟩) (Kd.R_far (p := ⟨gb748, 0, none⟩) (Kd.R_types HO746.out BK748.out (by decide)) (fun _ hk => hk.2) (.int .i64 t742)) (fun _ hk => hk.2) (.int .i64 t743)) (fun _ hk => hk.2) (.slice Ao116 t744.length co116)) (fun _ h_ => h_.1))) hb); have n5_ := Aside0.mk (blk_below (g := gb697) (o := .cells #[.int .i64 a0_0, .int .i64 a0_1, .slice A0_2 l0_2.length c0_2] 55 (0, 0)) (by (with_reducible repeat (first | refine blk_drewN ?_ _ | refine blk_drew ?_ | refine blk_alloc ?_ _)); refine blk_far ?_ NB697_748.out _; (with_reducible repeat (first | refine blk_drewN ?_ _ | refine blk_drew ?_ | refine blk_alloc ?_ _)); refine blk_far ?_ NB697_748.out _; (with_reducible repeat (first | refine blk_drewN ?_ _ | refine blk_drew ?_ | refine blk_alloc ?_ _)); refine blk_far ?_ NB697_748.out _; (with_reducible repeat (first | refine blk_drewN ?_ _ | refine blk_drew ?_ | refine blk_alloc ?_ _)); exact BK697.out) hb); have n6_ := Aside0.mk (blk_below (g := gb710) (o := .cells #[.int .i64 t704, .int .i64 t705, .slice Ao22 t706.length co22] 26 (0, 0)) (by (with_reducible repeat (first | refine blk_drewN ?_ _ | refine blk_drew ?_ | refine blk_alloc ?_ _)); refine blk_far ?_ NB710_748.out _; (with_reducible repeat (first | refine blk_drewN ?_ _ | refine blk_drew ?_ | refine blk_alloc ?_ _)); refine blk_far ?_ NB710_748.out _; (with_reducible repeat (first | refine blk_drewN ?_ _ | refine blk_drew ?_ | refine blk_alloc ?_ _)); refine blk_far ?_ NB710_748.out _; (with_reducible repeat (first | refine blk_drewN ?_ _ | refine blk_drew ?_ | refine blk_alloc ?_ _)); exact BK710.out) hb); have n7_ := Aside0.mk (blk_below (g := gb716) (o := .cells #[.int .i64 t711, .int .i64 t712, .slice Ao29 t732.length co29] 26 (0, 0)) (by (with_reducible repeat (first | refine blk_drewN ?_ _ | refine blk_drew ?_ | refine blk_alloc ?_ _)); refine blk_far ?_ NB716_748.out _; (with_reducible repeat (first | refine blk_drewN ?_ _ | refine blk_drew ?_ | refine blk_alloc ?_ _)); refine blk_far ?_ NB716_748.out _; (with_reducible repeat (first | refine blk_drewN ?_ _ | refine blk_drew ?_ | refine blk_alloc ?_ _)); refine blk_far ?_ NB716_748.out _; (with_reducible repeat (first | refine blk_drewN ?_ _ | refine blk_drew ?_ | refine blk_alloc ?_ _)); exact BK716.out) hb); have n8_ := Aside0.mk (blk_below (g := gb723) (o := .cells #[.int .i64 t717, .int .i64 t718, .slice Ao36 t719.length co36] 26 (0, 0)) (by (with_reducible repeat (first | refine blk_drewN ?_ _ | refine blk_drew ?_ | refine blk_alloc ?_ _)); refine blk_far ?_ NB723_748.out _; (with_reducible repeat (first | refine blk_drewN ?_ _ | refine blk_drew ?_ | refine blk_alloc ?_ _)); refine blk_far ?_ NB723_748.out _; (with_reducible repeat (first | refine blk_drewN ?_ _ | refine blk_drew ?_ | refine blk_alloc ?_ _)); refine blk_far ?_ NB723_748.out _; (with_reducible repeat (first | refine blk_drewN ?_ _ | refine blk_drew ?_ | refine blk_alloc ?_ _)); exact BK723.out) hb); have n9_ := Aside0.mk (blk_below (g := gb748) (o := .cells #[.int .i64 t742, .int .i64 t743, .slice Ao116 t744.length co116] 26 (0, 0)) (by (with_reducible repeat (first | refine blk_drewN ?_ _ | refine blk_drew ?_ | refine blk_alloc ?_ _)); refine blk_put (cs := #[.int .i64 t742, .int .i64 t743, .slice none 0 0]) ?_ 2 _ rfl; (with_reducible repeat (first | refine blk_drewN ?_ _ | refine blk_drew ?_ | refine blk_alloc ?_ _)); refine blk_put (cs := #[.int .i64 t742, .int .i64 0, .slice none 0 0]) ?_ 1 _ rfl; (with_reducible repeat (first | refine blk_drewN ?_ _ | refine blk_drew ?_ | refine blk_alloc ?_ _)); refine blk_put (cs := #[.int .i64 0, .int .i64 0, .slice none 0 0]) ?_ 0 _ rfl; (with_reducible repeat (first | refine blk_drewN ?_ _ | refine blk_drew ?_ | refine blk_alloc ?_ _)); exact BK748.out) hb); have n10_ := Aside0.mk (below_step (by repeat (first | (with_reducible first | exact HB.out | apply below_alloc | apply pw_below_drewN | apply below_drew1 | refine below_set ?_ GE697.out | refine below_set ?_ GE710.out | refine below_set ?_ GE716.out | refine below_set ?_ GE723.out | refine below_set ?_ GE748.out) | exact HB.out)) hb); clear HO_711002; clear HO_717002; clear HO_724002; clear HO741; clear HO746; clear BK697; clear BK710; clear BK716; clear BK723; clear BK748; clear HB; have HO_711002 := n0_; have HO_717002 := n1_; have HO_724002 := n2_; have HO741 := n3_; have HO746 := n4_; have BK697 := n5_; have BK710 := n6_; have BK716 := n7_; have BK723 := n8_; have BK748 := n9_; have HB := n10_; clear n0_ n1_ n2_ n3_ n4_ n5_ n6_ n7_ n8_ n9_ n10_; (try clear hb); (try clear hb2); (try clear hk); (try clear hi)))
                          go_meet
                          case rel => exact ⟨_, ((t747 != t709)), (by first | rfl | (simp; done) | (simp [*]; done)), H', ⟨by have := HJ10.out; have := HJ59.out; first | omega | exact Nat.le_refl _⟩, ⟨by (try simp only [hl717002_59]); (with_reducible repeat (first | apply Kd.R_alloc | apply Kd.R_drewN | apply Kd.R_drew)); exact Kd.R_mono HO_711002.out (fun _ hk => ⟨hk.1.1.1, ⟨hk.1.1.2, hk.2⟩⟩)⟩, ⟨by (try simp only [hl717002_59]); (with_reducible repeat (first | apply Kd.R_alloc | apply Kd.R_drewN | apply Kd.R_drew)); exact Kd.R_mono HO_717002.out (fun _ hk => ⟨hk.1.1.1, ⟨hk.1.1.2, hk.2⟩⟩)⟩, ⟨by (try simp only [hl717002_59]); (with_reducible repeat (first | apply Kd.R_alloc | apply Kd.R_drewN | apply Kd.R_drew)); exact Kd.R_mono HO_724002.out (fun _ hk => ⟨hk.1.1.1, ⟨hk.1.1.2, hk.2⟩⟩)⟩, ⟨by (try simp only [hl717002_59]); (with_reducible repeat (first | apply Kd.R_alloc | apply Kd.R_drewN | apply Kd.R_drew)); exact Kd.R_mono HO746.out (fun _ hk => ⟨hk.1.1.1.2, ⟨hk.1.1.2, hk.1.2⟩⟩)⟩, ⟨by (try simp only [hl717002_59]); (with_reducible repeat (first | refine blk_drewN ?_ _ | refine blk_drew ?_ | refine blk_alloc ?_ _)); exact BK697.out⟩, ⟨by (try simp only [hl717002_59]); (with_reducible repeat (first | refine blk_drewN ?_ _ | refine blk_drew ?_ | refine blk_alloc ?_ _)); exact BK710.out⟩, ⟨by (try simp only [hl717002_59]); (with_reducible repeat (first | refine blk_drewN ?_ _ | refine blk_drew ?_ | refine blk_alloc ?_ _)); exact BK716.out⟩, ⟨by (try simp only [hl717002_59]); (with_reducible repeat (first | refine blk_drewN ?_ _ | refine blk_drew ?_ | refine blk_alloc ?_ _)); exact BK723.out⟩, ⟨by (try simp only [hl717002_59]); (with_reducible repeat (first | refine blk_drewN ?_ _ | refine blk_drew ?_ | refine blk_alloc ?_ _)); exact BK748.out⟩, ⟨by repeat (first | (with_reducible first | exact HB.out | apply below_alloc | apply pw_below_drewN | apply below_drew1 | refine below_set ?_ GE697.out | refine below_set ?_ GE710.out | refine below_set ?_ GE716.out | refine below_set ?_ GE723.out | refine below_set ?_ GE748.out) | exact HB.out)⟩⟩
                        · replace c118 := Bool.eq_false_iff.mpr c118
                          subst c118
                          have H1 : (laws_FnExactDoubleMatrix.j2 kj59 t734 true t717 t718 t735) = some r := by rw [if_neg (show ¬ (false = true) by decide)] at H; exact H
                          clear H
                          have H := H1
                          clear H1
                          have H' := Aside0.mk H
                          clear H
                          have hnb129 := NB748_697.out
                          have hnc129 := NB697_748.out
                          have hnb130 := NB748_710.out
                          have hnc130 := NB710_748.out
                          have hnb131 := NB748_716.out
                          have hnc131 := NB716_748.out
                          have hnb132 := NB748_723.out
                          have hnc132 := NB723_748.out
                          have hcz133_0 : w110.cell? ⟨gb748, 0, none⟩ = some (.int .i64 0) := (blk_cell BK748.out 0).trans rfl
                          have hcz133_1 : w110.cell? ⟨gb748, 1, none⟩ = some (.int .i64 0) := (blk_cell BK748.out 1).trans rfl
                          have hcz133_2 : w110.cell? ⟨gb748, 2, none⟩ = some (.slice none 0 0) := (blk_cell BK748.out 2).trans rfl
                          have hfz133_0 := blk_frozen BK748.out 0
                          have hfz133_1 := blk_frozen BK748.out 1
                          have hfz133_2 := blk_frozen BK748.out 2
                          have hnb134 := NB710_697.out
                          have hnc134 := NB697_710.out
                          have hnb135 := NB710_716.out
                          have hnc135 := NB716_710.out
                          have hnb136 := NB710_723.out
                          have hnc136 := NB723_710.out
                          have hcz137_0 : w110.cell? ⟨gb710, 0, none⟩ = some (.int .i64 t704) := (blk_cell BK710.out 0).trans rfl
                          have hcz137_1 : w110.cell? ⟨gb710, 1, none⟩ = some (.int .i64 t705) := (blk_cell BK710.out 1).trans rfl
                          have hcz137_2 : w110.cell? ⟨gb710, 2, none⟩ = some (.slice Ao22 t706.length co22) := (blk_cell BK710.out 2).trans rfl
                          have hfz137_0 := blk_frozen BK710.out 0
                          have hfz137_1 := blk_frozen BK710.out 1
                          have hfz137_2 := blk_frozen BK710.out 2
                          go_wp2_with (first | ((with_reducible refine gate_callee (f := 34) rfl ?_); refine goesL_ (some 81) rfl rfl Try.func34 (by kernel_rfl) rfl #[.agg #[.int .i64 t742, .int .i64 t743, .slice Ao116 t744.length co116], .agg #[.int .i64 t704, .int .i64 t705, .slice Ao22 t706.length co22]] rfl (by (try simp only [List.map_toArray, List.map_cons, List.map_nil]); first | done | rfl | (simp only [List.length_drop, List.length_take]; rfl)) ?_; (with_reducible refine (laws_eqMatrix.calls kj59 t742 t743 _ _ t744 t704 t705 _ _ t706 false _ ?side1 ?side2 ?side3 ?side4 A117.out).mono ?_); (case side1 => refine (Kd.R_reads' (e := 3) (base := w.heap.size) (ok := fun k_ => ((((True ∧ some k_ ≠ (.slice Ao22 t706.length co22 : Value).ownBlock) ∧ some k_ ≠ (.slice Ao29 t732.length co29 : Value).ownBlock) ∧ some k_ ≠ (.slice Ao36 t719.length co36 : Value).ownBlock) ∧ some k_ ≠ (.slice Ao108 t739.length co108 : Value).ownBlock)) (n := t744.length) (c := co116) ?_).2.2; exact (by (with_reducible repeat (first | apply Kd.R_alloc | apply Kd.R_drewN | apply Kd.R_drew)); exact (Kd.R_mono (Kd.R_far (p := ⟨gb748, 2, none⟩) (Kd.R_far (p := ⟨gb748, 1, none⟩) (Kd.R_far (p := ⟨gb748, 0, none⟩) (Kd.R_types HO746.out BK748.out (by decide)) (fun _ hk => hk.2) (.int .i64 t742)) (fun _ hk => hk.2) (.int .i64 t743)) (fun _ hk => hk.2) (.slice Ao116 t744.length co116)) (fun _ h_ => h_.1)))); (case side2 => exact (Kd.R_reads' HO746.out).2.1); (case side3 => refine (Kd.R_reads' (e := 3) (base := w.heap.size) (ok := fun k_ => (((some k_ ≠ (.slice Ao29 t732.length co29 : Value).ownBlock ∧ some k_ ≠ (.slice Ao36 t719.length co36 : Value).ownBlock) ∧ some k_ ≠ (.slice Ao108 t739.length co108 : Value).ownBlock) ∧ some k_ ≠ (.slice Ao116 t744.length co116 : Value).ownBlock)) (n := t706.length) (c := co22) ?_).2.2; exact (by (with_reducible repeat (first | apply Kd.R_alloc | apply Kd.R_drewN | apply Kd.R_drew)); exact (Kd.R_mono (Kd.R_far (p := ⟨gb748, 2, none⟩) (Kd.R_far (p := ⟨gb748, 1, none⟩) (Kd.R_far (p := ⟨gb748, 0, none⟩) (Kd.R_types HO_711002.out BK748.out (by decide)) (fun _ hk => hk.2) (.int .i64 t742)) (fun _ hk => hk.2) (.int .i64 t743)) (fun _ hk => hk.2) (.slice Ao116 t744.length co116)) (fun _ h_ => h_.1)))); (case side4 => exact (Kd.R_reads' HO_711002.out).2.1); rintro e w138 ⟨rfl, hb⟩; refine ⟨_, rfl, ?_⟩; have n0_ := Aside0.mk (Kd.R_below (by (with_reducible repeat (first | apply Kd.R_alloc | apply Kd.R_drewN | apply Kd.R_drew)); exact (Kd.R_mono (Kd.R_far (p := ⟨gb748, 2, none⟩) (Kd.R_far (p := ⟨gb748, 1, none⟩) (Kd.R_far (p := ⟨gb748, 0, none⟩) (Kd.R_types HO_711002.out BK748.out (by decide)) (fun _ hk => hk.2) (.int .i64 t742)) (fun _ hk => hk.2) (.int .i64 t743)) (fun _ hk => hk.2) (.slice Ao116 t744.length co116)) (fun _ h_ => h_.1))) hb); have n1_ := Aside0.mk (Kd.R_below (by (with_reducible repeat (first | apply Kd.R_alloc | apply Kd.R_drewN | apply Kd.R_drew)); exact (Kd.R_mono (Kd.R_far (p := ⟨gb748, 2, none⟩) (Kd.R_far (p := ⟨gb748, 1, none⟩) (Kd.R_far (p := ⟨gb748, 0, none⟩) (Kd.R_types HO_717002.out BK748.out (by decide)) (fun _ hk => hk.2) (.int .i64 t742)) (fun _ hk => hk.2) (.int .i64 t743)) (fun _ hk => hk.2) (.slice Ao116 t744.length co116)) (fun _ h_ => h_.1))) hb); have n2_ := Aside0.mk (Kd.R_below (by (with_reducible repeat (first | apply Kd.R_alloc | apply Kd.R_drewN | apply Kd.R_drew)); exact (Kd.R_mono (Kd.R_far (p := ⟨gb748, 2, none⟩) (Kd.R_far (p := ⟨gb748, 1, none⟩) (Kd.R_far (p := ⟨gb748, 0, none⟩) (Kd.R_types HO_724002.out BK748.out (by decide)) (fun _ hk => hk.2) (.int .i64 t742)) (fun _ hk => hk.2) (.int .i64 t743)) (fun _ hk => hk.2) (.slice Ao116 t744.length co116)) (fun _ h_ => h_.1))) hb); have n3_ := Aside0.mk (Kd.R_below (by (with_reducible repeat (first | apply Kd.R_alloc | apply Kd.R_drewN | apply Kd.R_drew)); exact (Kd.R_mono (Kd.R_far (p := ⟨gb748, 2, none⟩) (Kd.R_far (p := ⟨gb748, 1, none⟩) (Kd.R_far (p := ⟨gb748, 0, none⟩) (Kd.R_types HO741.out BK748.out (by decide)) (fun _ hk => hk.2) (.int .i64 t742)) (fun _ hk => hk.2) (.int .i64 t743)) (fun _ hk => hk.2) (.slice Ao116 t744.length co116)) (fun _ h_ => h_.1))) hb); have n4_ := Aside0.mk (Kd.R_below (by (with_reducible repeat (first | apply Kd.R_alloc | apply Kd.R_drewN | apply Kd.R_drew)); exact (Kd.R_mono (Kd.R_far (p := ⟨gb748, 2, none⟩) (Kd.R_far (p := ⟨gb748, 1, none⟩) (Kd.R_far (p := ⟨gb748, 0, none⟩) (Kd.R_types HO746.out BK748.out (by decide)) (fun _ hk => hk.2) (.int .i64 t742)) (fun _ hk => hk.2) (.int .i64 t743)) (fun _ hk => hk.2) (.slice Ao116 t744.length co116)) (fun _ h_ => h_.1))) hb); have n5_ := Aside0.mk (blk_below (g := gb697) (o := .cells #[.int .i64 a0_0, .int .i64 a0_1, .slice A0_2 l0_2.length c0_2] 55 (0, 0)) (by (with_reducible repeat (first | refine blk_drewN ?_ _ | refine blk_drew ?_ | refine blk_alloc ?_ _)); refine blk_far ?_ NB697_748.out _; (with_reducible repeat (first | refine blk_drewN ?_ _ | refine blk_drew ?_ | refine blk_alloc ?_ _)); refine blk_far ?_ NB697_748.out _; (with_reducible repeat (first | refine blk_drewN ?_ _ | refine blk_drew ?_ | refine blk_alloc ?_ _)); refine blk_far ?_ NB697_748.out _; (with_reducible repeat (first | refine blk_drewN ?_ _ | refine blk_drew ?_ | refine blk_alloc ?_ _)); exact BK697.out) hb); have n6_ := Aside0.mk (blk_below (g := gb710) (o := .cells #[.int .i64 t704, .int .i64 t705, .slice Ao22 t706.length co22] 26 (0, 0)) (by (with_reducible repeat (first | refine blk_drewN ?_ _ | refine blk_drew ?_ | refine blk_alloc ?_ _)); refine blk_far ?_ NB710_748.out _; (with_reducible repeat (first | refine blk_drewN ?_ _ | refine blk_drew ?_ | refine blk_alloc ?_ _)); refine blk_far ?_ NB710_748.out _; (with_reducible repeat (first | refine blk_drewN ?_ _ | refine blk_drew ?_ | refine blk_alloc ?_ _)); refine blk_far ?_ NB710_748.out _; (with_reducible repeat (first | refine blk_drewN ?_ _ | refine blk_drew ?_ | refine blk_alloc ?_ _)); exact BK710.out) hb); have n7_ := Aside0.mk (blk_below (g := gb716) (o := .cells #[.int .i64 t711, .int .i64 t712, .slice Ao29 t732.length co29] 26 (0, 0)) (by (with_reducible repeat (first | refine blk_drewN ?_ _ | refine blk_drew ?_ | refine blk_alloc ?_ _)); refine blk_far ?_ NB716_748.out _; (with_reducible repeat (first | refine blk_drewN ?_ _ | refine blk_drew ?_ | refine blk_alloc ?_ _)); refine blk_far ?_ NB716_748.out _; (with_reducible repeat (first | refine blk_drewN ?_ _ | refine blk_drew ?_ | refine blk_alloc ?_ _)); refine blk_far ?_ NB716_748.out _; (with_reducible repeat (first | refine blk_drewN ?_ _ | refine blk_drew ?_ | refine blk_alloc ?_ _)); exact BK716.out) hb); have n8_ := Aside0.mk (blk_below (g := gb723) (o := .cells #[.int .i64 t717, .int .i64 t718, .slice Ao36 t719.length co36] 26 (0, 0)) (by (with_reducible repeat (first | refine blk_drewN ?_ _ | refine blk_drew ?_ | refine blk_alloc ?_ _)); refine blk_far ?_ NB723_748.out _; (with_reducible repeat (first | refine blk_drewN ?_ _ | refine blk_drew ?_ | refine blk_alloc ?_ _)); refine blk_far ?_ NB723_748.out _; (with_reducible repeat (first | refine blk_drewN ?_ _ | refine blk_drew ?_ | refine blk_alloc ?_ _)); refine blk_far ?_ NB723_748.out _; (with_reducible repeat (first | refine blk_drewN ?_ _ | refine blk_drew ?_ | refine blk_alloc ?_ _)); exact BK723.out) hb); have n9_ := Aside0.mk (blk_below (g := gb748) (o := .cells #[.int .i64 t742, .int .i64 t743, .slice Ao116 t744.length co116] 26 (0, 0)) (by (with_reducible repeat (first | refine blk_drewN ?_ _ | refine blk_drew ?_ | refine blk_alloc ?_ _)); refine blk_put (cs := #[.int .i64 t742, .int .i64 t743, .slice none 0 0]) ?_ 2 _ rfl; (with_reducible repeat (first | refine blk_drewN ?_ _ | refine blk_drew ?_ | refine blk_alloc ?_ _)); refine blk_put (cs := #[.int .i64 t742, .int .i64 0, .slice none 0 0]) ?_ 1 _ rfl; (with_reducible repeat (first | refine blk_drewN ?_ _ | refine blk_drew ?_ | refine blk_alloc ?_ _)); refine blk_put (cs := #[.int .i64 0, .int .i64 0, .slice none 0 0]) ?_ 0 _ rfl; (with_reducible repeat (first | refine blk_drewN ?_ _ | refine blk_drew ?_ | refine blk_alloc ?_ _)); exact BK748.out) hb); have n10_ := Aside0.mk (below_step (by repeat (first | (with_reducible first | exact HB.out | apply below_alloc | apply pw_below_drewN | apply below_drew1 | refine below_set ?_ GE697.out | refine below_set ?_ GE710.out | refine below_set ?_ GE716.out | refine below_set ?_ GE723.out | refine below_set ?_ GE748.out) | exact HB.out)) hb); clear HO_711002; clear HO_717002; clear HO_724002; clear HO741; clear HO746; clear BK697; clear BK710; clear BK716; clear BK723; clear BK748; clear HB; have HO_711002 := n0_; have HO_717002 := n1_; have HO_724002 := n2_; have HO741 := n3_; have HO746 := n4_; have BK697 := n5_; have BK710 := n6_; have BK716 := n7_; have BK723 := n8_; have BK748 := n9_; have HB := n10_; clear n0_ n1_ n2_ n3_ n4_ n5_ n6_ n7_ n8_ n9_ n10_; (try clear hb); (try clear hb2); (try clear hk); (try clear hi)))
                          go_meet
                          case rel => exact ⟨_, (true), (by first | rfl | (simp; done) | (simp [*]; done)), H', ⟨by have := HJ10.out; have := HJ59.out; first | omega | exact Nat.le_refl _⟩, ⟨by (try simp only [hl717002_59]); (with_reducible repeat (first | apply Kd.R_alloc | apply Kd.R_drewN | apply Kd.R_drew)); exact Kd.R_mono HO_711002.out (fun _ hk => ⟨hk.1.1.1, ⟨hk.1.1.2, hk.2⟩⟩)⟩, ⟨by (try simp only [hl717002_59]); (with_reducible repeat (first | apply Kd.R_alloc | apply Kd.R_drewN | apply Kd.R_drew)); exact Kd.R_mono HO_717002.out (fun _ hk => ⟨hk.1.1.1, ⟨hk.1.1.2, hk.2⟩⟩)⟩, ⟨by (try simp only [hl717002_59]); (with_reducible repeat (first | apply Kd.R_alloc | apply Kd.R_drewN | apply Kd.R_drew)); exact Kd.R_mono HO_724002.out (fun _ hk => ⟨hk.1.1.1, ⟨hk.1.1.2, hk.2⟩⟩)⟩, ⟨by (try simp only [hl717002_59]); (with_reducible repeat (first | apply Kd.R_alloc | apply Kd.R_drewN | apply Kd.R_drew)); exact Kd.R_mono HO746.out (fun _ hk => ⟨hk.1.1.1.2, ⟨hk.1.1.2, hk.1.2⟩⟩)⟩, ⟨by (try simp only [hl717002_59]); (with_reducible repeat (first | refine blk_drewN ?_ _ | refine blk_drew ?_ | refine blk_alloc ?_ _)); exact BK697.out⟩, ⟨by (try simp only [hl717002_59]); (with_reducible repeat (first | refine blk_drewN ?_ _ | refine blk_drew ?_ | refine blk_alloc ?_ _)); exact BK710.out⟩, ⟨by (try simp only [hl717002_59]); (with_reducible repeat (first | refine blk_drewN ?_ _ | refine blk_drew ?_ | refine blk_alloc ?_ _)); exact BK716.out⟩, ⟨by (try simp only [hl717002_59]); (with_reducible repeat (first | refine blk_drewN ?_ _ | refine blk_drew ?_ | refine blk_alloc ?_ _)); exact BK723.out⟩, ⟨by (try simp only [hl717002_59]); (with_reducible repeat (first | refine blk_drewN ?_ _ | refine blk_drew ?_ | refine blk_alloc ?_ _)); exact BK748.out⟩, ⟨by repeat (first | (with_reducible first | exact HB.out | apply below_alloc | apply pw_below_drewN | apply below_drew1 | refine below_set ?_ GE697.out | refine below_set ?_ GE710.out | refine below_set ?_ GE716.out | refine below_set ?_ GE723.out | refine below_set ?_ GE748.out) | exact HB.out)⟩⟩
                      case rest =>
                        clear HC96
                        try clear c1
                        try clear c2
                        try clear p2
                        try clear c3
                        try clear c3b0
                        try clear c4
                        try clear c5
                        try clear c6
                        try clear c7
                        try clear c8
                        try clear c9
                        try clear c10
                        try clear c11
                        try clear c12
                        try clear c13
                        try clear c20
                        try clear c26
                        try clear c27
                        try clear c31
                        try clear c32
                        try clear c33
                        try clear c34
                        try clear c35
                        try clear c36
                        try clear c38
                        try clear c39
                        try clear c40
                        try clear c41
                        try clear c43
                        try clear c44
                        try clear c47
                        try clear c48
                        try clear c49
                        try clear c51
                        try clear c52
                        try clear c55
                        try clear c56
                        try clear c57
                        try clear c58
                        try clear c65
                        try clear c66
                        try clear c67
                        try clear c70
                        try clear c70b0
                        try clear c72
                        try clear c73
                        try clear c74
                        try clear c75
                        try clear c77
                        try clear c78
                        try clear c81
                        try clear c82
                        try clear c83
                        try clear c85
                        try clear c86
                        try clear c89
                        try clear c92
                        try clear c92b0
                        try clear c93
                        try clear c93b0
                        try clear c93b1
                        try clear c97
                        try clear c98
                        try clear c99
                        try clear c104
                        try clear c105
                        try clear c111
                        try clear c112
                        try clear c113
                        try clear c114
                        try clear c118
                        try clear c119
                        try clear c120
                        try clear c121
                        try clear c122
                        try clear c124
                        try clear c125
                        try clear c126
                        try clear c129
                        try clear c130
                        try clear c131
                        try clear c132
                        try clear c134
                        try clear c135
                        try clear c136
                        try clear hcz100_0
                        try clear hcz100_1
                        try clear hcz100_2
                        try clear hcz102_0
                        try clear hcz102_1
                        try clear hcz102_2
                        try clear hcz106_0
                        try clear hcz106_1
                        try clear hcz106_2
                        try clear hcz115_0
                        try clear hcz115_1
                        try clear hcz115_2
                        try clear hcz123_0
                        try clear hcz123_1
                        try clear hcz123_2
                        try clear hcz127_0
                        try clear hcz127_1
                        try clear hcz127_2
                        try clear hcz133_0
                        try clear hcz133_1
                        try clear hcz133_2
                        try clear hcz137_0
                        try clear hcz137_1
                        try clear hcz137_2
                        try clear hcz13_0
                        try clear hcz13_1
                        try clear hcz13_2
                        try clear hcz15_0
                        try clear hcz15_1
                        try clear hcz15_2
                        try clear hcz21_0
                        try clear hcz21_1
                        try clear hcz21_2
                        try clear hcz23_0
                        try clear hcz23_1
                        try clear hcz23_2
                        try clear hcz28_0
                        try clear hcz28_1
                        try clear hcz28_2
                        try clear hcz35_0
                        try clear hcz35_1
                        try clear hcz35_2
                        try clear hcz42_0
                        try clear hcz42_1
                        try clear hcz42_2
                        try clear hcz45_0
                        try clear hcz45_1
                        try clear hcz45_2
                        try clear hcz50_0
                        try clear hcz50_1
                        try clear hcz50_2
                        try clear hcz53_0
                        try clear hcz53_1
                        try clear hcz53_2
                        try clear hcz5_0
                        try clear hcz5_1
                        try clear hcz5_2
                        try clear hcz68_0
                        try clear hcz68_1
                        try clear hcz68_2
                        try clear hcz76_0
                        try clear hcz76_1
                        try clear hcz76_2
                        try clear hcz79_0
                        try clear hcz79_1
                        try clear hcz79_2
                        try clear hcz84_0
                        try clear hcz84_1
                        try clear hcz84_2
                        try clear hcz87_0
                        try clear hcz87_1
                        try clear hcz87_2
                        try clear hfz100_0
                        try clear hfz100_1
                        try clear hfz100_2
                        try clear hfz102_0
                        try clear hfz102_1
                        try clear hfz102_2
                        try clear hfz106_0
                        try clear hfz106_1
                        try clear hfz106_2
                        try clear hfz115_0
                        try clear hfz115_1
                        try clear hfz115_2
                        try clear hfz123_0
                        try clear hfz123_1
                        try clear hfz123_2
                        try clear hfz127_0
                        try clear hfz127_1
                        try clear hfz127_2
                        try clear hfz133_0
                        try clear hfz133_1
                        try clear hfz133_2
                        try clear hfz137_0
                        try clear hfz137_1
                        try clear hfz137_2
                        try clear hfz13_0
                        try clear hfz13_1
                        try clear hfz13_2
                        try clear hfz15_0
                        try clear hfz15_1
                        try clear hfz15_2
                        try clear hfz21_0
                        try clear hfz21_1
                        try clear hfz21_2
                        try clear hfz23_0
                        try clear hfz23_1
                        try clear hfz23_2
                        try clear hfz28_0
                        try clear hfz28_1
                        try clear hfz28_2
                        try clear hfz35_0
                        try clear hfz35_1
                        try clear hfz35_2
                        try clear hfz42_0
                        try clear hfz42_1
                        try clear hfz42_2
                        try clear hfz45_0
                        try clear hfz45_1
                        try clear hfz45_2
                        try clear hfz50_0
                        try clear hfz50_1
                        try clear hfz50_2
                        try clear hfz53_0
                        try clear hfz53_1
                        try clear hfz53_2
                        try clear hfz5_0
                        try clear hfz5_1
                        try clear hfz5_2
                        try clear hfz68_0
                        try clear hfz68_1
                        try clear hfz68_2
                        try clear hfz76_0
                        try clear hfz76_1
                        try clear hfz76_2
                        try clear hfz79_0
                        try clear hfz79_1
                        try clear hfz79_2
                        try clear hfz84_0
                        try clear hfz84_1
                        try clear hfz84_2
                        try clear hfz87_0
                        try clear hfz87_1
                        try clear hfz87_2
                        try clear p2
                        obtain ⟨kq, x87_95, rfl, HA, HJ95, HO_711002, HO_717002, HO_724002, HO_749002, BK697, BK710, BK716, BK723, BK748, HB⟩ := hcut
                        have hl724002_95 := (Kd.R_reads' HO_724002.out).1
                        rw [hl724002_95] at HO_724002
                        (try simp only [hl724002_95])
                        (try simp only [hl724002_95] at BK697)
                        (try simp only [hl724002_95] at BK710)
                        (try simp only [hl724002_95] at BK716)
                        (try simp only [hl724002_95] at BK723)
                        (try simp only [hl724002_95] at BK748)
                        (try simp only [hl724002_95] at HO_711002)
                        (try simp only [hl724002_95] at HO_717002)
                        (try simp only [hl724002_95] at HO_749002)
                        cases kq with
                        | zero => exact absurd HA.out (by simp [laws_FnExactDoubleMatrix.j2])
                        | succ kj95 =>
                          have H := HA.out
                          clear HA
                          simp only [laws_FnExactDoubleMatrix.j2] at H
                          by_cases c139 : x87_95 = true
                          · subst c139
                            have H1 : (some false) = some r := by rw [if_pos rfl] at H; exact H
                            clear H
                            have H := H1
                            clear H1
                            exact absurd ((Option.some.inj H).trans hT.out) (by decide)
                          · replace c139 := Bool.eq_false_iff.mpr c139
                            subst c139
                            have H1 : ((laws_heldMatrix.f kj95 t717 t718 t735 1).bind fun t750 => (if t750 < 0 then (some false) else (if t750 = t734 then (some true) else (some false)))) = some r := by rw [if_neg (show ¬ (false = true) by decide)] at H; exact H
                            clear H
                            have H := H1
                            clear H1
                            replace H := Option.bind_eq_some_iff.mp H
                            obtain ⟨t750, A1400, H⟩ := H
                            replace H : (if t750 < 0 then (some false) else (if t750 = t734 then (some true) else (some false))) = some r := H
                            have A140 := Aside0.mk A1400
                            clear A1400
                            by_cases c141 : t750 < 0
                            · rw [if_pos c141] at H
                              have c141b0 : decide (t750 < 0) = true := decide_eq_true c141
                              clear c141
                              exact absurd ((Option.some.inj H).trans hT.out) (by decide)
                            · rw [if_neg c141] at H
                              have c141b0 : decide (t750 < 0) = false := decide_eq_false c141
                              clear c141
                              by_cases c142 : t750 = t734
                              · rw [if_pos c142] at H
                                have c142b0 : (t750 == t734) = true := beq_iff_eq.mpr c142
                                have c142b1 : (t750 != t734) = false := bne_eq_false_iff_eq.mpr c142
                                clear c142
                                obtain rfl := Option.some.inj H
                                have hnb143 := NB723_697.out
                                have hnc143 := NB697_723.out
                                have hnb144 := NB723_710.out
                                have hnc144 := NB710_723.out
                                have hnb145 := NB723_716.out
                                have hnc145 := NB716_723.out
                                have hnb146 := NB723_748.out
                                have hnc146 := NB748_723.out
                                have hcz147_0 : wc.cell? ⟨gb723, 0, none⟩ = some (.int .i64 t717) := (blk_cell BK723.out 0).trans rfl
                                have hcz147_1 : wc.cell? ⟨gb723, 1, none⟩ = some (.int .i64 t718) := (blk_cell BK723.out 1).trans rfl
                                have hcz147_2 : wc.cell? ⟨gb723, 2, none⟩ = some (.slice Ao36 t735.length co36) := (blk_cell BK723.out 2).trans rfl
                                have hfz147_0 := blk_frozen BK723.out 0
                                have hfz147_1 := blk_frozen BK723.out 1
                                have hfz147_2 := blk_frozen BK723.out 2
                                go_wp2_with (first | ((with_reducible refine gate_callee (f := 36) rfl ?_); refine goesL_ (some 90) rfl rfl Try.func36 (by kernel_rfl) rfl #[.agg #[.int .i64 t717, .int .i64 t718, .slice Ao36 t735.length co36], .int .i64 1] rfl (by (try simp only [List.map_toArray, List.map_cons, List.map_nil]); first | done | rfl | (simp only [List.length_drop, List.length_take]; rfl)) ?_; (with_reducible refine (laws_heldMatrix.calls kj95 t717 t718 _ _ t735 1 t750 _ ?side1 ?side2 A140.out).mono ?_); (case side1 => repeat (first | exact (Kd.R_reads' HO_724002.out).2.2 | (with_reducible refine Kd.C_alloc ?_ _) | (with_reducible refine Kd.C_drewN ?_ _) | (with_reducible refine Kd.C_drew ?_))); (case side2 => exact (Kd.R_reads' HO_724002.out).2.1); rintro e w148 ⟨rfl, hb⟩; refine ⟨_, rfl, ?_⟩; have n0_ := Aside0.mk (Kd.R_below (by (with_reducible repeat (first | apply Kd.R_alloc | apply Kd.R_drewN | apply Kd.R_drew)); exact HO_711002.out) hb); have n1_ := Aside0.mk (Kd.R_below (by (with_reducible repeat (first | apply Kd.R_alloc | apply Kd.R_drewN | apply Kd.R_drew)); exact HO_717002.out) hb); have n2_ := Aside0.mk (Kd.R_below (by (with_reducible repeat (first | apply Kd.R_alloc | apply Kd.R_drewN | apply Kd.R_drew)); exact HO_724002.out) hb); have n3_ := Aside0.mk (Kd.R_below (by (with_reducible repeat (first | apply Kd.R_alloc | apply Kd.R_drewN | apply Kd.R_drew)); exact HO_749002.out) hb); have n4_ := Aside0.mk (blk_below (g := gb697) (o := .cells #[.int .i64 a0_0, .int .i64 a0_1, .slice A0_2 l0_2.length c0_2] 55 (0, 0)) (by (with_reducible repeat (first | refine blk_drewN ?_ _ | refine blk_drew ?_ | refine blk_alloc ?_ _)); exact BK697.out) hb); have n5_ := Aside0.mk (blk_below (g := gb710) (o := .cells #[.int .i64 t704, .int .i64 t705, .slice Ao22 t706.length co22] 26 (0, 0)) (by (with_reducible repeat (first | refine blk_drewN ?_ _ | refine blk_drew ?_ | refine blk_alloc ?_ _)); exact BK710.out) hb); have n6_ := Aside0.mk (blk_below (g := gb716) (o := .cells #[.int .i64 t711, .int .i64 t712, .slice Ao29 t732.length co29] 26 (0, 0)) (by (with_reducible repeat (first | refine blk_drewN ?_ _ | refine blk_drew ?_ | refine blk_alloc ?_ _)); exact BK716.out) hb); have n7_ := Aside0.mk (blk_below (g := gb723) (o := .cells #[.int .i64 t717, .int .i64 t718, .slice Ao36 t735.length co36] 26 (0, 0)) (by (with_reducible repeat (first | refine blk_drewN ?_ _ | refine blk_drew ?_ | refine blk_alloc ?_ _)); exact BK723.out) hb); have n8_ := Aside0.mk (blk_below (g := gb748) (o := .cells #[.int .i64 t742, .int .i64 t743, .slice Ao116 t744.length co116] 26 (0, 0)) (by (with_reducible repeat (first | refine blk_drewN ?_ _ | refine blk_drew ?_ | refine blk_alloc ?_ _)); exact BK748.out) hb); have n9_ := Aside0.mk (below_step (by repeat (first | (with_reducible first | exact HB.out | apply below_alloc | apply pw_below_drewN | apply below_drew1 | refine below_set ?_ GE697.out | refine below_set ?_ GE710.out | refine below_set ?_ GE716.out | refine below_set ?_ GE723.out | refine below_set ?_ GE748.out) | exact HB.out)) hb); clear HO_711002; clear HO_717002; clear HO_724002; clear HO_749002; clear BK697; clear BK710; clear BK716; clear BK723; clear BK748; clear HB; have HO_711002 := n0_; have HO_717002 := n1_; have HO_724002 := n2_; have HO_749002 := n3_; have BK697 := n4_; have BK710 := n5_; have BK716 := n6_; have BK723 := n7_; have BK748 := n8_; have HB := n9_; clear n0_ n1_ n2_ n3_ n4_ n5_ n6_ n7_ n8_ n9_; (try clear hb); (try clear hb2); (try clear hk); (try clear hi)))
                                go_ret
                                exact ⟨by first | rfl | (simp [errW_none, errW_some] <;> rfl) | (simp [*, errW_none, errW_some] <;> rfl), by repeat (first | (with_reducible first | exact HB.out | apply below_alloc | apply pw_below_drewN | apply below_drew1 | refine below_set ?_ GE697.out | refine below_set ?_ GE710.out | refine below_set ?_ GE716.out | refine below_set ?_ GE723.out | refine below_set ?_ GE748.out) | exact HB.out)⟩
                              · rw [if_neg c142] at H
                                have c142b0 : (t750 == t734) = false := beq_eq_false_iff_ne.mpr c142
                                have c142b1 : (t750 != t734) = true := bne_iff_ne.mpr c142
                                exact absurd ((Option.some.inj H).trans hT.out) (by decide)
                    · rw [if_neg c93] at H
                      have c93b0 : (t736 == t734) = false := beq_eq_false_iff_ne.mpr c93
                      have c93b1 : (t736 != t734) = true := bne_iff_ne.mpr c93
                      exact absurd ((Option.some.inj H).trans hT.out) (by decide)
          · replace c58 := Bool.eq_false_iff.mpr c58
            subst c58
            have H1 : (some false) = some r := by rw [if_neg (show ¬ (false = true) by decide)] at H; exact H
            clear H
            have H := H1
            clear H1
            exact absurd ((Option.some.inj H).trans hT.out) (by decide)

end Go.Proofs.Ytdlehfnlibddcaa.P
