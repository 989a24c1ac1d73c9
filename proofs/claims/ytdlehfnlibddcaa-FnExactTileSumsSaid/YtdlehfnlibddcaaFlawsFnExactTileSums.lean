-- Written by tools/seatprint.py (over the kit's print, changed in memory). Not trusted: Lean checks it.
import Derived.Test.YtdlehfnlibddcaaP0
import Derived.Test.YtdlehfnlibddcaaFlawseqIntS
import Derived.Test.YtdlehfnlibddcaaFlawsmarkIntS
import Derived.Test.YtdlehfnlibddcaaFlawsheldIntS
import Derived.Test.YtdlehfnlibddcaaFimplTileSums
import Derived.Test.YtdlehfnlibddcaaFlawsszPicture
import Derived.Test.YtdlehfnlibddcaaFlawstoPicture
import Derived.Test.YtdlehfnlibddcaaFlawseqPicture
import Derived.Test.YtdlehfnlibddcaaFlawsmarkPicture
import Derived.Test.YtdlehfnlibddcaaFspecTileSums
namespace Go.Proofs.Ytdlehfnlibddcaa.P
open Go.RowKit Go.Proofs.YtdlehfnlibddcaaW.PrintWords Go.Proofs.YtdlehfnlibddcaaW.PrintLast Go.Proofs.YtdlehfnlibddcaaW.PrintMore
attribute [local go_sem] max2_int min2_int max_two min_two max_three min_three max_four min_four   -- for this text's walks alone
set_option linter.unusedVariables false
set_option linter.unusedSimpArgs false

/-! ### laws_FnExactTileSums: function 10 -/
def laws_FnExactTileSums.j0 : Nat → Int → Int → List Int → List Int → Bool → Int → Int → List Int → Option (Bool)
  | 0, _, _, _, _, _, _, _, _ => none
  | k + 1, x1, x2, x8, x10, x50, x620000, x620001, x620002 => if x50 = true then (some false) else ((laws_markIntS.f k x10 1).bind fun bt648 => ((laws_heldIntS.f k bt648.2 1).bind fun t650 => (if t650 < 0 then (some false) else (if t650 = bt648.1 then ((laws_toPicture.f k x620000 x620001 x620002).bind fun bt651 => ((impl_TileSums.f k bt651.1 bt651.2.1 bt651.2.2 x1 x2).bind fun t656 => ((laws_eqIntS.f k t656 x8).bind fun t659 => (if t659 = true then ((laws_heldIntS.f k bt648.2 1).bind fun t660 => (if t660 < 0 then (some false) else (if t660 = bt648.1 then (some true) else (some false)))) else (some false))))) else (some false)))))
def laws_FnExactTileSums.f (k : Nat) (a0_0 : Int) (a0_1 : Int) (l0_2 : List Int) (a1 : Int) (a2 : Int) : Option (Bool) := (laws_szPicture.f a0_0 a0_1 l0_2 1048576).bind fun t620 => (if t620 < 0 then (some true) else ((laws_toPicture.f k a0_0 a0_1 l0_2).bind fun bt621 => ((spec_TileSums.f k bt621.1 bt621.2.1 bt621.2.2 a1 a2).bind fun t626 => ((laws_toPicture.f k a0_0 a0_1 l0_2).bind fun bt629 => ((impl_TileSums.f k bt629.1 bt629.2.1 bt629.2.2 a1 a2).bind fun t635 => ((laws_eqIntS.f k t635 t626).bind fun t638 => (if t638 = true then ((laws_toPicture.f k a0_0 a0_1 l0_2).bind fun bt639 => ((laws_eqPicture.f k bt629.1 bt629.2.1 bt629.2.2 bt639.1 bt639.2.1 bt639.2.2).bind fun t644 => (if t644 = true then ((laws_markPicture.f k bt629.1 bt629.2.1 bt629.2.2 1).bind fun bt645 => (if bt645.1 < 0 then (laws_FnExactTileSums.j0 k a1 a2 t626 t635 true a0_0 a0_1 l0_2) else ((laws_eqIntS.f k t635 t626).bind fun t647 => (laws_FnExactTileSums.j0 k a1 a2 t626 t635 (!t647) a0_0 a0_1 l0_2)))) else (some false)))) else (some false))))))))
theorem laws_FnExactTileSums.mono_l : ∀ k, (∀ y0 y1 y2 y3 y4 y5 y6 y7, LeO (laws_FnExactTileSums.j0 k y0 y1 y2 y3 y4 y5 y6 y7) (laws_FnExactTileSums.j0 (k + 1) y0 y1 y2 y3 y4 y5 y6 y7))
  | 0 => fun _ _ _ _ _ _ _ _ r h => by simp [laws_FnExactTileSums.j0] at h
  | k + 1 => by
    have ih0 := laws_FnExactTileSums.mono_l k
    · intro y0 y1 y2 y3 y4 y5 y6 y7
      unfold laws_FnExactTileSums.j0
      repeat' first
      | (with_reducible exact ih0 _ _ _ _ _ _ _ _)
      | (with_reducible exact impl_TileSums.mono _ _ _ _ _ _)
      | (with_reducible exact laws_eqIntS.mono _ _ _)
      | (with_reducible exact laws_eqPicture.mono _ _ _ _ _ _ _)
      | (with_reducible exact laws_heldIntS.mono _ _ _)
      | (with_reducible exact laws_markIntS.mono _ _ _)
      | (with_reducible exact laws_markPicture.mono _ _ _ _ _)
      | (with_reducible exact laws_toPicture.mono _ _ _ _)
      | (with_reducible exact spec_TileSums.mono _ _ _ _ _ _)
      | (with_reducible exact LeO.refl _)
      | (with_reducible exact LeO.none _)
      | (with_reducible refine LeO.ite ?_ ?_)
      | (with_reducible refine LeO.bind ?_ (fun _ => ?_))
      | exact ih0 _ _ _ _ _ _ _ _
      | exact impl_TileSums.mono _ _ _ _ _ _
      | exact laws_eqIntS.mono _ _ _
      | exact laws_eqPicture.mono _ _ _ _ _ _ _
      | exact laws_heldIntS.mono _ _ _
      | exact laws_markIntS.mono _ _ _
      | exact laws_markPicture.mono _ _ _ _ _
      | exact laws_toPicture.mono _ _ _ _
      | exact spec_TileSums.mono _ _ _ _ _ _
      | exact LeO.none _
      | refine LeO.ite ?_ ?_
      | refine LeO.bind ?_ (fun _ => ?_)
theorem laws_FnExactTileSums.mono : ∀ a0 a1 a2 a3 a4 k, LeO (laws_FnExactTileSums.f k a0 a1 a2 a3 a4) (laws_FnExactTileSums.f (k + 1) a0 a1 a2 a3 a4) := by
  intro a0 a1 a2 a3 a4 k
  have ih0 := laws_FnExactTileSums.mono_l k
  unfold laws_FnExactTileSums.f
  repeat' first
      | (with_reducible exact ih0 _ _ _ _ _ _ _ _)
      | (with_reducible exact impl_TileSums.mono _ _ _ _ _ _)
      | (with_reducible exact laws_eqIntS.mono _ _ _)
      | (with_reducible exact laws_eqPicture.mono _ _ _ _ _ _ _)
      | (with_reducible exact laws_heldIntS.mono _ _ _)
      | (with_reducible exact laws_markIntS.mono _ _ _)
      | (with_reducible exact laws_markPicture.mono _ _ _ _ _)
      | (with_reducible exact laws_toPicture.mono _ _ _ _)
      | (with_reducible exact spec_TileSums.mono _ _ _ _ _ _)
      | (with_reducible exact LeO.refl _)
      | (with_reducible exact LeO.none _)
      | (with_reducible refine LeO.ite ?_ ?_)
      | (with_reducible refine LeO.bind ?_ (fun _ => ?_))
      | exact ih0 _ _ _ _ _ _ _ _
      | exact impl_TileSums.mono _ _ _ _ _ _
      | exact laws_eqIntS.mono _ _ _
      | exact laws_eqPicture.mono _ _ _ _ _ _ _
      | exact laws_heldIntS.mono _ _ _
      | exact laws_markIntS.mono _ _ _
      | exact laws_markPicture.mono _ _ _ _ _
      | exact laws_toPicture.mono _ _ _ _
      | exact spec_TileSums.mono _ _ _ _ _ _
      | exact LeO.none _
      | refine LeO.ite ?_ ?_
      | refine LeO.bind ?_ (fun _ => ?_)
set_option maxHeartbeats 8000000 in
set_option maxRecDepth 100000 in
theorem laws_FnExactTileSums.calls (k : Nat) (a0_0 : Int) (a0_1 : Int) (A0_2 : Option Addr) (c0_2 : Nat) (l0_2 : List Int) (a1 : Int) (a2 : Int) (r : Bool) (w : World) (hr0_2 : Kd.C (Kd.int .i64) w A0_2 l0_2.length l0_2) (hc0_2 : l0_2.length ≤ c0_2) (hT : Aside0 (r = true)) (h : laws_FnExactTileSums.f k a0_0 a0_1 l0_2 a1 a2 = some r) :
    Calls Try.prog 10 #[.agg #[.int .i64 a0_0, .int .i64 a0_1, .slice A0_2 l0_2.length c0_2], .int .i64 a1, .int .i64 a2] w fun e w' => e = .returned (.bool r) ∧ Below w.heap.size w w' := by
  have hu48 := Try.underlying48
  have hu41 := Try.underlying41
  have HR0_2 := Aside0.mk hr0_2
  have HC0_2 := Aside0.mk hc0_2
  clear hr0_2 hc0_2
  have HB := Aside0.mk (Below.refl w.heap.size w)
  have H : ((laws_szPicture.f a0_0 a0_1 l0_2 1048576).bind fun t620 => (if t620 < 0 then (some true) else ((laws_toPicture.f k a0_0 a0_1 l0_2).bind fun bt621 => ((spec_TileSums.f k bt621.1 bt621.2.1 bt621.2.2 a1 a2).bind fun t626 => ((laws_toPicture.f k a0_0 a0_1 l0_2).bind fun bt629 => ((impl_TileSums.f k bt629.1 bt629.2.1 bt629.2.2 a1 a2).bind fun t635 => ((laws_eqIntS.f k t635 t626).bind fun t638 => (if t638 = true then ((laws_toPicture.f k a0_0 a0_1 l0_2).bind fun bt639 => ((laws_eqPicture.f k bt629.1 bt629.2.1 bt629.2.2 bt639.1 bt639.2.1 bt639.2.2).bind fun t644 => (if t644 = true then ((laws_markPicture.f k bt629.1 bt629.2.1 bt629.2.2 1).bind fun bt645 => (if bt645.1 < 0 then (laws_FnExactTileSums.j0 k a1 a2 t626 t635 true a0_0 a0_1 l0_2) else ((laws_eqIntS.f k t635 t626).bind fun t647 => (laws_FnExactTileSums.j0 k a1 a2 t626 t635 (!t647) a0_0 a0_1 l0_2)))) else (some false)))) else (some false))))))))) = some r := h
  clear h
  replace H := Option.bind_eq_some_iff.mp H
  obtain ⟨t620, A40, H⟩ := H
  replace H : (if t620 < 0 then (some true) else ((laws_toPicture.f k a0_0 a0_1 l0_2).bind fun bt621 => ((spec_TileSums.f k bt621.1 bt621.2.1 bt621.2.2 a1 a2).bind fun t626 => ((laws_toPicture.f k a0_0 a0_1 l0_2).bind fun bt629 => ((impl_TileSums.f k bt629.1 bt629.2.1 bt629.2.2 a1 a2).bind fun t635 => ((laws_eqIntS.f k t635 t626).bind fun t638 => (if t638 = true then ((laws_toPicture.f k a0_0 a0_1 l0_2).bind fun bt639 => ((laws_eqPicture.f k bt629.1 bt629.2.1 bt629.2.2 bt639.1 bt639.2.1 bt639.2.2).bind fun t644 => (if t644 = true then ((laws_markPicture.f k bt629.1 bt629.2.1 bt629.2.2 1).bind fun bt645 => (if bt645.1 < 0 then (laws_FnExactTileSums.j0 k a1 a2 t626 t635 true a0_0 a0_1 l0_2) else ((laws_eqIntS.f k t635 t626).bind fun t647 => (laws_FnExactTileSums.j0 k a1 a2 t626 t635 (!t647) a0_0 a0_1 l0_2)))) else (some false)))) else (some false)))))))) = some r := H
  have A4 := Aside0.mk A40
  clear A40
  by_cases c5 : t620 < 0
  · rw [if_pos c5] at H
    have c5b0 : decide (t620 < 0) = true := decide_eq_true c5
    clear c5
    obtain rfl := Option.some.inj H
    go_enter Try.func10, Try.ntmps10
    go_wp2_with (first | ((with_reducible refine gate_dst (N := 3) rfl ?_); refine box_event ?hg (N := 3) ?hd (cs := #[.int .i64 a0_0, .int .i64 a0_1, .slice A0_2 l0_2.length c0_2]) (t := 48) ?hr ?_; (case hd => rfl); (case hg => rfl); (case hr => first | (go_simp; done) | (go_simp; rfl)); intro gb619 hg w6 hbox hb; have n0_ := Aside0.mk (below_step (by repeat (first | (with_reducible first | exact HB.out | apply below_alloc | apply pw_below_drewN | apply below_drew1) | exact HB.out)) hb); have n1_ := Aside0.mk (hbox); have n2_ := Aside0.mk ((by rw [hg]; exact (below_size (by repeat (first | (with_reducible first | exact HB.out | apply below_alloc | apply pw_below_drewN | apply below_drew1) | exact HB.out))) : w.heap.size ≤ gb619)); have n3_ := Aside0.mk ((by rw [hg]; exact (below_size (by repeat (first | (with_reducible first | exact HB.out | apply below_alloc | apply pw_below_drewN | apply below_drew1) | exact HB.out))) : w.heap.size ≤ gb619)); clear HB; have HB := n0_; have BK619 := n1_; have GW619 := n2_; have GE619 := n3_; clear n0_ n1_ n2_ n3_; clear hb hbox hg; have hcz7_0 : w6.cell? ⟨gb619, 0, none⟩ = some (.int .i64 a0_0) := (blk_cell BK619.out 0).trans rfl; have hcz7_1 : w6.cell? ⟨gb619, 1, none⟩ = some (.int .i64 a0_1) := (blk_cell BK619.out 1).trans rfl; have hcz7_2 : w6.cell? ⟨gb619, 2, none⟩ = some (.slice A0_2 l0_2.length c0_2) := (blk_cell BK619.out 2).trans rfl; have hfz7_0 := blk_frozen BK619.out 0; have hfz7_1 := blk_frozen BK619.out 1; have hfz7_2 := blk_frozen BK619.out 2) | ((with_reducible refine gate_callee (f := 46) rfl ?_); refine goesL_ (some 17) rfl rfl Try.func46 (by kernel_rfl) rfl #[.agg #[.int .i64 a0_0, .int .i64 a0_1, .slice A0_2 l0_2.length c0_2], .int .i64 1048576] rfl (by (try simp only [List.map_toArray, List.map_cons, List.map_nil]); first | done | rfl | (simp only [List.length_drop, List.length_take]; rfl)) ?_; (with_reducible refine (laws_szPicture.calls a0_0 a0_1 _ _ l0_2 1048576 t620 _ ?side1 ?side2 A4.out).mono ?_); (case side1 => repeat (first | exact (Kd.C_below HR0_2.out HB.out) | (with_reducible refine Kd.C_alloc ?_ _) | (with_reducible refine Kd.C_drewN ?_ _) | (with_reducible refine Kd.C_drew ?_))); (case side2 => exact HC0_2.out); rintro e w8 ⟨rfl, hb⟩; refine ⟨_, rfl, ?_⟩; have n0_ := Aside0.mk (blk_below (g := gb619) (o := .cells #[.int .i64 a0_0, .int .i64 a0_1, .slice A0_2 l0_2.length c0_2] 48 (0, 0)) (by (with_reducible repeat (first | refine blk_drewN ?_ _ | refine blk_drew ?_ | refine blk_alloc ?_ _)); exact BK619.out) hb); have n1_ := Aside0.mk (below_step (by repeat (first | (with_reducible first | exact HB.out | apply below_alloc | apply pw_below_drewN | apply below_drew1 | refine below_set ?_ GE619.out) | exact HB.out)) hb); clear BK619; clear HB; have BK619 := n0_; have HB := n1_; clear n0_ n1_; (try clear hb); (try clear hb2); (try clear hk); (try clear hi)))
    go_ret
    exact ⟨by first | rfl | (simp [errW_none, errW_some] <;> rfl) | (simp [*, errW_none, errW_some] <;> rfl), by repeat (first | (with_reducible first | exact HB.out | apply below_alloc | apply pw_below_drewN | apply below_drew1 | refine below_set ?_ GE619.out) | exact HB.out)⟩
  · rw [if_neg c5] at H
    have c5b0 : decide (t620 < 0) = false := decide_eq_false c5
    clear c5
    replace H := Option.bind_eq_some_iff.mp H
    obtain ⟨⟨t621, t622, t623⟩, A90, H⟩ := H
    replace H : ((spec_TileSums.f k t621 t622 t623 a1 a2).bind fun t626 => ((laws_toPicture.f k a0_0 a0_1 l0_2).bind fun bt629 => ((impl_TileSums.f k bt629.1 bt629.2.1 bt629.2.2 a1 a2).bind fun t635 => ((laws_eqIntS.f k t635 t626).bind fun t638 => (if t638 = true then ((laws_toPicture.f k a0_0 a0_1 l0_2).bind fun bt639 => ((laws_eqPicture.f k bt629.1 bt629.2.1 bt629.2.2 bt639.1 bt639.2.1 bt639.2.2).bind fun t644 => (if t644 = true then ((laws_markPicture.f k bt629.1 bt629.2.1 bt629.2.2 1).bind fun bt645 => (if bt645.1 < 0 then (laws_FnExactTileSums.j0 k a1 a2 t626 t635 true a0_0 a0_1 l0_2) else ((laws_eqIntS.f k t635 t626).bind fun t647 => (laws_FnExactTileSums.j0 k a1 a2 t626 t635 (!t647) a0_0 a0_1 l0_2)))) else (some false)))) else (some false)))))) = some r := H
    have A9 := Aside0.mk A90
    clear A90
    replace H := Option.bind_eq_some_iff.mp H
    obtain ⟨t626, A100, H⟩ := H
    replace H : ((laws_toPicture.f k a0_0 a0_1 l0_2).bind fun bt629 => ((impl_TileSums.f k bt629.1 bt629.2.1 bt629.2.2 a1 a2).bind fun t635 => ((laws_eqIntS.f k t635 t626).bind fun t638 => (if t638 = true then ((laws_toPicture.f k a0_0 a0_1 l0_2).bind fun bt639 => ((laws_eqPicture.f k bt629.1 bt629.2.1 bt629.2.2 bt639.1 bt639.2.1 bt639.2.2).bind fun t644 => (if t644 = true then ((laws_markPicture.f k bt629.1 bt629.2.1 bt629.2.2 1).bind fun bt645 => (if bt645.1 < 0 then (laws_FnExactTileSums.j0 k a1 a2 t626 t635 true a0_0 a0_1 l0_2) else ((laws_eqIntS.f k t635 t626).bind fun t647 => (laws_FnExactTileSums.j0 k a1 a2 t626 t635 (!t647) a0_0 a0_1 l0_2)))) else (some false)))) else (some false))))) = some r := H
    have A10 := Aside0.mk A100
    clear A100
    replace H := Option.bind_eq_some_iff.mp H
    obtain ⟨⟨t629, t630, t631⟩, A110, H⟩ := H
    replace H : ((impl_TileSums.f k t629 t630 t631 a1 a2).bind fun t635 => ((laws_eqIntS.f k t635 t626).bind fun t638 => (if t638 = true then ((laws_toPicture.f k a0_0 a0_1 l0_2).bind fun bt639 => ((laws_eqPicture.f k t629 t630 t631 bt639.1 bt639.2.1 bt639.2.2).bind fun t644 => (if t644 = true then ((laws_markPicture.f k t629 t630 t631 1).bind fun bt645 => (if bt645.1 < 0 then (laws_FnExactTileSums.j0 k a1 a2 t626 t635 true a0_0 a0_1 l0_2) else ((laws_eqIntS.f k t635 t626).bind fun t647 => (laws_FnExactTileSums.j0 k a1 a2 t626 t635 (!t647) a0_0 a0_1 l0_2)))) else (some false)))) else (some false)))) = some r := H
    have A11 := Aside0.mk A110
    clear A110
    replace H := Option.bind_eq_some_iff.mp H
    obtain ⟨t635, A120, H⟩ := H
    replace H : ((laws_eqIntS.f k t635 t626).bind fun t638 => (if t638 = true then ((laws_toPicture.f k a0_0 a0_1 l0_2).bind fun bt639 => ((laws_eqPicture.f k t629 t630 t631 bt639.1 bt639.2.1 bt639.2.2).bind fun t644 => (if t644 = true then ((laws_markPicture.f k t629 t630 t631 1).bind fun bt645 => (if bt645.1 < 0 then (laws_FnExactTileSums.j0 k a1 a2 t626 t635 true a0_0 a0_1 l0_2) else ((laws_eqIntS.f k t635 t626).bind fun t647 => (laws_FnExactTileSums.j0 k a1 a2 t626 t635 (!t647) a0_0 a0_1 l0_2)))) else (some false)))) else (some false))) = some r := H
    have A12 := Aside0.mk A120
    clear A120
    replace H := Option.bind_eq_some_iff.mp H
    obtain ⟨t638, A130, H⟩ := H
    replace H : (if t638 = true then ((laws_toPicture.f k a0_0 a0_1 l0_2).bind fun bt639 => ((laws_eqPicture.f k t629 t630 t631 bt639.1 bt639.2.1 bt639.2.2).bind fun t644 => (if t644 = true then ((laws_markPicture.f k t629 t630 t631 1).bind fun bt645 => (if bt645.1 < 0 then (laws_FnExactTileSums.j0 k a1 a2 t626 t635 true a0_0 a0_1 l0_2) else ((laws_eqIntS.f k t635 t626).bind fun t647 => (laws_FnExactTileSums.j0 k a1 a2 t626 t635 (!t647) a0_0 a0_1 l0_2)))) else (some false)))) else (some false)) = some r := H
    have A13 := Aside0.mk A130
    clear A130
    by_cases c14 : t638 = true
    · subst c14
      have H1 : ((laws_toPicture.f k a0_0 a0_1 l0_2).bind fun bt639 => ((laws_eqPicture.f k t629 t630 t631 bt639.1 bt639.2.1 bt639.2.2).bind fun t644 => (if t644 = true then ((laws_markPicture.f k t629 t630 t631 1).bind fun bt645 => (if bt645.1 < 0 then (laws_FnExactTileSums.j0 k a1 a2 t626 t635 true a0_0 a0_1 l0_2) else ((laws_eqIntS.f k t635 t626).bind fun t647 => (laws_FnExactTileSums.j0 k a1 a2 t626 t635 (!t647) a0_0 a0_1 l0_2)))) else (some false)))) = some r := by rw [if_pos rfl] at H; exact H
      clear H
      have H := H1
      clear H1
      replace H := Option.bind_eq_some_iff.mp H
      obtain ⟨⟨t639, t640, t641⟩, A150, H⟩ := H
      replace H : ((laws_eqPicture.f k t629 t630 t631 t639 t640 t641).bind fun t644 => (if t644 = true then ((laws_markPicture.f k t629 t630 t631 1).bind fun bt645 => (if bt645.1 < 0 then (laws_FnExactTileSums.j0 k a1 a2 t626 t635 true a0_0 a0_1 l0_2) else ((laws_eqIntS.f k t635 t626).bind fun t647 => (laws_FnExactTileSums.j0 k a1 a2 t626 t635 (!t647) a0_0 a0_1 l0_2)))) else (some false))) = some r := H
      have A15 := Aside0.mk A150
      clear A150
      replace H := Option.bind_eq_some_iff.mp H
      obtain ⟨t644, A160, H⟩ := H
      replace H : (if t644 = true then ((laws_markPicture.f k t629 t630 t631 1).bind fun bt645 => (if bt645.1 < 0 then (laws_FnExactTileSums.j0 k a1 a2 t626 t635 true a0_0 a0_1 l0_2) else ((laws_eqIntS.f k t635 t626).bind fun t647 => (laws_FnExactTileSums.j0 k a1 a2 t626 t635 (!t647) a0_0 a0_1 l0_2)))) else (some false)) = some r := H
      have A16 := Aside0.mk A160
      clear A160
      by_cases c17 : t644 = true
      · subst c17
        have H1 : ((laws_markPicture.f k t629 t630 t631 1).bind fun bt645 => (if bt645.1 < 0 then (laws_FnExactTileSums.j0 k a1 a2 t626 t635 true a0_0 a0_1 l0_2) else ((laws_eqIntS.f k t635 t626).bind fun t647 => (laws_FnExactTileSums.j0 k a1 a2 t626 t635 (!t647) a0_0 a0_1 l0_2)))) = some r := by rw [if_pos rfl] at H; exact H
        clear H
        have H := H1
        clear H1
        replace H := Option.bind_eq_some_iff.mp H
        obtain ⟨⟨t645, t646⟩, A180, H⟩ := H
        replace H : (if t645 < 0 then (laws_FnExactTileSums.j0 k a1 a2 t626 t635 true a0_0 a0_1 l0_2) else ((laws_eqIntS.f k t635 t626).bind fun t647 => (laws_FnExactTileSums.j0 k a1 a2 t626 t635 (!t647) a0_0 a0_1 l0_2))) = some r := H
        have A18 := Aside0.mk A180
        clear A180
        have HC19 := Aside0.mk H
        clear H
        go_enter Try.func10, Try.ntmps10
        try go_wp2_with (first | ((with_reducible refine gate_dst (N := 3) rfl ?_); refine box_event ?hg (N := 3) ?hd (cs := #[.int .i64 a0_0, .int .i64 a0_1, .slice A0_2 l0_2.length c0_2]) (t := 48) ?hr ?_; (case hd => rfl); (case hg => rfl); (case hr => first | (go_simp; done) | (go_simp; rfl)); intro gb619 hg w20 hbox hb; have n0_ := Aside0.mk (below_step (by repeat (first | (with_reducible first | exact HB.out | apply below_alloc | apply pw_below_drewN | apply below_drew1) | exact HB.out)) hb); have n1_ := Aside0.mk (hbox); have n2_ := Aside0.mk ((by rw [hg]; exact (below_size (by repeat (first | (with_reducible first | exact HB.out | apply below_alloc | apply pw_below_drewN | apply below_drew1) | exact HB.out))) : w.heap.size ≤ gb619)); have n3_ := Aside0.mk ((by rw [hg]; exact (below_size (by repeat (first | (with_reducible first | exact HB.out | apply below_alloc | apply pw_below_drewN | apply below_drew1) | exact HB.out))) : w.heap.size ≤ gb619)); clear HB; have HB := n0_; have BK619 := n1_; have GW619 := n2_; have GE619 := n3_; clear n0_ n1_ n2_ n3_; clear hb hbox hg; have hcz21_0 : w20.cell? ⟨gb619, 0, none⟩ = some (.int .i64 a0_0) := (blk_cell BK619.out 0).trans rfl; have hcz21_1 : w20.cell? ⟨gb619, 1, none⟩ = some (.int .i64 a0_1) := (blk_cell BK619.out 1).trans rfl; have hcz21_2 : w20.cell? ⟨gb619, 2, none⟩ = some (.slice A0_2 l0_2.length c0_2) := (blk_cell BK619.out 2).trans rfl; have hfz21_0 := blk_frozen BK619.out 0; have hfz21_1 := blk_frozen BK619.out 1; have hfz21_2 := blk_frozen BK619.out 2) | ((with_reducible refine gate_callee (f := 46) rfl ?_); refine goesL_ (some 17) rfl rfl Try.func46 (by kernel_rfl) rfl #[.agg #[.int .i64 a0_0, .int .i64 a0_1, .slice A0_2 l0_2.length c0_2], .int .i64 1048576] rfl (by (try simp only [List.map_toArray, List.map_cons, List.map_nil]); first | done | rfl | (simp only [List.length_drop, List.length_take]; rfl)) ?_; (with_reducible refine (laws_szPicture.calls a0_0 a0_1 _ _ l0_2 1048576 t620 _ ?side1 ?side2 A4.out).mono ?_); (case side1 => repeat (first | exact (Kd.C_below HR0_2.out HB.out) | (with_reducible refine Kd.C_alloc ?_ _) | (with_reducible refine Kd.C_drewN ?_ _) | (with_reducible refine Kd.C_drew ?_))); (case side2 => exact HC0_2.out); rintro e w22 ⟨rfl, hb⟩; refine ⟨_, rfl, ?_⟩; have n0_ := Aside0.mk (blk_below (g := gb619) (o := .cells #[.int .i64 a0_0, .int .i64 a0_1, .slice A0_2 l0_2.length c0_2] 48 (0, 0)) (by (with_reducible repeat (first | refine blk_drewN ?_ _ | refine blk_drew ?_ | refine blk_alloc ?_ _)); exact BK619.out) hb); have n1_ := Aside0.mk (below_step (by repeat (first | (with_reducible first | exact HB.out | apply below_alloc | apply pw_below_drewN | apply below_drew1 | refine below_set ?_ GE619.out) | exact HB.out)) hb); clear BK619; clear HB; have BK619 := n0_; have HB := n1_; clear n0_ n1_; (try clear hb); (try clear hb2); (try clear hk); (try clear hi); have hcz23_0 : w22.cell? ⟨gb619, 0, none⟩ = some (.int .i64 a0_0) := (blk_cell BK619.out 0).trans rfl; have hcz23_1 : w22.cell? ⟨gb619, 1, none⟩ = some (.int .i64 a0_1) := (blk_cell BK619.out 1).trans rfl; have hcz23_2 : w22.cell? ⟨gb619, 2, none⟩ = some (.slice A0_2 l0_2.length c0_2) := (blk_cell BK619.out 2).trans rfl; have hfz23_0 := blk_frozen BK619.out 0; have hfz23_1 := blk_frozen BK619.out 1; have hfz23_2 := blk_frozen BK619.out 2) | ((with_reducible refine gate_callee (f := 48) rfl ?_); refine goesL_ (some 21) rfl rfl Try.func48 (by kernel_rfl) rfl #[.agg #[.int .i64 a0_0, .int .i64 a0_1, .slice A0_2 l0_2.length c0_2]] rfl (by (try simp only [List.map_toArray, List.map_cons, List.map_nil]); first | done | rfl | (simp only [List.length_drop, List.length_take]; rfl)) ?_; (with_reducible refine (laws_toPicture.calls k a0_0 a0_1 _ _ l0_2 t621 t622 t623 _ ?side1 ?side2 A9.out).mono ?_); (case side1 => repeat (first | exact (Kd.C_below HR0_2.out HB.out) | (with_reducible refine Kd.C_alloc ?_ _) | (with_reducible refine Kd.C_drewN ?_ _) | (with_reducible refine Kd.C_drew ?_))); (case side2 => exact HC0_2.out); rintro e w24 ⟨v624, rfl, ho0, hb⟩; refine ⟨_, rfl, ?_⟩; have n0_ := Aside0.mk (Kd.R_lower ho0 (below_size (by repeat (first | (with_reducible first | exact HB.out | apply below_alloc | apply pw_below_drewN | apply below_drew1 | refine below_set ?_ GE619.out) | exact HB.out)))); have n1_ := Aside0.mk (blk_below (g := gb619) (o := .cells #[.int .i64 a0_0, .int .i64 a0_1, .slice A0_2 l0_2.length c0_2] 48 (0, 0)) (by (with_reducible repeat (first | refine blk_drewN ?_ _ | refine blk_drew ?_ | refine blk_alloc ?_ _)); exact BK619.out) hb); have n2_ := Aside0.mk (below_step (by repeat (first | (with_reducible first | exact HB.out | apply below_alloc | apply pw_below_drewN | apply below_drew1 | refine below_set ?_ GE619.out) | exact HB.out)) hb); clear BK619; clear HB; have HO625 := n0_; have BK619 := n1_; have HB := n2_; clear n0_ n1_ n2_; (try clear hb); (try clear hb2); (try clear hk); (try clear hi); (try clear ho0); obtain ⟨Ao25, co25, eo25⟩ := Kd.R_slice HO625.out; subst eo25) | ((with_reducible refine gate_callee (f := 52) rfl ?_); refine goesL_ (some 24) rfl rfl Try.func52 (by kernel_rfl) rfl #[.agg #[.int .i64 t621, .int .i64 t622, .slice Ao25 t623.length co25], .int .i64 a1, .int .i64 a2] rfl (by (try simp only [List.map_toArray, List.map_cons, List.map_nil]); first | done | rfl | (simp only [List.length_drop, List.length_take]; rfl)) ?_; (with_reducible refine (spec_TileSums.calls k t621 t622 _ _ t623 a1 a2 t626 _ ?side1 ?side2 A10.out).mono ?_); (case side1 => repeat (first | exact (Kd.R_reads' HO625.out).2.2 | (with_reducible refine Kd.C_alloc ?_ _) | (with_reducible refine Kd.C_drewN ?_ _) | (with_reducible refine Kd.C_drew ?_))); (case side2 => exact (Kd.R_reads' HO625.out).2.1); rintro e w26 ⟨v627, rfl, ho0, hb⟩; refine ⟨_, rfl, ?_⟩; have n0_ := Aside0.mk (Kd.R_elder' (by (with_reducible repeat (first | apply Kd.R_alloc | apply Kd.R_drewN | apply Kd.R_drew)); exact HO625.out) (Kd.R_base ho0) hb); have n1_ := Aside0.mk (Kd.R_lower (Kd.R_new' ho0 (Kd.R_lt (by (with_reducible repeat (first | apply Kd.R_alloc | apply Kd.R_drewN | apply Kd.R_drew)); exact HO625.out))) (below_size (by repeat (first | (with_reducible first | exact HB.out | apply below_alloc | apply pw_below_drewN | apply below_drew1 | refine below_set ?_ GE619.out) | exact HB.out)))); have n2_ := Aside0.mk (blk_below (g := gb619) (o := .cells #[.int .i64 a0_0, .int .i64 a0_1, .slice A0_2 l0_2.length c0_2] 48 (0, 0)) (by (with_reducible repeat (first | refine blk_drewN ?_ _ | refine blk_drew ?_ | refine blk_alloc ?_ _)); exact BK619.out) hb); have n3_ := Aside0.mk (below_step (by repeat (first | (with_reducible first | exact HB.out | apply below_alloc | apply pw_below_drewN | apply below_drew1 | refine below_set ?_ GE619.out) | exact HB.out)) hb); clear HO625; clear BK619; clear HB; have HO625 := n0_; have HO628 := n1_; have BK619 := n2_; have HB := n3_; clear n0_ n1_ n2_ n3_; (try clear hb); (try clear hb2); (try clear hk); (try clear hi); (try clear ho0); have hcz27_0 : w26.cell? ⟨gb619, 0, none⟩ = some (.int .i64 a0_0) := (blk_cell BK619.out 0).trans rfl; have hcz27_1 : w26.cell? ⟨gb619, 1, none⟩ = some (.int .i64 a0_1) := (blk_cell BK619.out 1).trans rfl; have hcz27_2 : w26.cell? ⟨gb619, 2, none⟩ = some (.slice A0_2 l0_2.length c0_2) := (blk_cell BK619.out 2).trans rfl; have hfz27_0 := blk_frozen BK619.out 0; have hfz27_1 := blk_frozen BK619.out 1; have hfz27_2 := blk_frozen BK619.out 2) | ((with_reducible refine gate_callee (f := 48) rfl ?_); refine goesL_ (some 26) rfl rfl Try.func48 (by kernel_rfl) rfl #[.agg #[.int .i64 a0_0, .int .i64 a0_1, .slice A0_2 l0_2.length c0_2]] rfl (by (try simp only [List.map_toArray, List.map_cons, List.map_nil]); first | done | rfl | (simp only [List.length_drop, List.length_take]; rfl)) ?_; (with_reducible refine (laws_toPicture.calls k a0_0 a0_1 _ _ l0_2 t629 t630 t631 _ ?side1 ?side2 A11.out).mono ?_); (case side1 => repeat (first | exact (Kd.C_below HR0_2.out HB.out) | (with_reducible refine Kd.C_alloc ?_ _) | (with_reducible refine Kd.C_drewN ?_ _) | (with_reducible refine Kd.C_drew ?_))); (case side2 => exact HC0_2.out); rintro e w28 ⟨v632, rfl, ho0, hb⟩; refine ⟨_, rfl, ?_⟩; have n0_ := Aside0.mk (Kd.R_elder' (by (with_reducible repeat (first | apply Kd.R_alloc | apply Kd.R_drewN | apply Kd.R_drew)); exact HO625.out) (Kd.R_base ho0) hb); have n1_ := Aside0.mk (Kd.R_elder' (by (with_reducible repeat (first | apply Kd.R_alloc | apply Kd.R_drewN | apply Kd.R_drew)); exact HO628.out) (Kd.R_base ho0) hb); have n2_ := Aside0.mk (Kd.R_lower (Kd.R_new' (Kd.R_new' ho0 (Kd.R_lt (by (with_reducible repeat (first | apply Kd.R_alloc | apply Kd.R_drewN | apply Kd.R_drew)); exact HO625.out))) (Kd.R_lt (by (with_reducible repeat (first | apply Kd.R_alloc | apply Kd.R_drewN | apply Kd.R_drew)); exact HO628.out))) (below_size (by repeat (first | (with_reducible first | exact HB.out | apply below_alloc | apply pw_below_drewN | apply below_drew1 | refine below_set ?_ GE619.out) | exact HB.out)))); have n3_ := Aside0.mk (blk_below (g := gb619) (o := .cells #[.int .i64 a0_0, .int .i64 a0_1, .slice A0_2 l0_2.length c0_2] 48 (0, 0)) (by (with_reducible repeat (first | refine blk_drewN ?_ _ | refine blk_drew ?_ | refine blk_alloc ?_ _)); exact BK619.out) hb); have n4_ := Aside0.mk (below_step (by repeat (first | (with_reducible first | exact HB.out | apply below_alloc | apply pw_below_drewN | apply below_drew1 | refine below_set ?_ GE619.out) | exact HB.out)) hb); clear HO625; clear HO628; clear BK619; clear HB; have HO625 := n0_; have HO628 := n1_; have HO633 := n2_; have BK619 := n3_; have HB := n4_; clear n0_ n1_ n2_ n3_ n4_; (try clear hb); (try clear hb2); (try clear hk); (try clear hi); (try clear ho0)) | ((with_reducible refine gate_dst (N := 9) rfl ?_); refine box_event ?hg (N := 9) ?hd (cs := #[.int .i64 0, .int .i64 0, .slice none 0 0]) (t := 41) ?hr ?_; (case hd => rfl); (case hg => rfl); (case hr => first | (go_simp; done) | (go_simp; rfl)); intro gb634 hg w29 hbox hb; have n0_ := Aside0.mk (Kd.R_below (by (with_reducible repeat (first | apply Kd.R_alloc | apply Kd.R_drewN | apply Kd.R_drew)); exact HO625.out) hb); have n1_ := Aside0.mk (Kd.R_below (by (with_reducible repeat (first | apply Kd.R_alloc | apply Kd.R_drewN | apply Kd.R_drew)); exact HO628.out) hb); have n2_ := Aside0.mk (Kd.R_below (by (with_reducible repeat (first | apply Kd.R_alloc | apply Kd.R_drewN | apply Kd.R_drew)); exact HO633.out) hb); have n3_ := Aside0.mk (blk_below (g := gb619) (o := .cells #[.int .i64 a0_0, .int .i64 a0_1, .slice A0_2 l0_2.length c0_2] 48 (0, 0)) (by (with_reducible repeat (first | refine blk_drewN ?_ _ | refine blk_drew ?_ | refine blk_alloc ?_ _)); exact BK619.out) hb); have n4_ := Aside0.mk (below_step (by repeat (first | (with_reducible first | exact HB.out | apply below_alloc | apply pw_below_drewN | apply below_drew1 | refine below_set ?_ GE619.out) | exact HB.out)) hb); have n5_ := Aside0.mk (hbox); have n6_ := Aside0.mk ((by rw [hg]; exact (below_size (by repeat (first | (with_reducible first | exact HB.out | apply below_alloc | apply pw_below_drewN | apply below_drew1 | refine below_set ?_ GE619.out) | exact HB.out))) : w.heap.size ≤ gb634)); have n7_ := Aside0.mk ((by rw [hg]; exact (below_size (by repeat (first | (with_reducible first | exact HB.out | apply below_alloc | apply pw_below_drewN | apply below_drew1 | refine below_set ?_ GE619.out) | exact HB.out))) : w.heap.size ≤ gb634)); have n8_ := Aside0.mk ((by rw [hg]; exact Nat.ne_of_lt (blk_lt (g := gb619) (o := .cells #[.int .i64 a0_0, .int .i64 a0_1, .slice A0_2 l0_2.length c0_2] 48 (0, 0)) (by (with_reducible repeat (first | refine blk_drewN ?_ _ | refine blk_drew ?_ | refine blk_alloc ?_ _)); exact BK619.out)) : gb619 ≠ gb634)); have n9_ := Aside0.mk ((by rw [hg]; exact Nat.ne_of_gt (blk_lt (g := gb619) (o := .cells #[.int .i64 a0_0, .int .i64 a0_1, .slice A0_2 l0_2.length c0_2] 48 (0, 0)) (by (with_reducible repeat (first | refine blk_drewN ?_ _ | refine blk_drew ?_ | refine blk_alloc ?_ _)); exact BK619.out)) : gb634 ≠ gb619)); clear HO625; clear HO628; clear HO633; clear BK619; clear HB; have HO625 := n0_; have HO628 := n1_; have HO633 := n2_; have BK619 := n3_; have HB := n4_; have BK634 := n5_; have GW634 := n6_; have GE634 := n7_; have NB619_634 := n8_; have NB634_619 := n9_; clear n0_ n1_ n2_ n3_ n4_ n5_ n6_ n7_ n8_ n9_; clear hb hbox hg; have hnb30 := NB634_619.out; have hnc30 := NB619_634.out; have hcz31_0 : w29.cell? ⟨gb634, 0, none⟩ = some (.int .i64 0) := (blk_cell BK634.out 0).trans rfl; have hcz31_1 : w29.cell? ⟨gb634, 1, none⟩ = some (.int .i64 0) := (blk_cell BK634.out 1).trans rfl; have hcz31_2 : w29.cell? ⟨gb634, 2, none⟩ = some (.slice none 0 0) := (blk_cell BK634.out 2).trans rfl; have hfz31_0 := blk_frozen BK634.out 0; have hfz31_1 := blk_frozen BK634.out 1; have hfz31_2 := blk_frozen BK634.out 2; obtain ⟨Ao32, co32, eo32⟩ := Kd.R_slice HO633.out; subst eo32) | ((with_reducible refine gate_callee (f := 40) rfl ?_); refine goesL_ (some 30) rfl rfl Try.func40 (by kernel_rfl) rfl #[.agg #[.int .i64 t629, .int .i64 t630, .slice Ao32 t631.length co32], .int .i64 a1, .int .i64 a2] rfl (by (try simp only [List.map_toArray, List.map_cons, List.map_nil]); first | done | rfl | (simp only [List.length_drop, List.length_take]; rfl)) ?_; (with_reducible refine (impl_TileSums.calls k t629 t630 _ _ t631 a1 a2 t635 _ ?side1 ?side2 A12.out).mono ?_); (case side1 => refine (Kd.R_reads' (e := 3) (base := w.heap.size) (ok := fun k_ => ((True ∧ some k_ ≠ (.slice Ao25 t623.length co25 : Value).ownBlock) ∧ some k_ ≠ (v627 : Value).ownBlock)) (n := t631.length) (c := co32) ?_).2.2; exact (by (with_reducible repeat (first | apply Kd.R_alloc | apply Kd.R_drewN | apply Kd.R_drew)); exact (Kd.R_mono (Kd.R_far (p := ⟨gb634, 2, none⟩) (Kd.R_far (p := ⟨gb634, 1, none⟩) (Kd.R_far (p := ⟨gb634, 0, none⟩) (Kd.R_types HO633.out BK634.out (by decide)) (fun _ hk => hk.2) (.int .i64 t629)) (fun _ hk => hk.2) (.int .i64 t630)) (fun _ hk => hk.2) (.slice Ao32 t631.length co32)) (fun _ h_ => h_.1)))); (case side2 => exact (Kd.R_reads' HO633.out).2.1); rintro e w33 ⟨v636, rfl, ho0, hb⟩; refine ⟨_, rfl, ?_⟩; have n0_ := Aside0.mk (Kd.R_elder' (by (with_reducible repeat (first | apply Kd.R_alloc | apply Kd.R_drewN | apply Kd.R_drew)); exact (Kd.R_mono (Kd.R_far (p := ⟨gb634, 2, none⟩) (Kd.R_far (p := ⟨gb634, 1, none⟩) (Kd.R_far (p := ⟨gb634, 0, none⟩) (Kd.R_types HO625.out BK634.out (by decide)) (fun _ hk => hk.2) (.int .i64 t629)) (fun _ hk => hk.2) (.int .i64 t630)) (fun _ hk => hk.2) (.slice Ao32 t631.length co32)) (fun _ h_ => h_.1))) (Kd.R_base ho0) hb); have n1_ := Aside0.mk (Kd.R_elder' (by (with_reducible repeat (first | apply Kd.R_alloc | apply Kd.R_drewN | apply Kd.R_drew)); exact (Kd.R_mono (Kd.R_far (p := ⟨gb634, 2, none⟩) (Kd.R_far (p := ⟨gb634, 1, none⟩) (Kd.R_far (p := ⟨gb634, 0, none⟩) (Kd.R_types HO628.out BK634.out (by decide)) (fun _ hk => hk.2) (.int .i64 t629)) (fun _ hk => hk.2) (.int .i64 t630)) (fun _ hk => hk.2) (.slice Ao32 t631.length co32)) (fun _ h_ => h_.1))) (Kd.R_base ho0) hb); have n2_ := Aside0.mk (Kd.R_elder' (by (with_reducible repeat (first | apply Kd.R_alloc | apply Kd.R_drewN | apply Kd.R_drew)); exact (Kd.R_mono (Kd.R_far (p := ⟨gb634, 2, none⟩) (Kd.R_far (p := ⟨gb634, 1, none⟩) (Kd.R_far (p := ⟨gb634, 0, none⟩) (Kd.R_types HO633.out BK634.out (by decide)) (fun _ hk => hk.2) (.int .i64 t629)) (fun _ hk => hk.2) (.int .i64 t630)) (fun _ hk => hk.2) (.slice Ao32 t631.length co32)) (fun _ h_ => h_.1))) (Kd.R_base ho0) hb); have n3_ := Aside0.mk (Kd.R_lower (Kd.R_new' (Kd.R_new' (Kd.R_new' ho0 (Kd.R_lt (by (with_reducible repeat (first | apply Kd.R_alloc | apply Kd.R_drewN | apply Kd.R_drew)); exact (Kd.R_mono (Kd.R_far (p := ⟨gb634, 2, none⟩) (Kd.R_far (p := ⟨gb634, 1, none⟩) (Kd.R_far (p := ⟨gb634, 0, none⟩) (Kd.R_types HO625.out BK634.out (by decide)) (fun _ hk => hk.2) (.int .i64 t629)) (fun _ hk => hk.2) (.int .i64 t630)) (fun _ hk => hk.2) (.slice Ao32 t631.length co32)) (fun _ h_ => h_.1))))) (Kd.R_lt (by (with_reducible repeat (first | apply Kd.R_alloc | apply Kd.R_drewN | apply Kd.R_drew)); exact (Kd.R_mono (Kd.R_far (p := ⟨gb634, 2, none⟩) (Kd.R_far (p := ⟨gb634, 1, none⟩) (Kd.R_far (p := ⟨gb634, 0, none⟩) (Kd.R_types HO628.out BK634.out (by decide)) (fun _ hk => hk.2) (.int .i64 t629)) (fun _ hk => hk.2) (.int .i64 t630)) (fun _ hk => hk.2) (.slice Ao32 t631.length co32)) (fun _ h_ => h_.1))))) (Kd.R_lt (by (with_reducible repeat (first | apply Kd.R_alloc | apply Kd.R_drewN | apply Kd.R_drew)); exact (Kd.R_mono (Kd.R_far (p := ⟨gb634, 2, none⟩) (Kd.R_far (p := ⟨gb634, 1, none⟩) (Kd.R_far (p := ⟨gb634, 0, none⟩) (Kd.R_types HO633.out BK634.out (by decide)) (fun _ hk => hk.2) (.int .i64 t629)) (fun _ hk => hk.2) (.int .i64 t630)) (fun _ hk => hk.2) (.slice Ao32 t631.length co32)) (fun _ h_ => h_.1))))) (below_size (by repeat (first | (with_reducible first | exact HB.out | apply below_alloc | apply pw_below_drewN | apply below_drew1 | refine below_set ?_ GE619.out | refine below_set ?_ GE634.out) | exact HB.out)))); have n4_ := Aside0.mk (blk_below (g := gb619) (o := .cells #[.int .i64 a0_0, .int .i64 a0_1, .slice A0_2 l0_2.length c0_2] 48 (0, 0)) (by (with_reducible repeat (first | refine blk_drewN ?_ _ | refine blk_drew ?_ | refine blk_alloc ?_ _)); refine blk_far ?_ NB619_634.out _; (with_reducible repeat (first | refine blk_drewN ?_ _ | refine blk_drew ?_ | refine blk_alloc ?_ _)); refine blk_far ?_ NB619_634.out _; (with_reducible repeat (first | refine blk_drewN ?_ _ | refine blk_drew ?_ | refine blk_alloc ?_ _)); refine blk_far ?_ NB619_634.out _; (with_reducible repeat (first | refine blk_drewN ?_ _ | refine blk_drew ?_ | refine blk_alloc ?_ _)); exact BK619.out) hb); have n5_ := Aside0.mk (blk_below (g := gb634) (o := .cells #[.int .i64 t629, .int .i64 t630, .slice Ao32 t631.length co32] 41 (0, 0)) (by (with_reducible repeat (first | refine blk_drewN ?_ _ | refine blk_drew ?_ | refine blk_alloc ?_ _)); refine blk_put (cs := #[.int .i64 t629, .int .i64 t630, .slice none 0 0]) ?_ 2 _ rfl; (with_reducible repeat (first | refine blk_drewN ?_ _ | refine blk_drew ?_ | refine blk_alloc ?_ _)); refine blk_put (cs := #[.int .i64 t629, .int .i64 0, .slice none 0 0]) ?_ 1 _ rfl; (with_reducible repeat (first | refine blk_drewN ?_ _ | refine blk_drew ?_ | refine blk_alloc ?_ _)); refine blk_put (cs := #[.int .i64 0, .int .i64 0, .slice none 0 0]) ?_ 0 _ rfl; (with_reducible repeat (first | refine blk_drewN ?_ _ | refine blk_drew ?_ | refine blk_alloc ?_ _)); exact BK634.out) hb); have n6_ := Aside0.mk (below_step (by repeat (first | (with_reducible first | exact HB.out | apply below_alloc | apply pw_below_drewN | apply below_drew1 | refine below_set ?_ GE619.out | refine below_set ?_ GE634.out) | exact HB.out)) hb); clear HO625; clear HO628; clear HO633; clear BK619; clear BK634; clear HB; have HO625 := n0_; have HO628 := n1_; have HO633 := n2_; have HO637 := n3_; have BK619 := n4_; have BK634 := n5_; have HB := n6_; clear n0_ n1_ n2_ n3_ n4_ n5_ n6_; (try clear hb); (try clear hb2); (try clear hk); (try clear hi); (try clear ho0); obtain ⟨Ao34, co34, eo34⟩ := Kd.R_slice HO637.out; subst eo34; obtain ⟨Ao35, co35, eo35⟩ := Kd.R_slice HO628.out; subst eo35) | ((with_reducible refine gate_callee (f := 53) rfl ?_); refine goesL_ (some 33) rfl rfl Try.func53 (by kernel_rfl) rfl #[.slice Ao34 t635.length co34, .slice Ao35 t626.length co35] rfl (by (try simp only [List.map_toArray, List.map_cons, List.map_nil]); first | done | rfl | (simp only [List.length_drop, List.length_take]; rfl)) ?_; (with_reducible refine (laws_eqIntS.calls k _ _ t635 _ _ t626 true _ ?side1 ?side2 ?side3 ?side4 A13.out).mono ?_); (case side1 => repeat (first | exact (Kd.R_reads' HO637.out).2.2 | (with_reducible refine Kd.C_alloc ?_ _) | (with_reducible refine Kd.C_drewN ?_ _) | (with_reducible refine Kd.C_drew ?_))); (case side2 => exact (Kd.R_reads' HO637.out).2.1); (case side3 => repeat (first | exact (Kd.R_reads' HO628.out).2.2 | (with_reducible refine Kd.C_alloc ?_ _) | (with_reducible refine Kd.C_drewN ?_ _) | (with_reducible refine Kd.C_drew ?_))); (case side4 => exact (Kd.R_reads' HO628.out).2.1); rintro e w' ⟨rfl, ⟨nd, rfl⟩⟩; refine ⟨_, rfl, ?_⟩))
        (try (rw [drewN_self w33]; generalize hq_ : World.drewN w33 _ = w33; have n0_ : Aside0 (Kd.R (Kd.int .i64) 3 w33 w.heap.size (fun k_ => some k_ ≠ (.slice Ao35 t626.length co35 : Value).ownBlock ∧ some k_ ≠ (.slice Ao32 t631.length co32 : Value).ownBlock ∧ some k_ ≠ (.slice Ao34 t635.length co34 : Value).ownBlock) (.slice Ao25 t623.length co25) t623) := ⟨by rw [← hq_]; exact (by (with_reducible repeat (first | apply Kd.R_alloc | apply Kd.R_drewN | apply Kd.R_drew)); exact Kd.R_mono HO625.out (fun _ hk => ⟨hk.1.1.2, ⟨hk.1.2, hk.2⟩⟩))⟩; have n1_ : Aside0 (Kd.R (Kd.int .i64) 3 w33 w.heap.size (fun k_ => some k_ ≠ (.slice Ao25 t623.length co25 : Value).ownBlock ∧ some k_ ≠ (.slice Ao32 t631.length co32 : Value).ownBlock ∧ some k_ ≠ (.slice Ao34 t635.length co34 : Value).ownBlock) (.slice Ao35 t626.length co35) t626) := ⟨by rw [← hq_]; exact (by (with_reducible repeat (first | apply Kd.R_alloc | apply Kd.R_drewN | apply Kd.R_drew)); exact Kd.R_mono HO628.out (fun _ hk => ⟨hk.1.1.2, ⟨hk.1.2, hk.2⟩⟩))⟩; have n2_ : Aside0 (Kd.R (Kd.int .i64) 3 w33 w.heap.size (fun k_ => some k_ ≠ (.slice Ao25 t623.length co25 : Value).ownBlock ∧ some k_ ≠ (.slice Ao35 t626.length co35 : Value).ownBlock ∧ some k_ ≠ (.slice Ao34 t635.length co34 : Value).ownBlock) (.slice Ao32 t631.length co32) t631) := ⟨by rw [← hq_]; exact (by (with_reducible repeat (first | apply Kd.R_alloc | apply Kd.R_drewN | apply Kd.R_drew)); exact Kd.R_mono HO633.out (fun _ hk => ⟨hk.1.1.2, ⟨hk.1.2, hk.2⟩⟩))⟩; have n3_ : Aside0 (Kd.R (Kd.int .i64) 3 w33 w.heap.size (fun k_ => some k_ ≠ (.slice Ao25 t623.length co25 : Value).ownBlock ∧ some k_ ≠ (.slice Ao35 t626.length co35 : Value).ownBlock ∧ some k_ ≠ (.slice Ao32 t631.length co32 : Value).ownBlock) (.slice Ao34 t635.length co34) t635) := ⟨by rw [← hq_]; exact (by (with_reducible repeat (first | apply Kd.R_alloc | apply Kd.R_drewN | apply Kd.R_drew)); exact Kd.R_mono HO637.out (fun _ hk => ⟨hk.1.1.2, ⟨hk.1.2, hk.2⟩⟩))⟩; have n4_ : Aside0 (w33.heap[gb619]? = some (.cells #[.int .i64 a0_0, .int .i64 a0_1, .slice A0_2 l0_2.length c0_2] 48 (0, 0))) := ⟨by rw [← hq_]; exact (by (with_reducible repeat (first | refine blk_drewN ?_ _ | refine blk_drew ?_ | refine blk_alloc ?_ _)); exact BK619.out)⟩; have n5_ : Aside0 (w33.heap[gb634]? = some (.cells #[.int .i64 t629, .int .i64 t630, .slice Ao32 t631.length co32] 41 (0, 0))) := ⟨by rw [← hq_]; exact (by (with_reducible repeat (first | refine blk_drewN ?_ _ | refine blk_drew ?_ | refine blk_alloc ?_ _)); exact BK634.out)⟩; have n6_ : Aside0 (Below w.heap.size w w33) := ⟨by rw [← hq_]; exact (by repeat (first | (with_reducible first | exact HB.out | apply below_alloc | apply pw_below_drewN | apply below_drew1 | refine below_set ?_ GE619.out | refine below_set ?_ GE634.out) | exact HB.out))⟩; clear HO625 HO628 HO633 HO637 BK619 BK634 HB hq_; have HO625 := n0_; have HO628 := n1_; have HO633 := n2_; have HO637 := n3_; have BK619 := n4_; have BK634 := n5_; have HB := n6_; clear n0_ n1_ n2_ n3_ n4_ n5_ n6_))
        have n0_ := Aside0.mk (Kd.R_drew HO625.out)
        have n1_ := Aside0.mk (Kd.R_drew HO628.out)
        have n2_ := Aside0.mk (Kd.R_drew HO633.out)
        have n3_ := Aside0.mk (Kd.R_drew HO637.out)
        have n4_ := Aside0.mk (blk_drew BK619.out)
        have n5_ := Aside0.mk (blk_drew BK634.out)
        have n6_ := Aside0.mk (below_drew1 HB.out)
        clear HO625
        clear HO628
        clear HO633
        clear HO637
        clear BK619
        clear BK634
        clear HB
        have HO625 := n0_
        have HO628 := n1_
        have HO633 := n2_
        have HO637 := n3_
        have BK619 := n4_
        have BK634 := n5_
        have HB := n6_
        clear n0_ n1_ n2_ n3_ n4_ n5_ n6_
        refine start_ (n := 5) (S := fun w' => w'.cell? ⟨gb634, 0, none⟩ = some (.int .i64 t629) ∧ w'.cell? ⟨gb634, 1, none⟩ = some (.int .i64 t630) ∧ w'.cell? ⟨gb634, 2, none⟩ = some (.slice Ao32 t631.length co32) ∧ w'.cell? ⟨gb619, 0, none⟩ = some (.int .i64 a0_0) ∧ w'.cell? ⟨gb619, 1, none⟩ = some (.int .i64 a0_1) ∧ w'.cell? ⟨gb619, 2, none⟩ = some (.slice A0_2 l0_2.length c0_2)) (ds := []) #[false, false, false, false, false] (by kernel_rfl) rfl rfl ⟨(blk_cell BK634.out 0).trans rfl, (blk_cell BK634.out 1).trans rfl, (blk_cell BK634.out 2).trans rfl, (blk_cell BK619.out 0).trans rfl, (blk_cell BK619.out 1).trans rfl, (blk_cell BK619.out 2).trans rfl⟩ (fun hHeld => ?_)
        generalize w33.drew = w36 at HO625 HO628 HO633 HO637 BK619 BK634 HB hHeld ⊢
        refine take_ (i := 0) (N := some 35) (v := ?_) (a' := ?_) #[true, false, false, false, false] rfl rfl (by kernel_rfl) (fun _ _ _ h => h) (Or.inl ⟨by rfl, ?_⟩) hHeld ?_ ?_
        rotate_left
        · rintro w' ⟨s0, s1, s2, s3, s4, s5⟩
          go_simp
          with_reducible rfl
        rotate_left
        · simp only [Act.put, List.setIfInBounds_toArray, List.set_cons_zero, List.set_cons_succ, i64_w, i32_w]
          rfl
        refine take_ (i := 1) (N := some 36) (v := ?_) (a' := ?_) #[true, true, false, false, false] rfl rfl (by kernel_rfl) (fun _ _ _ h => h) (Or.inl ⟨by rfl, ?_⟩) hHeld ?_ ?_
        rotate_left
        · rintro w' ⟨s0, s1, s2, s3, s4, s5⟩
          go_simp
          with_reducible rfl
        rotate_left
        · simp only [Act.put, List.setIfInBounds_toArray, List.set_cons_zero, List.set_cons_succ, i64_w, i32_w]
          rfl
        refine one_ (i := 2) (N := some 37) #[true, true, true, false, false] rfl rfl (by kernel_rfl) (by decide) (fun K hK => ?_)
        refine goes_ Try.func48 (by kernel_rfl) rfl #[.agg #[.int .i64 a0_0, .int .i64 a0_1, .slice A0_2 l0_2.length c0_2]] (by rfl) rfl rfl (by (try simp only [List.map_toArray, List.map_cons, List.map_nil]); first | done | rfl | (simp only [List.length_drop, List.length_take]; rfl)) ?_
        with_reducible refine (laws_toPicture.calls k a0_0 a0_1 _ _ l0_2 t639 t640 t641 _ ?side1 ?side2 A15.out).mono ?_
        (case side1 => repeat (first | exact (Kd.C_below HR0_2.out HB.out) | (with_reducible refine Kd.C_alloc ?_ _) | (with_reducible refine Kd.C_drewN ?_ _) | (with_reducible refine Kd.C_drew ?_)))
        (case side2 => exact HC0_2.out)
        rintro e w37 ⟨v642, rfl, ho0, hb⟩
        refine ⟨_, rfl, ?_⟩
        have n0_ := Aside0.mk (Kd.R_elder' (by (with_reducible repeat (first | apply Kd.R_alloc | apply Kd.R_drewN | apply Kd.R_drew)); exact HO625.out) (Kd.R_base ho0) hb)
        have n1_ := Aside0.mk (Kd.R_elder' (by (with_reducible repeat (first | apply Kd.R_alloc | apply Kd.R_drewN | apply Kd.R_drew)); exact HO628.out) (Kd.R_base ho0) hb)
        have n2_ := Aside0.mk (Kd.R_elder' (by (with_reducible repeat (first | apply Kd.R_alloc | apply Kd.R_drewN | apply Kd.R_drew)); exact HO633.out) (Kd.R_base ho0) hb)
        have n3_ := Aside0.mk (Kd.R_elder' (by (with_reducible repeat (first | apply Kd.R_alloc | apply Kd.R_drewN | apply Kd.R_drew)); exact HO637.out) (Kd.R_base ho0) hb)
        have n4_ := Aside0.mk (Kd.R_lower (Kd.R_new' (Kd.R_new' (Kd.R_new' (Kd.R_new' ho0 (Kd.R_lt (by (with_reducible repeat (first | apply Kd.R_alloc | apply Kd.R_drewN | apply Kd.R_drew)); exact HO625.out))) (Kd.R_lt (by (with_reducible repeat (first | apply Kd.R_alloc | apply Kd.R_drewN | apply Kd.R_drew)); exact HO628.out))) (Kd.R_lt (by (with_reducible repeat (first | apply Kd.R_alloc | apply Kd.R_drewN | apply Kd.R_drew)); exact HO633.out))) (Kd.R_lt (by (with_reducible repeat (first | apply Kd.R_alloc | apply Kd.R_drewN | apply Kd.R_drew)); exact HO637.out))) (below_size (by repeat (first | (with_reducible first | exact HB.out | apply below_alloc | apply pw_below_drewN | apply below_drew1 | refine below_set ?_ GE619.out | refine below_set ?_ GE634.out) | exact HB.out))))
        have n5_ := Aside0.mk (blk_below (g := gb619) (o := .cells #[.int .i64 a0_0, .int .i64 a0_1, .slice A0_2 l0_2.length c0_2] 48 (0, 0)) (by (with_reducible repeat (first | refine blk_drewN ?_ _ | refine blk_drew ?_ | refine blk_alloc ?_ _)); exact BK619.out) hb)
        have n6_ := Aside0.mk (blk_below (g := gb634) (o := .cells #[.int .i64 t629, .int .i64 t630, .slice Ao32 t631.length co32] 41 (0, 0)) (by (with_reducible repeat (first | refine blk_drewN ?_ _ | refine blk_drew ?_ | refine blk_alloc ?_ _)); exact BK634.out) hb)
        have n7_ := Aside0.mk (below_step (by repeat (first | (with_reducible first | exact HB.out | apply below_alloc | apply pw_below_drewN | apply below_drew1 | refine below_set ?_ GE619.out | refine below_set ?_ GE634.out) | exact HB.out)) hb)
        clear HO625
        clear HO628
        clear HO633
        clear HO637
        clear BK619
        clear BK634
        clear HB
        have HO625 := n0_
        have HO628 := n1_
        have HO633 := n2_
        have HO637 := n3_
        have HO643 := n4_
        have BK619 := n5_
        have BK634 := n6_
        have HB := n7_
        clear n0_ n1_ n2_ n3_ n4_ n5_ n6_ n7_
        (try clear hb)
        (try clear hb2)
        (try clear hk)
        (try clear hi)
        (try clear ho0)
        obtain ⟨Ao38, co38, eo38⟩ := Kd.R_slice HO643.out
        (first | subst eo38 | (injection eo38 with f1_ f2_ f3_; have f4_ := f1_.symm; have f5_ := f3_.symm; clear f1_ f2_ f3_; subst f4_; subst f5_))
        refine hK.out _ _ ⟨(blk_cell BK634.out 0).trans rfl, (blk_cell BK634.out 1).trans rfl, (blk_cell BK634.out 2).trans rfl, (blk_cell BK619.out 0).trans rfl, (blk_cell BK619.out 1).trans rfl, (blk_cell BK619.out 2).trans rfl⟩ (fun hHeld => ?_)
        clear hK K
        refine norm_ (a' := ?_) ?_ ?_
        rotate_left
        · show Act.put _ (some 37) _ = _
          simp only [Act.put, List.setIfInBounds_toArray, List.set_cons_zero, List.set_cons_succ, i64_w, i32_w]
          rfl
        refine one_ (i := 3) (N := some 38) #[true, true, true, true, false] rfl rfl (by kernel_rfl) (by decide) (fun K hK => ?_)
        refine goes_ Try.func49 (by kernel_rfl) rfl #[.agg #[.int .i64 t629, .int .i64 t630, .slice Ao32 t631.length co32], .agg #[.int .i64 t639, .int .i64 t640, .slice Ao38 t641.length co38]] (by rfl) rfl rfl (by (try simp only [List.map_toArray, List.map_cons, List.map_nil]); first | done | rfl | (simp only [List.length_drop, List.length_take]; rfl)) ?_
        with_reducible refine (laws_eqPicture.calls k t629 t630 _ _ t631 t639 t640 _ _ t641 true _ ?side1 ?side2 ?side3 ?side4 A16.out).mono ?_
        (case side1 => repeat (first | exact (Kd.R_reads' HO633.out).2.2 | (with_reducible refine Kd.C_alloc ?_ _) | (with_reducible refine Kd.C_drewN ?_ _) | (with_reducible refine Kd.C_drew ?_)))
        (case side2 => exact (Kd.R_reads' HO633.out).2.1)
        (case side3 => repeat (first | exact (Kd.R_reads' HO643.out).2.2 | (with_reducible refine Kd.C_alloc ?_ _) | (with_reducible refine Kd.C_drewN ?_ _) | (with_reducible refine Kd.C_drew ?_)))
        (case side4 => exact (Kd.R_reads' HO643.out).2.1)
        rintro e w39 ⟨rfl, hb⟩
        refine ⟨_, rfl, ?_⟩
        have n0_ := Aside0.mk (Kd.R_below (by (with_reducible repeat (first | apply Kd.R_alloc | apply Kd.R_drewN | apply Kd.R_drew)); exact HO625.out) hb)
        have n1_ := Aside0.mk (Kd.R_below (by (with_reducible repeat (first | apply Kd.R_alloc | apply Kd.R_drewN | apply Kd.R_drew)); exact HO628.out) hb)
        have n2_ := Aside0.mk (Kd.R_below (by (with_reducible repeat (first | apply Kd.R_alloc | apply Kd.R_drewN | apply Kd.R_drew)); exact HO633.out) hb)
        have n3_ := Aside0.mk (Kd.R_below (by (with_reducible repeat (first | apply Kd.R_alloc | apply Kd.R_drewN | apply Kd.R_drew)); exact HO637.out) hb)
        have n4_ := Aside0.mk (Kd.R_below (by (with_reducible repeat (first | apply Kd.R_alloc | apply Kd.R_drewN | apply Kd.R_drew)); exact HO643.out) hb)
        have n5_ := Aside0.mk (blk_below (g := gb619) (o := .cells #[.int .i64 a0_0, .int .i64 a0_1, .slice A0_2 l0_2.length c0_2] 48 (0, 0)) (by (with_reducible repeat (first | refine blk_drewN ?_ _ | refine blk_drew ?_ | refine blk_alloc ?_ _)); exact BK619.out) hb)
        have n6_ := Aside0.mk (blk_below (g := gb634) (o := .cells #[.int .i64 t629, .int .i64 t630, .slice Ao32 t631.length co32] 41 (0, 0)) (by (with_reducible repeat (first | refine blk_drewN ?_ _ | refine blk_drew ?_ | refine blk_alloc ?_ _)); exact BK634.out) hb)
        have n7_ := Aside0.mk (below_step (by repeat (first | (with_reducible first | exact HB.out | apply below_alloc | apply pw_below_drewN | apply below_drew1 | refine below_set ?_ GE619.out | refine below_set ?_ GE634.out) | exact HB.out)) hb)
        clear HO625
        clear HO628
        clear HO633
        clear HO637
        clear HO643
        clear BK619
        clear BK634
        clear HB
        have HO625 := n0_
        have HO628 := n1_
        have HO633 := n2_
        have HO637 := n3_
        have HO643 := n4_
        have BK619 := n5_
        have BK634 := n6_
        have HB := n7_
        clear n0_ n1_ n2_ n3_ n4_ n5_ n6_ n7_
        (try clear hb)
        (try clear hb2)
        (try clear hk)
        (try clear hi)
        refine hK.out _ _ ⟨(blk_cell BK634.out 0).trans rfl, (blk_cell BK634.out 1).trans rfl, (blk_cell BK634.out 2).trans rfl, (blk_cell BK619.out 0).trans rfl, (blk_cell BK619.out 1).trans rfl, (blk_cell BK619.out 2).trans rfl⟩ (fun hHeld => ?_)
        clear hK K
        refine norm_ (a' := ?_) ?_ ?_
        rotate_left
        · show Act.put _ (some 38) _ = _
          simp only [Act.put, List.setIfInBounds_toArray, List.set_cons_zero, List.set_cons_succ, i64_w, i32_w]
          rfl
        refine pure_ (i := 4) (N := some 39) (v := ?_) (a' := ?_) #[true, true, true, true, true] rfl rfl (by kernel_rfl) (fun _ _ _ h => h) (Or.inl ⟨by rfl, ?_⟩) ?_ ?_
        rotate_left
        · intro w'
          go_simp
          with_reducible rfl
        rotate_left
        · simp only [Act.put, List.setIfInBounds_toArray, List.set_cons_zero, List.set_cons_succ, i64_w, i32_w]
          rfl
        refine done_ (by kernel_rfl) ?_
        have hcz40_0 : w39.cell? ⟨gb634, 0, none⟩ = some (.int .i64 t629) := (blk_cell BK634.out 0).trans rfl
        have hcz40_1 : w39.cell? ⟨gb634, 1, none⟩ = some (.int .i64 t630) := (blk_cell BK634.out 1).trans rfl
        have hcz40_2 : w39.cell? ⟨gb634, 2, none⟩ = some (.slice Ao32 t631.length co32) := (blk_cell BK634.out 2).trans rfl
        have hfz40_0 := blk_frozen BK634.out 0
        have hfz40_1 := blk_frozen BK634.out 1
        have hfz40_2 := blk_frozen BK634.out 2
        go_upto_region 14 with (first | ((with_reducible refine gate_callee (f := 50) rfl ?_); refine goesL_ (some 42) rfl rfl Try.func50 (by kernel_rfl) rfl #[.agg #[.int .i64 t629, .int .i64 t630, .slice Ao32 t631.length co32], .int .i64 1] rfl (by (try simp only [List.map_toArray, List.map_cons, List.map_nil]); first | done | rfl | (simp only [List.length_drop, List.length_take]; rfl)) ?_; (with_reducible refine (laws_markPicture.calls k t629 t630 (fun k_ => some k_ = (.slice Ao32 t631.length co32 : Value).ownBlock) (.slice Ao32 t631.length co32) t631 1 t645 t646 w _ ?side1 ?side2 A18.out).mono ?_); (case side1 => repeat (first | (with_reducible first | exact HB.out | apply below_alloc | apply pw_below_drewN | apply below_drew1 | refine below_set ?_ GE619.out | refine below_set ?_ GE634.out) | exact HB.out)); (case side2 => exact Kd.R_tight rfl HO633.out); rintro e w41 ⟨rfl, hy0, hb, hkp⟩; refine ⟨_, rfl, ?_⟩; have n0_ := Aside0.mk (blk_kept (by (with_reducible repeat (first | refine blk_drewN ?_ _ | refine blk_drew ?_ | refine blk_alloc ?_ _)); exact BK619.out) hkp (fun hs_ => (fun e_ => (Kd.R_ne HO633.out BK619.out (by decide)) e_) hs_)); have n1_ := Aside0.mk (Kd.R_mono (ok' := fun k_ => some k_ ≠ (.slice Ao35 t626.length co35 : Value).ownBlock ∧ some k_ ≠ (.slice Ao32 t631.length co32 : Value).ownBlock ∧ some k_ ≠ (.slice Ao34 t635.length co34 : Value).ownBlock ∧ some k_ ≠ (.slice Ao38 t641.length co38 : Value).ownBlock) (Kd.R_keptB (HO625.out) hkp (fun k_ hk_ hs_ => (by revert hk_; simp only [and_imp]; intros; exact absurd (show some k_ = _ from hs_) (by assumption)))) (fun k_ hk_ => (by revert hk_; simp only [and_imp]; intros; refine ⟨?_, ?_, ?_, ?_⟩ <;> assumption))); have n2_ := Aside0.mk (Kd.R_mono (ok' := fun k_ => some k_ ≠ (.slice Ao25 t623.length co25 : Value).ownBlock ∧ some k_ ≠ (.slice Ao32 t631.length co32 : Value).ownBlock ∧ some k_ ≠ (.slice Ao34 t635.length co34 : Value).ownBlock ∧ some k_ ≠ (.slice Ao38 t641.length co38 : Value).ownBlock) (Kd.R_keptB (HO628.out) hkp (fun k_ hk_ hs_ => (by revert hk_; simp only [and_imp]; intros; exact absurd (show some k_ = _ from hs_) (by assumption)))) (fun k_ hk_ => (by revert hk_; simp only [and_imp]; intros; refine ⟨?_, ?_, ?_, ?_⟩ <;> assumption))); have n3_ := Aside0.mk (Kd.R_reok rfl hy0 (fun k_ e_ => HO633.out.1 k_ e_)); have n4_ := Aside0.mk (blk_kept (by (with_reducible repeat (first | refine blk_drewN ?_ _ | refine blk_drew ?_ | refine blk_alloc ?_ _)); exact BK634.out) hkp (fun hs_ => (fun e_ => (Kd.R_ne HO633.out BK634.out (by decide)) e_) hs_)); have n5_ := Aside0.mk (Kd.R_mono (ok' := fun k_ => some k_ ≠ (.slice Ao25 t623.length co25 : Value).ownBlock ∧ some k_ ≠ (.slice Ao35 t626.length co35 : Value).ownBlock ∧ some k_ ≠ (.slice Ao32 t631.length co32 : Value).ownBlock ∧ some k_ ≠ (.slice Ao38 t641.length co38 : Value).ownBlock) (Kd.R_keptB (HO637.out) hkp (fun k_ hk_ hs_ => (by revert hk_; simp only [and_imp]; intros; exact absurd (show some k_ = _ from hs_) (by assumption)))) (fun k_ hk_ => (by revert hk_; simp only [and_imp]; intros; refine ⟨?_, ?_, ?_, ?_⟩ <;> assumption))); have n6_ := Aside0.mk (Kd.R_mono (ok' := fun k_ => some k_ ≠ (.slice Ao25 t623.length co25 : Value).ownBlock ∧ some k_ ≠ (.slice Ao35 t626.length co35 : Value).ownBlock ∧ some k_ ≠ (.slice Ao32 t631.length co32 : Value).ownBlock ∧ some k_ ≠ (.slice Ao34 t635.length co34 : Value).ownBlock) (Kd.R_keptB (HO643.out) hkp (fun k_ hk_ hs_ => (by revert hk_; simp only [and_imp]; intros; exact absurd (show some k_ = _ from hs_) (by assumption)))) (fun k_ hk_ => (by revert hk_; simp only [and_imp]; intros; refine ⟨?_, ?_, ?_, ?_⟩ <;> assumption))); have n7_ := Aside0.mk (hb); clear BK619; clear HO625; clear HO628; clear HO633; clear BK634; clear HO637; clear HO643; clear HB; have BK619 := n0_; have HO625 := n1_; have HO628 := n2_; have HO633 := n3_; have BK634 := n4_; have HO637 := n5_; have HO643 := n6_; have HB := n7_; clear n0_ n1_ n2_ n3_ n4_ n5_ n6_ n7_; (try clear hb); (try clear hkp); (try clear hy0)))
        (try simp only [Act.put, List.setIfInBounds_toArray, List.set_cons_zero, List.set_cons_succ])
        go_cut [50] (fun v50 wc => ∃ (kq : Nat) (x50_18 : Bool), v50 = .bool x50_18 ∧ Aside0 (laws_FnExactTileSums.j0 kq a1 a2 t626 t635 x50_18 a0_0 a0_1 l0_2 = some r) ∧ Aside0 (kq ≤ k) ∧ Aside0 (Kd.R (Kd.int .i64) 3 wc w.heap.size (fun k_ => some k_ ≠ ((.slice Ao34 t635.length co34) : Value).ownBlock ∧ some k_ ≠ ((.slice Ao32 t631.length co32) : Value).ownBlock) (.slice Ao35 t626.length co35) t626) ∧ Aside0 (Kd.R (Kd.int .i64) 3 wc w.heap.size (fun k_ => some k_ ≠ ((.slice Ao35 t626.length co35) : Value).ownBlock ∧ some k_ ≠ ((.slice Ao32 t631.length co32) : Value).ownBlock) (.slice Ao34 t635.length co34) t635) ∧ Aside0 (Kd.R (Kd.int .i64) 3 wc w.heap.size (fun k_ => some k_ ≠ ((.slice Ao35 t626.length co35) : Value).ownBlock ∧ some k_ ≠ ((.slice Ao34 t635.length co34) : Value).ownBlock) (.slice Ao32 t631.length co32) t646) ∧ Aside0 (wc.heap[gb619]? = some (.cells #[.int .i64 a0_0, .int .i64 a0_1, (.slice A0_2 l0_2.length c0_2)] 48 (0, 0))) ∧ Aside0 (wc.heap[gb634]? = some (.cells #[.int .i64 t629, .int .i64 t630, (.slice Ao32 t631.length co32)] 41 (0, 0))) ∧ Aside0 (Below w.heap.size w wc))
        case first =>
          have H := HC19.out
          clear HC19
          by_cases c42 : t645 < 0
          · rw [if_pos c42] at H
            have c42b0 : decide (t645 < 0) = true := decide_eq_true c42
            clear c42
            (first | rw [c42b0] | (simp only [i64_w, i32_w]; rw [c42b0]) | skip)
            have H' := Aside0.mk H
            clear H
            go_wp2
            go_meet
            case rel => exact ⟨_, (true), (by first | rfl | (simp; done) | (simp [*]; done)), H', ⟨by first | omega | exact Nat.le_refl _⟩, ⟨by (with_reducible repeat (first | apply Kd.R_alloc | apply Kd.R_drewN | apply Kd.R_drew)); exact Kd.R_mono HO628.out (fun k_ hk_ => (by revert hk_; simp only [and_imp]; intros; refine ⟨?_, ?_⟩ <;> assumption))⟩, ⟨by (with_reducible repeat (first | apply Kd.R_alloc | apply Kd.R_drewN | apply Kd.R_drew)); exact Kd.R_mono HO637.out (fun k_ hk_ => (by revert hk_; simp only [and_imp]; intros; refine ⟨?_, ?_⟩ <;> assumption))⟩, ⟨by (with_reducible repeat (first | apply Kd.R_alloc | apply Kd.R_drewN | apply Kd.R_drew)); exact Kd.R_mono HO633.out (fun k_ hk_ => (by revert hk_; simp only [and_imp]; intros; refine ⟨?_, ?_⟩ <;> assumption))⟩, ⟨by (with_reducible repeat (first | refine blk_drewN ?_ _ | refine blk_drew ?_ | refine blk_alloc ?_ _)); exact BK619.out⟩, ⟨by (with_reducible repeat (first | refine blk_drewN ?_ _ | refine blk_drew ?_ | refine blk_alloc ?_ _)); exact BK634.out⟩, ⟨by repeat (first | (with_reducible first | exact HB.out | apply below_alloc | apply pw_below_drewN | apply below_drew1 | refine below_set ?_ GE619.out | refine below_set ?_ GE634.out) | exact HB.out)⟩⟩
          · rw [if_neg c42] at H
            have c42b0 : decide (t645 < 0) = false := decide_eq_false c42
            clear c42
            (first | rw [c42b0] | (simp only [i64_w, i32_w]; rw [c42b0]) | skip)
            replace H := Option.bind_eq_some_iff.mp H
            obtain ⟨t647, A430, H⟩ := H
            replace H : (laws_FnExactTileSums.j0 k a1 a2 t626 t635 (!t647) a0_0 a0_1 l0_2) = some r := H
            have A43 := Aside0.mk A430
            clear A430
            have H' := Aside0.mk H
            clear H
            go_wp2_with (first | (go_at_call 53; (with_reducible refine (laws_eqIntS.calls k _ _ t635 _ _ t626 t647 _ ?side1 ?side2 ?side3 ?side4 A43.out).mono ?_); (case side1 => repeat (first | exact (Kd.R_reads' HO637.out).2.2 | (with_reducible refine Kd.C_alloc ?_ _) | (with_reducible refine Kd.C_drewN ?_ _) | (with_reducible refine Kd.C_drew ?_))); (case side2 => exact (Kd.R_reads' HO637.out).2.1); (case side3 => repeat (first | exact (Kd.R_reads' HO628.out).2.2 | (with_reducible refine Kd.C_alloc ?_ _) | (with_reducible refine Kd.C_drewN ?_ _) | (with_reducible refine Kd.C_drew ?_))); (case side4 => exact (Kd.R_reads' HO628.out).2.1); rintro e w' ⟨rfl, ⟨nd, rfl⟩⟩))
            go_meet
            case rel => exact ⟨_, (!t647), (by first | rfl | (simp; done) | (simp [*]; done)), H', ⟨by first | omega | exact Nat.le_refl _⟩, ⟨by (with_reducible repeat (first | apply Kd.R_alloc | apply Kd.R_drewN | apply Kd.R_drew)); exact Kd.R_mono HO628.out (fun k_ hk_ => (by revert hk_; simp only [and_imp]; intros; refine ⟨?_, ?_⟩ <;> assumption))⟩, ⟨by (with_reducible repeat (first | apply Kd.R_alloc | apply Kd.R_drewN | apply Kd.R_drew)); exact Kd.R_mono HO637.out (fun k_ hk_ => (by revert hk_; simp only [and_imp]; intros; refine ⟨?_, ?_⟩ <;> assumption))⟩, ⟨by (with_reducible repeat (first | apply Kd.R_alloc | apply Kd.R_drewN | apply Kd.R_drew)); exact Kd.R_mono HO633.out (fun k_ hk_ => (by revert hk_; simp only [and_imp]; intros; refine ⟨?_, ?_⟩ <;> assumption))⟩, ⟨by (with_reducible repeat (first | refine blk_drewN ?_ _ | refine blk_drew ?_ | refine blk_alloc ?_ _)); exact BK619.out⟩, ⟨by (with_reducible repeat (first | refine blk_drewN ?_ _ | refine blk_drew ?_ | refine blk_alloc ?_ _)); exact BK634.out⟩, ⟨by repeat (first | (with_reducible first | exact HB.out | apply below_alloc | apply pw_below_drewN | apply below_drew1 | refine below_set ?_ GE619.out | refine below_set ?_ GE634.out) | exact HB.out)⟩⟩
        case rest =>
          clear HC19
          try clear c1
          try clear p2
          try clear c3
          try clear c4
          try clear c5
          try clear c5b0
          try clear c10
          try clear c14
          try clear c17
          try clear c30
          try clear c40
          try clear c42
          try clear c42b0
          try clear hcz21_0
          try clear hcz21_1
          try clear hcz21_2
          try clear hcz23_0
          try clear hcz23_1
          try clear hcz23_2
          try clear hcz27_0
          try clear hcz27_1
          try clear hcz27_2
          try clear hcz31_0
          try clear hcz31_1
          try clear hcz31_2
          try clear hcz40_0
          try clear hcz40_1
          try clear hcz40_2
          try clear hcz7_0
          try clear hcz7_1
          try clear hcz7_2
          try clear hfz21_0
          try clear hfz21_1
          try clear hfz21_2
          try clear hfz23_0
          try clear hfz23_1
          try clear hfz23_2
          try clear hfz27_0
          try clear hfz27_1
          try clear hfz27_2
          try clear hfz31_0
          try clear hfz31_1
          try clear hfz31_2
          try clear hfz40_0
          try clear hfz40_1
          try clear hfz40_2
          try clear hfz7_0
          try clear hfz7_1
          try clear hfz7_2
          obtain ⟨kq, x50_18, rfl, HA, HJ18, HO_8, HO_10, HO_635002, BK619, BK634, HB⟩ := hcut
          have hl635002_18 := (Kd.R_reads' HO_635002.out).1
          rw [hl635002_18] at HO_635002
          (try simp only [hl635002_18])
          (try simp only [hl635002_18] at BK619)
          (try simp only [hl635002_18] at BK634)
          (try simp only [hl635002_18] at HO_8)
          (try simp only [hl635002_18] at HO_10)
          cases kq with
          | zero => exact absurd HA.out (by simp [laws_FnExactTileSums.j0])
          | succ kj18 =>
            have H := HA.out
            clear HA
            simp only [laws_FnExactTileSums.j0] at H
            by_cases c44 : x50_18 = true
            · subst c44
              have H1 : (some false) = some r := by rw [if_pos rfl] at H; exact H
              clear H
              have H := H1
              clear H1
              exact absurd ((Option.some.inj H).trans hT.out) (by decide)
            · replace c44 := Bool.eq_false_iff.mpr c44
              subst c44
              have H1 : ((laws_markIntS.f kj18 t635 1).bind fun bt648 => ((laws_heldIntS.f kj18 bt648.2 1).bind fun t650 => (if t650 < 0 then (some false) else (if t650 = bt648.1 then ((laws_toPicture.f kj18 a0_0 a0_1 l0_2).bind fun bt651 => ((impl_TileSums.f kj18 bt651.1 bt651.2.1 bt651.2.2 a1 a2).bind fun t656 => ((laws_eqIntS.f kj18 t656 t626).bind fun t659 => (if t659 = true then ((laws_heldIntS.f kj18 bt648.2 1).bind fun t660 => (if t660 < 0 then (some false) else (if t660 = bt648.1 then (some true) else (some false)))) else (some false))))) else (some false))))) = some r := by rw [if_neg (show ¬ (false = true) by decide)] at H; exact H
              clear H
              have H := H1
              clear H1
              replace H := Option.bind_eq_some_iff.mp H
              obtain ⟨⟨t648, t649⟩, A450, H⟩ := H
              replace H : ((laws_heldIntS.f kj18 t649 1).bind fun t650 => (if t650 < 0 then (some false) else (if t650 = t648 then ((laws_toPicture.f kj18 a0_0 a0_1 l0_2).bind fun bt651 => ((impl_TileSums.f kj18 bt651.1 bt651.2.1 bt651.2.2 a1 a2).bind fun t656 => ((laws_eqIntS.f kj18 t656 t626).bind fun t659 => (if t659 = true then ((laws_heldIntS.f kj18 t649 1).bind fun t660 => (if t660 < 0 then (some false) else (if t660 = t648 then (some true) else (some false)))) else (some false))))) else (some false)))) = some r := H
              have A45 := Aside0.mk A450
              clear A450
              replace H := Option.bind_eq_some_iff.mp H
              obtain ⟨t650, A460, H⟩ := H
              replace H : (if t650 < 0 then (some false) else (if t650 = t648 then ((laws_toPicture.f kj18 a0_0 a0_1 l0_2).bind fun bt651 => ((impl_TileSums.f kj18 bt651.1 bt651.2.1 bt651.2.2 a1 a2).bind fun t656 => ((laws_eqIntS.f kj18 t656 t626).bind fun t659 => (if t659 = true then ((laws_heldIntS.f kj18 t649 1).bind fun t660 => (if t660 < 0 then (some false) else (if t660 = t648 then (some true) else (some false)))) else (some false))))) else (some false))) = some r := H
              have A46 := Aside0.mk A460
              clear A460
              by_cases c47 : t650 < 0
              · rw [if_pos c47] at H
                have c47b0 : decide (t650 < 0) = true := decide_eq_true c47
                clear c47
                exact absurd ((Option.some.inj H).trans hT.out) (by decide)
              · rw [if_neg c47] at H
                have c47b0 : decide (t650 < 0) = false := decide_eq_false c47
                clear c47
                by_cases c48 : t650 = t648
                · rw [if_pos c48] at H
                  have c48b0 : (t650 == t648) = true := beq_iff_eq.mpr c48
                  have c48b1 : (t650 != t648) = false := bne_eq_false_iff_eq.mpr c48
                  clear c48
                  replace H := Option.bind_eq_some_iff.mp H
                  obtain ⟨⟨t651, t652, t653⟩, A490, H⟩ := H
                  replace H : ((impl_TileSums.f kj18 t651 t652 t653 a1 a2).bind fun t656 => ((laws_eqIntS.f kj18 t656 t626).bind fun t659 => (if t659 = true then ((laws_heldIntS.f kj18 t649 1).bind fun t660 => (if t660 < 0 then (some false) else (if t660 = t648 then (some true) else (some false)))) else (some false)))) = some r := H
                  have A49 := Aside0.mk A490
                  clear A490
                  replace H := Option.bind_eq_some_iff.mp H
                  obtain ⟨t656, A500, H⟩ := H
                  replace H : ((laws_eqIntS.f kj18 t656 t626).bind fun t659 => (if t659 = true then ((laws_heldIntS.f kj18 t649 1).bind fun t660 => (if t660 < 0 then (some false) else (if t660 = t648 then (some true) else (some false)))) else (some false))) = some r := H
                  have A50 := Aside0.mk A500
                  clear A500
                  replace H := Option.bind_eq_some_iff.mp H
                  obtain ⟨t659, A510, H⟩ := H
                  replace H : (if t659 = true then ((laws_heldIntS.f kj18 t649 1).bind fun t660 => (if t660 < 0 then (some false) else (if t660 = t648 then (some true) else (some false)))) else (some false)) = some r := H
                  have A51 := Aside0.mk A510
                  clear A510
                  by_cases c52 : t659 = true
                  · subst c52
                    have H1 : ((laws_heldIntS.f kj18 t649 1).bind fun t660 => (if t660 < 0 then (some false) else (if t660 = t648 then (some true) else (some false)))) = some r := by rw [if_pos rfl] at H; exact H
                    clear H
                    have H := H1
                    clear H1
                    replace H := Option.bind_eq_some_iff.mp H
                    obtain ⟨t660, A530, H⟩ := H
                    replace H : (if t660 < 0 then (some false) else (if t660 = t648 then (some true) else (some false))) = some r := H
                    have A53 := Aside0.mk A530
                    clear A530
                    by_cases c54 : t660 < 0
                    · rw [if_pos c54] at H
                      have c54b0 : decide (t660 < 0) = true := decide_eq_true c54
                      clear c54
                      exact absurd ((Option.some.inj H).trans hT.out) (by decide)
                    · rw [if_neg c54] at H
                      have c54b0 : decide (t660 < 0) = false := decide_eq_false c54
                      clear c54
                      by_cases c55 : t660 = t648
                      · rw [if_pos c55] at H
                        have c55b0 : (t660 == t648) = true := beq_iff_eq.mpr c55
                        have c55b1 : (t660 != t648) = false := bne_eq_false_iff_eq.mpr c55
                        clear c55
                        obtain rfl := Option.some.inj H
                        go_wp2_with (first | ((with_reducible refine gate_callee (f := 54) rfl ?_); refine goesL_ (some 53) rfl rfl Try.func54 (by kernel_rfl) rfl #[.slice Ao34 t635.length co34, .int .i64 1] rfl (by (try simp only [List.map_toArray, List.map_cons, List.map_nil]); first | done | rfl | (simp only [List.length_drop, List.length_take]; rfl)) ?_; (with_reducible refine (laws_markIntS.calls kj18 (fun k_ => some k_ = (.slice Ao34 t635.length co34 : Value).ownBlock) (.slice Ao34 t635.length co34) t635 1 t648 t649 w _ ?side1 ?side2 A45.out).mono ?_); (case side1 => repeat (first | (with_reducible first | exact HB.out | apply below_alloc | apply pw_below_drewN | apply below_drew1 | refine below_set ?_ GE619.out | refine below_set ?_ GE634.out) | exact HB.out)); (case side2 => exact Kd.R_tight rfl HO_10.out); rintro e w56 ⟨rfl, hy0, hb, hkp⟩; refine ⟨_, rfl, ?_⟩; have n0_ := Aside0.mk (Kd.R_mono (ok' := fun k_ => some k_ ≠ (.slice Ao34 t635.length co34 : Value).ownBlock ∧ some k_ ≠ (.slice Ao32 t646.length co32 : Value).ownBlock) (Kd.R_keptB (HO_8.out) hkp (fun k_ hk_ hs_ => (by revert hk_; simp only [and_imp]; intros; exact absurd (show some k_ = _ from hs_) (by assumption)))) (fun k_ hk_ => (by revert hk_; simp only [and_imp]; intros; refine ⟨?_, ?_⟩ <;> assumption))); have n1_ := Aside0.mk (Kd.R_reok rfl hy0 (fun k_ e_ => HO_10.out.1 k_ e_)); have n2_ := Aside0.mk (Kd.R_mono (ok' := fun k_ => some k_ ≠ (.slice Ao35 t626.length co35 : Value).ownBlock ∧ some k_ ≠ (.slice Ao34 t635.length co34 : Value).ownBlock) (Kd.R_keptB (HO_635002.out) hkp (fun k_ hk_ hs_ => (by revert hk_; simp only [and_imp]; intros; exact absurd (show some k_ = _ from hs_) (by assumption)))) (fun k_ hk_ => (by revert hk_; simp only [and_imp]; intros; refine ⟨?_, ?_⟩ <;> assumption))); have n3_ := Aside0.mk (blk_kept (by (with_reducible repeat (first | refine blk_drewN ?_ _ | refine blk_drew ?_ | refine blk_alloc ?_ _)); exact BK619.out) hkp (fun hs_ => (fun e_ => (Kd.R_ne HO_10.out BK619.out (by decide)) e_) hs_)); have n4_ := Aside0.mk (blk_kept (by (with_reducible repeat (first | refine blk_drewN ?_ _ | refine blk_drew ?_ | refine blk_alloc ?_ _)); exact BK634.out) hkp (fun hs_ => (fun e_ => (Kd.R_ne HO_10.out BK634.out (by decide)) e_) hs_)); have n5_ := Aside0.mk (hb); clear HO_8; clear HO_10; clear HO_635002; clear BK619; clear BK634; clear HB; have HO_8 := n0_; have HO_10 := n1_; have HO_635002 := n2_; have BK619 := n3_; have BK634 := n4_; have HB := n5_; clear n0_ n1_ n2_ n3_ n4_ n5_; (try clear hb); (try clear hkp); (try clear hy0)) | ((with_reducible refine gate_callee (f := 55) rfl ?_); refine goesL_ (some 56) rfl rfl Try.func55 (by kernel_rfl) rfl #[.slice Ao34 t649.length co34, .int .i64 1] rfl (by (try simp only [List.map_toArray, List.map_cons, List.map_nil]); first | done | (rw [show t649.length = t635.length from (Kd.R_reads' HO_10.out).1.symm] <;> rfl) | rfl | (simp only [List.length_drop, List.length_take]; rfl)) ?_; (with_reducible refine (laws_heldIntS.calls kj18 _ _ t649 1 t650 _ ?side1 ?side2 A46.out).mono ?_); (case side1 => repeat (first | exact (Kd.R_reads' HO_10.out).2.2 | (with_reducible refine Kd.C_alloc ?_ _) | (with_reducible refine Kd.C_drewN ?_ _) | (with_reducible refine Kd.C_drew ?_))); (case side2 => rw [show t649.length = t635.length from (Kd.R_reads' HO_10.out).1.symm]; exact (Kd.R_reads' HO_10.out).2.1); rintro e w' ⟨rfl, ⟨nd, rfl⟩⟩; refine ⟨_, rfl, ?_⟩; have hnb57 := NB619_634.out; have hnc57 := NB634_619.out; have hcz58_0 : w56.cell? ⟨gb619, 0, none⟩ = some (.int .i64 a0_0) := (blk_cell BK619.out 0).trans rfl; have hcz58_1 : w56.cell? ⟨gb619, 1, none⟩ = some (.int .i64 a0_1) := (blk_cell BK619.out 1).trans rfl; have hcz58_2 : w56.cell? ⟨gb619, 2, none⟩ = some (.slice A0_2 l0_2.length c0_2) := (blk_cell BK619.out 2).trans rfl; have hfz58_0 := blk_frozen BK619.out 0; have hfz58_1 := blk_frozen BK619.out 1; have hfz58_2 := blk_frozen BK619.out 2) | ((with_reducible refine gate_callee (f := 48) rfl ?_); refine goesL_ (some 63) rfl rfl Try.func48 (by kernel_rfl) rfl #[.agg #[.int .i64 a0_0, .int .i64 a0_1, .slice A0_2 l0_2.length c0_2]] rfl (by (try simp only [List.map_toArray, List.map_cons, List.map_nil]); first | done | rfl | (simp only [List.length_drop, List.length_take]; rfl)) ?_; (with_reducible refine (laws_toPicture.calls kj18 a0_0 a0_1 _ _ l0_2 t651 t652 t653 _ ?side1 ?side2 A49.out).mono ?_); (case side1 => repeat (first | exact (Kd.C_below HR0_2.out (by repeat (first | (with_reducible first | exact HB.out | apply below_alloc | apply pw_below_drewN | apply below_drew1 | refine below_set ?_ GE619.out | refine below_set ?_ GE634.out) | exact HB.out))) | (with_reducible refine Kd.C_alloc ?_ _) | (with_reducible refine Kd.C_drewN ?_ _) | (with_reducible refine Kd.C_drew ?_))); (case side2 => exact HC0_2.out); rintro e w59 ⟨v654, rfl, ho0, hb⟩; refine ⟨_, rfl, ?_⟩; have n0_ := Aside0.mk (Kd.R_elder' (by (with_reducible repeat (first | apply Kd.R_alloc | apply Kd.R_drewN | apply Kd.R_drew)); exact HO_8.out) (Kd.R_base ho0) hb); have n1_ := Aside0.mk (Kd.R_elder' (by (with_reducible repeat (first | apply Kd.R_alloc | apply Kd.R_drewN | apply Kd.R_drew)); exact HO_10.out) (Kd.R_base ho0) hb); have n2_ := Aside0.mk (Kd.R_elder' (by (with_reducible repeat (first | apply Kd.R_alloc | apply Kd.R_drewN | apply Kd.R_drew)); exact HO_635002.out) (Kd.R_base ho0) hb); have n3_ := Aside0.mk (Kd.R_lower (Kd.R_new' (Kd.R_new' (Kd.R_new' ho0 (Kd.R_lt (by (with_reducible repeat (first | apply Kd.R_alloc | apply Kd.R_drewN | apply Kd.R_drew)); exact HO_8.out))) (Kd.R_lt (by (with_reducible repeat (first | apply Kd.R_alloc | apply Kd.R_drewN | apply Kd.R_drew)); exact HO_10.out))) (Kd.R_lt (by (with_reducible repeat (first | apply Kd.R_alloc | apply Kd.R_drewN | apply Kd.R_drew)); exact HO_635002.out))) (below_size (by repeat (first | (with_reducible first | exact HB.out | apply below_alloc | apply pw_below_drewN | apply below_drew1 | refine below_set ?_ GE619.out | refine below_set ?_ GE634.out) | exact HB.out)))); have n4_ := Aside0.mk (blk_below (g := gb619) (o := .cells #[.int .i64 a0_0, .int .i64 a0_1, .slice A0_2 l0_2.length c0_2] 48 (0, 0)) (by (with_reducible repeat (first | refine blk_drewN ?_ _ | refine blk_drew ?_ | refine blk_alloc ?_ _)); exact BK619.out) hb); have n5_ := Aside0.mk (blk_below (g := gb634) (o := .cells #[.int .i64 t629, .int .i64 t630, .slice Ao32 t646.length co32] 41 (0, 0)) (by (with_reducible repeat (first | refine blk_drewN ?_ _ | refine blk_drew ?_ | refine blk_alloc ?_ _)); exact BK634.out) hb); have n6_ := Aside0.mk (below_step (by repeat (first | (with_reducible first | exact HB.out | apply below_alloc | apply pw_below_drewN | apply below_drew1 | refine below_set ?_ GE619.out | refine below_set ?_ GE634.out) | exact HB.out)) hb); clear HO_8; clear HO_10; clear HO_635002; clear BK619; clear BK634; clear HB; have HO_8 := n0_; have HO_10 := n1_; have HO_635002 := n2_; have HO655 := n3_; have BK619 := n4_; have BK634 := n5_; have HB := n6_; clear n0_ n1_ n2_ n3_ n4_ n5_ n6_; (try clear hb); (try clear hb2); (try clear hk); (try clear hi); (try clear ho0); obtain ⟨Ao60, co60, eo60⟩ := Kd.R_slice HO655.out; subst eo60) | ((with_reducible refine gate_callee (f := 40) rfl ?_); refine goesL_ (some 66) rfl rfl Try.func40 (by kernel_rfl) rfl #[.agg #[.int .i64 t651, .int .i64 t652, .slice Ao60 t653.length co60], .int .i64 a1, .int .i64 a2] rfl (by (try simp only [List.map_toArray, List.map_cons, List.map_nil]); first | done | rfl | (simp only [List.length_drop, List.length_take]; rfl)) ?_; (with_reducible refine (impl_TileSums.calls kj18 t651 t652 _ _ t653 a1 a2 t656 _ ?side1 ?side2 A50.out).mono ?_); (case side1 => repeat (first | exact (Kd.R_reads' HO655.out).2.2 | (with_reducible refine Kd.C_alloc ?_ _) | (with_reducible refine Kd.C_drewN ?_ _) | (with_reducible refine Kd.C_drew ?_))); (case side2 => exact (Kd.R_reads' HO655.out).2.1); rintro e w61 ⟨v657, rfl, ho0, hb⟩; refine ⟨_, rfl, ?_⟩; have n0_ := Aside0.mk (Kd.R_elder' (by (with_reducible repeat (first | apply Kd.R_alloc | apply Kd.R_drewN | apply Kd.R_drew)); exact HO_8.out) (Kd.R_base ho0) hb); have n1_ := Aside0.mk (Kd.R_elder' (by (with_reducible repeat (first | apply Kd.R_alloc | apply Kd.R_drewN | apply Kd.R_drew)); exact HO_10.out) (Kd.R_base ho0) hb); have n2_ := Aside0.mk (Kd.R_elder' (by (with_reducible repeat (first | apply Kd.R_alloc | apply Kd.R_drewN | apply Kd.R_drew)); exact HO_635002.out) (Kd.R_base ho0) hb); have n3_ := Aside0.mk (Kd.R_elder' (by (with_reducible repeat (first | apply Kd.R_alloc | apply Kd.R_drewN | apply Kd.R_drew)); exact HO655.out) (Kd.R_base ho0) hb); have n4_ := Aside0.mk (Kd.R_lower (Kd.R_new' (Kd.R_new' (Kd.R_new' (Kd.R_new' ho0 (Kd.R_lt (by (with_reducible repeat (first | apply Kd.R_alloc | apply Kd.R_drewN | apply Kd.R_drew)); exact HO_8.out))) (Kd.R_lt (by (with_reducible repeat (first | apply Kd.R_alloc | apply Kd.R_drewN | apply Kd.R_drew)); exact HO_10.out))) (Kd.R_lt (by (with_reducible repeat (first | apply Kd.R_alloc | apply Kd.R_drewN | apply Kd.R_drew)); exact HO_635002.out))) (Kd.R_lt (by (with_reducible repeat (first | apply Kd.R_alloc | apply Kd.R_drewN | apply Kd.R_drew)); exact HO655.out))) (below_size (by repeat (first | (with_reducible first | exact HB.out | apply below_alloc | apply pw_below_drewN | apply below_drew1 | refine below_set ?_ GE619.out | refine below_set ?_ GE634.out) | exact HB.out)))); have n5_ := Aside0.mk (blk_below (g := gb619) (o := .cells #[.int .i64 a0_0, .int .i64 a0_1, .slice A0_2 l0_2.length c0_2] 48 (0, 0)) (by (with_reducible repeat (first | refine blk_drewN ?_ _ | refine blk_drew ?_ | refine blk_alloc ?_ _)); exact BK619.out) hb); have n6_ := Aside0.mk (blk_below (g := gb634) (o := .cells #[.int .i64 t629, .int .i64 t630, .slice Ao32 t646.length co32] 41 (0, 0)) (by (with_reducible repeat (first | refine blk_drewN ?_ _ | refine blk_drew ?_ | refine blk_alloc ?_ _)); exact BK634.out) hb); have n7_ := Aside0.mk (below_step (by repeat (first | (with_reducible first | exact HB.out | apply below_alloc | apply pw_below_drewN | apply below_drew1 | refine below_set ?_ GE619.out | refine below_set ?_ GE634.out) | exact HB.out)) hb); clear HO_8; clear HO_10; clear HO_635002; clear HO655; clear BK619; clear BK634; clear HB; have HO_8 := n0_; have HO_10 := n1_; have HO_635002 := n2_; have HO655 := n3_; have HO658 := n4_; have BK619 := n5_; have BK634 := n6_; have HB := n7_; clear n0_ n1_ n2_ n3_ n4_ n5_ n6_ n7_; (try clear hb); (try clear hb2); (try clear hk); (try clear hi); (try clear ho0); obtain ⟨Ao62, co62, eo62⟩ := Kd.R_slice HO658.out; subst eo62) | ((with_reducible refine gate_callee (f := 53) rfl ?_); refine goesL_ (some 69) rfl rfl Try.func53 (by kernel_rfl) rfl #[.slice Ao62 t656.length co62, .slice Ao35 t626.length co35] rfl (by (try simp only [List.map_toArray, List.map_cons, List.map_nil]); first | done | rfl | (simp only [List.length_drop, List.length_take]; rfl)) ?_; (with_reducible refine (laws_eqIntS.calls kj18 _ _ t656 _ _ t626 true _ ?side1 ?side2 ?side3 ?side4 A51.out).mono ?_); (case side1 => repeat (first | exact (Kd.R_reads' HO658.out).2.2 | (with_reducible refine Kd.C_alloc ?_ _) | (with_reducible refine Kd.C_drewN ?_ _) | (with_reducible refine Kd.C_drew ?_))); (case side2 => exact (Kd.R_reads' HO658.out).2.1); (case side3 => repeat (first | exact (Kd.R_reads' HO_8.out).2.2 | (with_reducible refine Kd.C_alloc ?_ _) | (with_reducible refine Kd.C_drewN ?_ _) | (with_reducible refine Kd.C_drew ?_))); (case side4 => exact (Kd.R_reads' HO_8.out).2.1); rintro e w' ⟨rfl, ⟨nd, rfl⟩⟩; refine ⟨_, rfl, ?_⟩) | ((with_reducible refine gate_callee (f := 55) rfl ?_); refine goesL_ (some 73) rfl rfl Try.func55 (by kernel_rfl) rfl #[.slice Ao34 t649.length co34, .int .i64 1] rfl (by (try simp only [List.map_toArray, List.map_cons, List.map_nil]); first | done | (rw [show t649.length = t635.length from (Kd.R_reads' HO_10.out).1.symm] <;> rfl) | rfl | (simp only [List.length_drop, List.length_take]; rfl)) ?_; (with_reducible refine (laws_heldIntS.calls kj18 _ _ t649 1 t660 _ ?side1 ?side2 A53.out).mono ?_); (case side1 => repeat (first | exact (Kd.R_reads' HO_10.out).2.2 | (with_reducible refine Kd.C_alloc ?_ _) | (with_reducible refine Kd.C_drewN ?_ _) | (with_reducible refine Kd.C_drew ?_))); (case side2 => rw [show t649.length = t635.length from (Kd.R_reads' HO_10.out).1.symm]; exact (Kd.R_reads' HO_10.out).2.1); rintro e w' ⟨rfl, ⟨nd, rfl⟩⟩; refine ⟨_, rfl, ?_⟩))
                        go_ret
                        exact ⟨by first | rfl | (simp [errW_none, errW_some] <;> rfl) | (simp [*, errW_none, errW_some] <;> rfl), by repeat (first | (with_reducible first | exact HB.out | apply below_alloc | apply pw_below_drewN | apply below_drew1 | refine below_set ?_ GE619.out | refine below_set ?_ GE634.out) | exact HB.out)⟩
                      · rw [if_neg c55] at H
                        have c55b0 : (t660 == t648) = false := beq_eq_false_iff_ne.mpr c55
                        have c55b1 : (t660 != t648) = true := bne_iff_ne.mpr c55
                        exact absurd ((Option.some.inj H).trans hT.out) (by decide)
                  · replace c52 := Bool.eq_false_iff.mpr c52
                    subst c52
                    have H1 : (some false) = some r := by rw [if_neg (show ¬ (false = true) by decide)] at H; exact H
                    clear H
                    have H := H1
                    clear H1
                    exact absurd ((Option.some.inj H).trans hT.out) (by decide)
                · rw [if_neg c48] at H
                  have c48b0 : (t650 == t648) = false := beq_eq_false_iff_ne.mpr c48
                  have c48b1 : (t650 != t648) = true := bne_iff_ne.mpr c48
                  exact absurd ((Option.some.inj H).trans hT.out) (by decide)
      · replace c17 := Bool.eq_false_iff.mpr c17
        subst c17
        have H1 : (some false) = some r := by rw [if_neg (show ¬ (false = true) by decide)] at H; exact H
        clear H
        have H := H1
        clear H1
        exact absurd ((Option.some.inj H).trans hT.out) (by decide)
    · replace c14 := Bool.eq_false_iff.mpr c14
      subst c14
      have H1 : (some false) = some r := by rw [if_neg (show ¬ (false = true) by decide)] at H; exact H
      clear H
      have H := H1
      clear H1
      exact absurd ((Option.some.inj H).trans hT.out) (by decide)

end Go.Proofs.Ytdlehfnlibddcaa.P
