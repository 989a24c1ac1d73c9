-- Written by tools/seatprint.py (over the kit's print, changed in memory). Not trusted: Lean checks it.
import Derived.Test.YtdlehfnlibddcaaP0
import Derived.Test.YtdlehfnlibddcaaFlawsat
import Derived.Test.YtdlehfnlibddcaaFimplBayerMatrix
import Derived.Test.YtdlehfnlibddcaaFlawspower
import Derived.Test.YtdlehfnlibddcaaFimplSpreadOf
namespace Go.Proofs.Ytdlehfnlibddcaa.P
open Go.RowKit Go.Proofs.YtdlehfnlibddcaaW.PrintWords Go.Proofs.YtdlehfnlibddcaaW.PrintLast Go.Proofs.YtdlehfnlibddcaaW.PrintMore
attribute [local go_sem] max2_int min2_int max_two min_two max_three min_three max_four min_four   -- for this text's walks alone
set_option linter.unusedVariables false
set_option linter.unusedSimpArgs false

/-! ### laws_FnSpread: function 7 -/
def laws_FnSpread.j0 : Nat → Int → Bool → Int → Int → List Int → Option (Bool)
  | 0, _, _, _, _, _ => none
  | k + 1, x3, x41, x450000, x450001, x450002 => if x41 = true then (some false) else ((impl_SpreadOf.f k x450000 x450001 x450002 2).bind fun t453 => ((laws_power.f k (wrap64 (x3 - 1))).bind fun t454 => ((laws_power.f k (wrap64 (x3 - 1))).bind fun t455 => (if t453 = (wrap64 ((wrap64 (2 * t454)) * t455)) then ((impl_SpreadOf.f k x450000 x450001 x450002 1).bind fun t456 => (some (t456 == 0))) else (some false)))))
def laws_FnSpread.f (k : Nat) (l0 : List Int) : Option (Bool) := if (l0.length : Int) > 1048576 then (some true) else ((laws_at.f l0 1).bind fun t441 => ((laws_at.f l0 2).bind fun t442 => (if (wrap64 (1 + (Int.tmod t441 4))) = 0 then (none) else ((impl_BayerMatrix.f k (wrap64 (1 + (Int.tmod t441 4)))).bind fun bt443 => ((laws_power.f k (wrap64 ((wrap64 (1 + (Int.tmod t441 4))) - (wrap64 (1 + (Int.tmod t442 (wrap64 (1 + (Int.tmod t441 4))))))))).bind fun t450 => (if bt443.2.2.2 = true then ((laws_power.f k (wrap64 (2 * (wrap64 (1 + (Int.tmod t442 (wrap64 (1 + (Int.tmod t441 4))))))))).bind fun t451 => ((impl_SpreadOf.f k bt443.1 bt443.2.1 bt443.2.2.1 t451).bind fun t452 => (laws_FnSpread.j0 k (wrap64 (1 + (Int.tmod t441 4))) (t452 != (wrap64 (t450 * t450))) bt443.1 bt443.2.1 bt443.2.2.1))) else (laws_FnSpread.j0 k (wrap64 (1 + (Int.tmod t441 4))) true bt443.1 bt443.2.1 bt443.2.2.1)))))))
theorem laws_FnSpread.mono_l : ∀ k, (∀ y0 y1 y2 y3 y4, LeO (laws_FnSpread.j0 k y0 y1 y2 y3 y4) (laws_FnSpread.j0 (k + 1) y0 y1 y2 y3 y4))
  | 0 => fun _ _ _ _ _ r h => by simp [laws_FnSpread.j0] at h
  | k + 1 => by
    have ih0 := laws_FnSpread.mono_l k
    · intro y0 y1 y2 y3 y4
      unfold laws_FnSpread.j0
      repeat' first
      | (with_reducible exact ih0 _ _ _ _ _)
      | (with_reducible exact impl_BayerMatrix.mono _ _)
      | (with_reducible exact impl_SpreadOf.mono _ _ _ _ _)
      | (with_reducible exact laws_power.mono _ _)
      | (with_reducible exact LeO.refl _)
      | (with_reducible exact LeO.none _)
      | (with_reducible refine LeO.ite ?_ ?_)
      | (with_reducible refine LeO.bind ?_ (fun _ => ?_))
      | exact ih0 _ _ _ _ _
      | exact impl_BayerMatrix.mono _ _
      | exact impl_SpreadOf.mono _ _ _ _ _
      | exact laws_power.mono _ _
      | exact LeO.none _
      | refine LeO.ite ?_ ?_
      | refine LeO.bind ?_ (fun _ => ?_)
theorem laws_FnSpread.mono : ∀ a0 k, LeO (laws_FnSpread.f k a0) (laws_FnSpread.f (k + 1) a0) := by
  intro a0 k
  have ih0 := laws_FnSpread.mono_l k
  unfold laws_FnSpread.f
  repeat' first
      | (with_reducible exact ih0 _ _ _ _ _)
      | (with_reducible exact impl_BayerMatrix.mono _ _)
      | (with_reducible exact impl_SpreadOf.mono _ _ _ _ _)
      | (with_reducible exact laws_power.mono _ _)
      | (with_reducible exact LeO.refl _)
      | (with_reducible exact LeO.none _)
      | (with_reducible refine LeO.ite ?_ ?_)
      | (with_reducible refine LeO.bind ?_ (fun _ => ?_))
      | exact ih0 _ _ _ _ _
      | exact impl_BayerMatrix.mono _ _
      | exact impl_SpreadOf.mono _ _ _ _ _
      | exact laws_power.mono _ _
      | exact LeO.none _
      | refine LeO.ite ?_ ?_
      | refine LeO.bind ?_ (fun _ => ?_)
def laws_FnSpread.T7 : Bool × List (List Nat × List Nat) := (true, [([], []), ([0], [0]), ([1], [1]), ([2], [2]), ([2], [2]), ([4, 2], [2, 4]), ([5, 2, 2], [2, 5]), ([3, 6, 6, 2], [2, 3, 6]), ([2], [2]), ([2], [2]), ([8, 9, 2], [2, 8, 9]), ([7, 10, 2], [2, 7, 10]), ([2, 11], [2, 11])])
def laws_FnSpread.B7 : List Nat := [0, 1, 3, 7, 7, 23, 55, 127, 7, 7, 775, 2047, 4095]
theorem laws_FnSpread.tab7 : rtab .any (opsOf Try.f7 7) = laws_FnSpread.T7 := by kernel_rfl
theorem laws_FnSpread.bits7 : waitsOk laws_FnSpread.T7.2 laws_FnSpread.B7 = true := by kernel_rfl
set_option maxHeartbeats 8000000 in
set_option maxRecDepth 100000 in
theorem laws_FnSpread.calls (k : Nat) (A0 : Option Addr) (c0 : Nat) (l0 : List Int) (r : Bool) (w : World) (hr0 : Kd.C (Kd.int .u8) w A0 l0.length l0) (hc0 : l0.length ≤ c0) (hT : Aside0 (r = true)) (h : laws_FnSpread.f k l0 = some r) :
    Calls Try.prog 7 #[.slice A0 l0.length c0] w fun e w' => e = .returned (.bool r) ∧ Below w.heap.size w w' := by
  have hu26 := Try.underlying26
  have HR0 := Aside0.mk hr0
  have HC0 := Aside0.mk hc0
  clear hr0 hc0
  have HB := Aside0.mk (Below.refl w.heap.size w)
  have H : (if (l0.length : Int) > 1048576 then (some true) else ((laws_at.f l0 1).bind fun t441 => ((laws_at.f l0 2).bind fun t442 => (if (wrap64 (1 + (Int.tmod t441 4))) = 0 then (none) else ((impl_BayerMatrix.f k (wrap64 (1 + (Int.tmod t441 4)))).bind fun bt443 => ((laws_power.f k (wrap64 ((wrap64 (1 + (Int.tmod t441 4))) - (wrap64 (1 + (Int.tmod t442 (wrap64 (1 + (Int.tmod t441 4))))))))).bind fun t450 => (if bt443.2.2.2 = true then ((laws_power.f k (wrap64 (2 * (wrap64 (1 + (Int.tmod t442 (wrap64 (1 + (Int.tmod t441 4))))))))).bind fun t451 => ((impl_SpreadOf.f k bt443.1 bt443.2.1 bt443.2.2.1 t451).bind fun t452 => (laws_FnSpread.j0 k (wrap64 (1 + (Int.tmod t441 4))) (t452 != (wrap64 (t450 * t450))) bt443.1 bt443.2.1 bt443.2.2.1))) else (laws_FnSpread.j0 k (wrap64 (1 + (Int.tmod t441 4))) true bt443.1 bt443.2.1 bt443.2.2.1)))))))) = some r := h
  clear h
  by_cases c2 : (l0.length : Int) > 1048576
  · rw [if_pos c2] at H
    have c2b0 : decide (1048576 < (l0.length : Int)) = true := decide_eq_true c2
    have c2b1 : decide (1048576 < l0.length) = true := decide_eq_true (by omega)
    clear c2
    obtain rfl := Option.some.inj H
    go_enter Try.func7, Try.ntmps7
    go_wp2
    go_ret
    exact ⟨by first | rfl | (simp [errW_none, errW_some] <;> rfl) | (simp [*, errW_none, errW_some] <;> rfl), by repeat (first | (with_reducible first | exact HB.out | apply below_alloc | apply pw_below_drewN | apply below_drew1) | exact HB.out)⟩
  · rw [if_neg c2] at H
    have c2b0 : decide (1048576 < (l0.length : Int)) = false := decide_eq_false c2
    have c2b1 : decide (1048576 < l0.length) = false := decide_eq_false (by omega)
    clear c2
    replace H := Option.bind_eq_some_iff.mp H
    obtain ⟨t441, A30, H⟩ := H
    replace H : ((laws_at.f l0 2).bind fun t442 => (if (wrap64 (1 + (Int.tmod t441 4))) = 0 then (none) else ((impl_BayerMatrix.f k (wrap64 (1 + (Int.tmod t441 4)))).bind fun bt443 => ((laws_power.f k (wrap64 ((wrap64 (1 + (Int.tmod t441 4))) - (wrap64 (1 + (Int.tmod t442 (wrap64 (1 + (Int.tmod t441 4))))))))).bind fun t450 => (if bt443.2.2.2 = true then ((laws_power.f k (wrap64 (2 * (wrap64 (1 + (Int.tmod t442 (wrap64 (1 + (Int.tmod t441 4))))))))).bind fun t451 => ((impl_SpreadOf.f k bt443.1 bt443.2.1 bt443.2.2.1 t451).bind fun t452 => (laws_FnSpread.j0 k (wrap64 (1 + (Int.tmod t441 4))) (t452 != (wrap64 (t450 * t450))) bt443.1 bt443.2.1 bt443.2.2.1))) else (laws_FnSpread.j0 k (wrap64 (1 + (Int.tmod t441 4))) true bt443.1 bt443.2.1 bt443.2.2.1)))))) = some r := H
    have A3 := Aside0.mk A30
    clear A30
    replace H := Option.bind_eq_some_iff.mp H
    obtain ⟨t442, A40, H⟩ := H
    replace H : (if (wrap64 (1 + (Int.tmod t441 4))) = 0 then (none) else ((impl_BayerMatrix.f k (wrap64 (1 + (Int.tmod t441 4)))).bind fun bt443 => ((laws_power.f k (wrap64 ((wrap64 (1 + (Int.tmod t441 4))) - (wrap64 (1 + (Int.tmod t442 (wrap64 (1 + (Int.tmod t441 4))))))))).bind fun t450 => (if bt443.2.2.2 = true then ((laws_power.f k (wrap64 (2 * (wrap64 (1 + (Int.tmod t442 (wrap64 (1 + (Int.tmod t441 4))))))))).bind fun t451 => ((impl_SpreadOf.f k bt443.1 bt443.2.1 bt443.2.2.1 t451).bind fun t452 => (laws_FnSpread.j0 k (wrap64 (1 + (Int.tmod t441 4))) (t452 != (wrap64 (t450 * t450))) bt443.1 bt443.2.1 bt443.2.2.1))) else (laws_FnSpread.j0 k (wrap64 (1 + (Int.tmod t441 4))) true bt443.1 bt443.2.1 bt443.2.2.1))))) = some r := H
    have A4 := Aside0.mk A40
    clear A40
    by_cases c5 : (wrap64 (1 + (Int.tmod t441 4))) = 0
    · rw [if_pos c5] at H
      exact absurd H (by simp)
    · rw [if_neg c5] at H
      have c5b0 : ((wrap64 (1 + (Int.tmod t441 4))) == 0) = false := beq_eq_false_iff_ne.mpr c5
      have c5b1 : ((wrap64 (1 + (Int.tmod t441 4))) != 0) = true := bne_iff_ne.mpr c5
      replace H := Option.bind_eq_some_iff.mp H
      obtain ⟨⟨t443, t444, t445, t448⟩, A60, H⟩ := H
      replace H : ((laws_power.f k (wrap64 ((wrap64 (1 + (Int.tmod t441 4))) - (wrap64 (1 + (Int.tmod t442 (wrap64 (1 + (Int.tmod t441 4))))))))).bind fun t450 => (if t448 = true then ((laws_power.f k (wrap64 (2 * (wrap64 (1 + (Int.tmod t442 (wrap64 (1 + (Int.tmod t441 4))))))))).bind fun t451 => ((impl_SpreadOf.f k t443 t444 t445 t451).bind fun t452 => (laws_FnSpread.j0 k (wrap64 (1 + (Int.tmod t441 4))) (t452 != (wrap64 (t450 * t450))) t443 t444 t445))) else (laws_FnSpread.j0 k (wrap64 (1 + (Int.tmod t441 4))) true t443 t444 t445))) = some r := H
      have A6 := Aside0.mk A60
      clear A60
      replace H := Option.bind_eq_some_iff.mp H
      obtain ⟨t450, A70, H⟩ := H
      replace H : (if t448 = true then ((laws_power.f k (wrap64 (2 * (wrap64 (1 + (Int.tmod t442 (wrap64 (1 + (Int.tmod t441 4))))))))).bind fun t451 => ((impl_SpreadOf.f k t443 t444 t445 t451).bind fun t452 => (laws_FnSpread.j0 k (wrap64 (1 + (Int.tmod t441 4))) (t452 != (wrap64 (t450 * t450))) t443 t444 t445))) else (laws_FnSpread.j0 k (wrap64 (1 + (Int.tmod t441 4))) true t443 t444 t445)) = some r := H
      have A7 := Aside0.mk A70
      clear A70
      have HC8 := Aside0.mk H
      clear H
      go_enter Try.func7, Try.ntmps7
      go_upto_region 7 with (first | ((with_reducible refine gate_callee (f := 23) rfl ?_); refine goesL_ (some 12) rfl rfl Try.func23 (by kernel_rfl) rfl #[.slice A0 l0.length c0, .int .i64 1] rfl (by (try simp only [List.map_toArray, List.map_cons, List.map_nil]); first | done | rfl | (simp only [List.length_drop, List.length_take]; rfl)) ?_; (with_reducible refine (laws_at.calls _ _ l0 1 t441 _ ?side1 ?side2 A3.out).mono ?_); (case side1 => repeat (first | exact HR0.out | (with_reducible refine Kd.C_alloc ?_ _) | (with_reducible refine Kd.C_drewN ?_ _) | (with_reducible refine Kd.C_drew ?_))); (case side2 => exact HC0.out); rintro e w' ⟨rfl, ⟨nd, rfl⟩⟩; refine ⟨_, rfl, ?_⟩) | ((with_reducible refine gate_callee (f := 23) rfl ?_); refine goesL_ (some 16) rfl rfl Try.func23 (by kernel_rfl) rfl #[.slice A0 l0.length c0, .int .i64 2] rfl (by (try simp only [List.map_toArray, List.map_cons, List.map_nil]); first | done | rfl | (simp only [List.length_drop, List.length_take]; rfl)) ?_; (with_reducible refine (laws_at.calls _ _ l0 2 t442 _ ?side1 ?side2 A4.out).mono ?_); (case side1 => repeat (first | exact HR0.out | (with_reducible refine Kd.C_alloc ?_ _) | (with_reducible refine Kd.C_drewN ?_ _) | (with_reducible refine Kd.C_drew ?_))); (case side2 => exact HC0.out); rintro e w' ⟨rfl, ⟨nd, rfl⟩⟩; refine ⟨_, rfl, ?_⟩) | ((with_reducible refine gate_callee (f := 26) rfl ?_); refine goesL_ (some 22) rfl rfl Try.func26 (by kernel_rfl) rfl #[.int .i64 (wrap64 (1 + (Int.tmod t441 4)))] rfl (by (try simp only [List.map_toArray, List.map_cons, List.map_nil]); first | done | rfl | (simp only [List.length_drop, List.length_take]; rfl)) ?_; (with_reducible refine (impl_BayerMatrix.calls k (wrap64 (1 + (Int.tmod t441 4))) t443 t444 t445 t448 _ A6.out).mono ?_); rintro e w9 ⟨v446, rfl, ho0, hb⟩; refine ⟨_, rfl, ?_⟩; have n0_ := Aside0.mk (Kd.R_lower ho0 (below_size (by repeat (first | (with_reducible first | exact HB.out | apply below_alloc | apply pw_below_drewN | apply below_drew1) | exact HB.out)))); have n1_ := Aside0.mk (below_step (by repeat (first | (with_reducible first | exact HB.out | apply below_alloc | apply pw_below_drewN | apply below_drew1) | exact HB.out)) hb); clear HB; have HO447 := n0_; have HB := n1_; clear n0_ n1_; (try clear hb); (try clear hb2); (try clear hk); (try clear hi); (try clear ho0)) | ((with_reducible refine gate_dst (N := 5) rfl ?_); refine box_event ?hg (N := 5) ?hd (cs := #[.int .i64 0, .int .i64 0, .slice none 0 0]) (t := 26) ?hr ?_; (case hd => rfl); (case hg => rfl); (case hr => first | (go_simp; done) | (go_simp; rfl)); intro gb449 hg w10 hbox hb; have n0_ := Aside0.mk (Kd.R_below (by (with_reducible repeat (first | apply Kd.R_alloc | apply Kd.R_drewN | apply Kd.R_drew)); exact HO447.out) hb); have n1_ := Aside0.mk (below_step (by repeat (first | (with_reducible first | exact HB.out | apply below_alloc | apply pw_below_drewN | apply below_drew1) | exact HB.out)) hb); have n2_ := Aside0.mk (hbox); have n3_ := Aside0.mk ((by rw [hg]; exact (below_size (by repeat (first | (with_reducible first | exact HB.out | apply below_alloc | apply pw_below_drewN | apply below_drew1) | exact HB.out))) : w.heap.size ≤ gb449)); have n4_ := Aside0.mk ((by rw [hg]; exact (below_size (by repeat (first | (with_reducible first | exact HB.out | apply below_alloc | apply pw_below_drewN | apply below_drew1) | exact HB.out))) : w.heap.size ≤ gb449)); clear HO447; clear HB; have HO447 := n0_; have HB := n1_; have BK449 := n2_; have GW449 := n3_; have GE449 := n4_; clear n0_ n1_ n2_ n3_ n4_; clear hb hbox hg; have hcz11_0 : w10.cell? ⟨gb449, 0, none⟩ = some (.int .i64 0) := (blk_cell BK449.out 0).trans rfl; have hcz11_1 : w10.cell? ⟨gb449, 1, none⟩ = some (.int .i64 0) := (blk_cell BK449.out 1).trans rfl; have hcz11_2 : w10.cell? ⟨gb449, 2, none⟩ = some (.slice none 0 0) := (blk_cell BK449.out 2).trans rfl; have hfz11_0 := blk_frozen BK449.out 0; have hfz11_1 := blk_frozen BK449.out 1; have hfz11_2 := blk_frozen BK449.out 2; obtain ⟨Ao12, co12, eo12⟩ := Kd.R_slice HO447.out; subst eo12) | ((with_reducible refine gate_callee (f := 27) rfl ?_); refine goesL_ (some 28) rfl rfl Try.func27 (by kernel_rfl) rfl #[.int .i64 (wrap64 ((wrap64 (1 + (Int.tmod t441 4))) - (wrap64 (1 + (Int.tmod t442 (wrap64 (1 + (Int.tmod t441 4))))))))] rfl (by (try simp only [List.map_toArray, List.map_cons, List.map_nil]); first | done | rfl | (simp only [List.length_drop, List.length_take]; rfl)) ?_; (with_reducible refine (laws_power.calls k (wrap64 ((wrap64 (1 + (Int.tmod t441 4))) - (wrap64 (1 + (Int.tmod t442 (wrap64 (1 + (Int.tmod t441 4)))))))) t450 _ A7.out).mono ?_); rintro e w' ⟨rfl, ⟨nd, rfl⟩⟩; refine ⟨_, rfl, ?_⟩))
      (try simp only [Act.put, List.setIfInBounds_toArray, List.set_cons_zero, List.set_cons_succ])
      go_cut [41] (fun v41 wc => ∃ (kq : Nat) (x41_7 : Bool), v41 = .bool x41_7 ∧ Aside0 (laws_FnSpread.j0 kq (wrap64 (1 + (Int.tmod t441 4))) x41_7 t443 t444 t445 = some r) ∧ Aside0 (kq ≤ k) ∧ Aside0 (Kd.R (Kd.int .i64) 3 wc w.heap.size (fun _ => True) (.slice Ao12 t445.length co12) t445) ∧ Aside0 (wc.heap[gb449]? = some (.cells #[.int .i64 t443, .int .i64 t444, (.slice Ao12 t445.length co12)] 26 (0, 0))) ∧ Aside0 (Below w.heap.size w wc))
      case first =>
        have H := HC8.out
        clear HC8
        by_cases c13 : t448 = true
        · subst c13
          have H1 : ((laws_power.f k (wrap64 (2 * (wrap64 (1 + (Int.tmod t442 (wrap64 (1 + (Int.tmod t441 4))))))))).bind fun t451 => ((impl_SpreadOf.f k t443 t444 t445 t451).bind fun t452 => (laws_FnSpread.j0 k (wrap64 (1 + (Int.tmod t441 4))) (t452 != (wrap64 (t450 * t450))) t443 t444 t445))) = some r := by rw [if_pos rfl] at H; exact H
          clear H
          have H := H1
          clear H1
          replace H := Option.bind_eq_some_iff.mp H
          obtain ⟨t451, A140, H⟩ := H
          replace H : ((impl_SpreadOf.f k t443 t444 t445 t451).bind fun t452 => (laws_FnSpread.j0 k (wrap64 (1 + (Int.tmod t441 4))) (t452 != (wrap64 (t450 * t450))) t443 t444 t445)) = some r := H
          have A14 := Aside0.mk A140
          clear A140
          replace H := Option.bind_eq_some_iff.mp H
          obtain ⟨t452, A150, H⟩ := H
          replace H : (laws_FnSpread.j0 k (wrap64 (1 + (Int.tmod t441 4))) (t452 != (wrap64 (t450 * t450))) t443 t444 t445) = some r := H
          have A15 := Aside0.mk A150
          clear A150
          have H' := Aside0.mk H
          clear H
          try go_wp2
          have n0_ : Aside0 (Kd.R (Kd.int .i64) 3 (((w10.setCell ⟨gb449, 0, none⟩ (.int .i64 t443)).setCell ⟨gb449, 1, none⟩ (.int .i64 t444)).setCell ⟨gb449, 2, none⟩ (.slice Ao12 t445.length co12)) w.heap.size (fun _ => True) (.slice Ao12 t445.length co12) t445) := ⟨by (with_reducible repeat (first | apply Kd.R_alloc | apply Kd.R_drewN | apply Kd.R_drew)); exact Kd.R_mono (Kd.R_far (p := ⟨gb449, 2, none⟩) (Kd.R_far (p := ⟨gb449, 1, none⟩) (Kd.R_far (p := ⟨gb449, 0, none⟩) (Kd.R_types HO447.out BK449.out (by decide)) (fun _ hk => hk.2) (.int .i64 t443)) (fun _ hk => hk.2) (.int .i64 t444)) (fun _ hk => hk.2) (.slice Ao12 t445.length co12)) (fun _ hk => trivial)⟩
          have n1_ : Aside0 ((((w10.setCell ⟨gb449, 0, none⟩ (.int .i64 t443)).setCell ⟨gb449, 1, none⟩ (.int .i64 t444)).setCell ⟨gb449, 2, none⟩ (.slice Ao12 t445.length co12)).heap[gb449]? = some (.cells #[.int .i64 t443, .int .i64 t444, .slice Ao12 t445.length co12] 26 (0, 0))) := ⟨by (with_reducible repeat (first | refine blk_drewN ?_ _ | refine blk_drew ?_ | refine blk_alloc ?_ _)); refine blk_put (cs := #[.int .i64 t443, .int .i64 t444, .slice none 0 0]) ?_ 2 _ rfl; (with_reducible repeat (first | refine blk_drewN ?_ _ | refine blk_drew ?_ | refine blk_alloc ?_ _)); refine blk_put (cs := #[.int .i64 t443, .int .i64 0, .slice none 0 0]) ?_ 1 _ rfl; (with_reducible repeat (first | refine blk_drewN ?_ _ | refine blk_drew ?_ | refine blk_alloc ?_ _)); refine blk_put (cs := #[.int .i64 0, .int .i64 0, .slice none 0 0]) ?_ 0 _ rfl; (with_reducible repeat (first | refine blk_drewN ?_ _ | refine blk_drew ?_ | refine blk_alloc ?_ _)); exact BK449.out⟩
          have n2_ : Aside0 (Below w.heap.size w (((w10.setCell ⟨gb449, 0, none⟩ (.int .i64 t443)).setCell ⟨gb449, 1, none⟩ (.int .i64 t444)).setCell ⟨gb449, 2, none⟩ (.slice Ao12 t445.length co12))) := ⟨by repeat (first | (with_reducible first | exact HB.out | apply below_alloc | apply pw_below_drewN | apply below_drew1 | refine below_set ?_ GE449.out) | exact HB.out)⟩
          (try clear HO447)
          (try clear BK449)
          (try clear HB)
          generalize (((w10.setCell ⟨gb449, 0, none⟩ (.int .i64 t443)).setCell ⟨gb449, 1, none⟩ (.int .i64 t444)).setCell ⟨gb449, 2, none⟩ (.slice Ao12 t445.length co12)) = w16 at n0_ n1_ n2_ ⊢
          have HO447 := n0_
          have BK449 := n1_
          have HB := n2_
          clear n0_ n1_ n2_
          have n0_ := Aside0.mk (Kd.R_drew (Kd.R_drewN HO447.out nd))
          have n1_ := Aside0.mk (blk_drew (blk_drewN BK449.out nd))
          have n2_ := Aside0.mk (below_drew1 (pw_below_drewN HB.out nd))
          clear HO447
          clear BK449
          clear HB
          have HO447 := n0_
          have BK449 := n1_
          have HB := n2_
          clear n0_ n1_ n2_
          refine start_ (n := 13) (S := fun w' => w'.cell? ⟨gb449, 0, none⟩ = some (.int .i64 t443) ∧ w'.cell? ⟨gb449, 1, none⟩ = some (.int .i64 t444) ∧ w'.cell? ⟨gb449, 2, none⟩ = some (.slice Ao12 t445.length co12)) (ds := []) #[false, false, false, false, false, false, false, false, false, false, false, false, false] (by kernel_rfl) rfl rfl ⟨(blk_cell BK449.out 0).trans rfl, (blk_cell BK449.out 1).trans rfl, (blk_cell BK449.out 2).trans rfl⟩ (fun hHeld => ?_); refine with_tabW laws_FnSpread.tab7 laws_FnSpread.bits7 (fun HT_ HW_ => ?_)
          generalize (w16.drewN nd).drew = w17 at HO447 BK449 HB hHeld ⊢
          refine pure_ (i := 0) (N := some 29) (v := ?_) (a' := ?_) #[true, false, false, false, false, false, false, false, false, false, false, false, false] rfl rfl (any_of HT_.out (by kernel_rfl)) (fun _ _ _ h => h) (Or.inl ⟨by rfl, ?_⟩) ?_ ?_
          rotate_left
          · intro w'
            go_simp
            with_reducible rfl
          rotate_left
          · simp only [Act.put, List.setIfInBounds_toArray, List.set_cons_zero, List.set_cons_succ, i64_w, i32_w]
            rfl
          refine pure_ (i := 1) (N := some 30) (v := ?_) (a' := ?_) #[true, true, false, false, false, false, false, false, false, false, false, false, false] rfl rfl (any_of HT_.out (by kernel_rfl)) (fun _ _ _ h => h) (Or.inl ⟨by rfl, ?_⟩) ?_ ?_
          rotate_left
          · intro w'
            go_simp
            with_reducible rfl
          rotate_left
          · simp only [Act.put, List.setIfInBounds_toArray, List.set_cons_zero, List.set_cons_succ, i64_w, i32_w]
            rfl
          refine pure_ (i := 2) (N := some 31) (v := ?_) (a' := ?_) #[true, true, true, false, false, false, false, false, false, false, false, false, false] rfl rfl (any_of HT_.out (by kernel_rfl)) (fun _ _ _ h => h) (Or.inl ⟨by rfl, ?_⟩) ?_ ?_
          rotate_left
          · intro w'
            go_simp
            with_reducible rfl
          rotate_left
          · simp only [Act.put, List.setIfInBounds_toArray, List.set_cons_zero, List.set_cons_succ, i64_w, i32_w]
            rfl
          refine pure_ (i := 4) (N := some 33) (v := ?_) (a' := ?_) #[true, true, true, false, true, false, false, false, false, false, false, false, false] rfl rfl (any_of HT_.out (by kernel_rfl)) (fun _ _ _ h => h) (Or.inl ⟨by rfl, ?_⟩) ?_ ?_
          rotate_left
          · intro w'
            go_simp
            with_reducible rfl
          rotate_left
          · simp only [Act.put, List.setIfInBounds_toArray, List.set_cons_zero, List.set_cons_succ, i64_w, i32_w]
            rfl
          refine pure_ (i := 5) (N := some 34) (v := ?_) (a' := ?_) #[true, true, true, false, true, true, false, false, false, false, false, false, false] rfl rfl (any_of HT_.out (by kernel_rfl)) (fun _ _ _ h => h) (Or.inl ⟨by rfl, ?_⟩) ?_ ?_
          rotate_left
          · intro w'
            go_simp
            with_reducible rfl
          rotate_left
          · simp only [Act.put, List.setIfInBounds_toArray, List.set_cons_zero, List.set_cons_succ, i64_w, i32_w]
            rfl
          refine pure_ (i := 8) (N := some 37) (v := ?_) (a' := ?_) #[true, true, true, false, true, true, false, false, true, false, false, false, false] rfl rfl (any_of HT_.out (by kernel_rfl)) (fun _ _ _ h => h) (Or.inl ⟨by rfl, ?_⟩) ?_ ?_
          rotate_left
          · intro w'
            go_simp
            with_reducible rfl
          rotate_left
          · simp only [Act.put, List.setIfInBounds_toArray, List.set_cons_zero, List.set_cons_succ, i64_w, i32_w]
            rfl
          refine pure_ (i := 9) (N := some 38) (v := ?_) (a' := ?_) #[true, true, true, false, true, true, false, false, true, true, false, false, false] rfl rfl (any_of HT_.out (by kernel_rfl)) (fun _ _ _ h => h) (Or.inl ⟨by rfl, ?_⟩) ?_ ?_
          rotate_left
          · intro w'
            go_simp
            with_reducible rfl
          rotate_left
          · simp only [Act.put, List.setIfInBounds_toArray, List.set_cons_zero, List.set_cons_succ, i64_w, i32_w]
            rfl
          refine pure_ (i := 10) (N := some 39) (v := ?_) (a' := ?_) #[true, true, true, false, true, true, false, false, true, true, true, false, false] rfl rfl (any_of HT_.out (by kernel_rfl)) (fun _ _ _ h => h) (Or.inl ⟨by rfl, ?_⟩) ?_ ?_
          rotate_left
          · intro w'
            go_simp
            with_reducible rfl
          rotate_left
          · simp only [Act.put, List.setIfInBounds_toArray, List.set_cons_zero, List.set_cons_succ, i64_w, i32_w]
            rfl
          refine take_ (i := 3) (N := some 32) (v := ?_) (a' := ?_) #[true, true, true, true, true, true, false, false, true, true, true, false, false] rfl rfl (take_ofW HT_.out HW_.out (by kernel_rfl)) (fun _ _ _ h => h) (Or.inl ⟨by rfl, ?_⟩) hHeld ?_ ?_
          rotate_left
          · rintro w' ⟨s0, s1, s2⟩
            go_simp
            with_reducible rfl
          rotate_left
          · simp only [Act.put, List.setIfInBounds_toArray, List.set_cons_zero, List.set_cons_succ, i64_w, i32_w]
            rfl
          refine one_ (i := 6) (N := some 35) #[true, true, true, true, true, true, true, false, true, true, true, false, false] rfl rfl (one_of HT_.out (by kernel_rfl)) (by decide) (fun K hK => ?_)
          refine goes_ Try.func27 (by kernel_rfl) rfl #[.int .i64 (wrap64 (2 * (wrap64 (1 + (Int.tmod t442 (wrap64 (1 + (Int.tmod t441 4))))))))] (by rfl) rfl rfl (by (try simp only [List.map_toArray, List.map_cons, List.map_nil]); first | done | rfl | (simp only [List.length_drop, List.length_take]; rfl)) ?_
          with_reducible refine (laws_power.calls k (wrap64 (2 * (wrap64 (1 + (Int.tmod t442 (wrap64 (1 + (Int.tmod t441 4)))))))) t451 _ A14.out).mono ?_
          rintro e w' ⟨rfl, ⟨nd, rfl⟩⟩
          refine ⟨_, rfl, ?_⟩
          refine hK.out _ _ ⟨(blk_cell BK449.out 0).trans rfl, (blk_cell BK449.out 1).trans rfl, (blk_cell BK449.out 2).trans rfl⟩ (fun hHeld => ?_)
          clear hK K
          refine norm_ (a' := ?_) ?_ ?_
          rotate_left
          · show Act.put _ (some 35) _ = _
            simp only [Act.put, List.setIfInBounds_toArray, List.set_cons_zero, List.set_cons_succ, i64_w, i32_w]
            rfl
          refine one_ (i := 7) (N := some 36) #[true, true, true, true, true, true, true, true, true, true, true, false, false] rfl rfl (one_of HT_.out (by kernel_rfl)) (by decide) (fun K hK => ?_)
          refine goes_ Try.func44 (by kernel_rfl) rfl #[.agg #[.int .i64 t443, .int .i64 t444, .slice Ao12 t445.length co12], .int .i64 t451] (by rfl) rfl rfl (by (try simp only [List.map_toArray, List.map_cons, List.map_nil]); first | done | rfl | (simp only [List.length_drop, List.length_take]; rfl)) ?_
          with_reducible refine (impl_SpreadOf.calls k t443 t444 _ _ t445 t451 t452 _ ?side1 ?side2 A15.out).mono ?_
          (case side1 => repeat (first | exact (Kd.R_reads' HO447.out).2.2 | (with_reducible refine Kd.C_alloc ?_ _) | (with_reducible refine Kd.C_drewN ?_ _) | (with_reducible refine Kd.C_drew ?_)))
          (case side2 => exact (Kd.R_reads' HO447.out).2.1)
          rintro e w18 ⟨rfl, hb⟩
          refine ⟨_, rfl, ?_⟩
          have n0_ := Aside0.mk (Kd.R_below (by (with_reducible repeat (first | apply Kd.R_alloc | apply Kd.R_drewN | apply Kd.R_drew)); exact HO447.out) hb)
          have n1_ := Aside0.mk (blk_below (g := gb449) (o := .cells #[.int .i64 t443, .int .i64 t444, .slice Ao12 t445.length co12] 26 (0, 0)) (by (with_reducible repeat (first | refine blk_drewN ?_ _ | refine blk_drew ?_ | refine blk_alloc ?_ _)); exact BK449.out) hb)
          have n2_ := Aside0.mk (below_step (by repeat (first | (with_reducible first | exact HB.out | apply below_alloc | apply pw_below_drewN | apply below_drew1 | refine below_set ?_ GE449.out) | exact HB.out)) hb)
          clear HO447
          clear BK449
          clear HB
          have HO447 := n0_
          have BK449 := n1_
          have HB := n2_
          clear n0_ n1_ n2_
          (try clear hb)
          (try clear hb2)
          (try clear hk)
          (try clear hi)
          refine hK.out _ _ ⟨(blk_cell BK449.out 0).trans rfl, (blk_cell BK449.out 1).trans rfl, (blk_cell BK449.out 2).trans rfl⟩ (fun hHeld => ?_)
          clear hK K
          refine norm_ (a' := ?_) ?_ ?_
          rotate_left
          · show Act.put _ (some 36) _ = _
            simp only [Act.put, List.setIfInBounds_toArray, List.set_cons_zero, List.set_cons_succ, i64_w, i32_w]
            rfl
          refine pure_ (i := 11) (N := some 40) (v := ?_) (a' := ?_) #[true, true, true, true, true, true, true, true, true, true, true, true, false] rfl rfl (any_of HT_.out (by kernel_rfl)) (fun _ _ _ h => h) (Or.inl ⟨by rfl, ?_⟩) ?_ ?_
          rotate_left
          · intro w'
            go_simp
            with_reducible rfl
          rotate_left
          · simp only [Act.put, List.setIfInBounds_toArray, List.set_cons_zero, List.set_cons_succ, i64_w, i32_w]
            rfl
          refine pure_ (i := 12) (N := some 41) (v := ?_) (a' := ?_) #[true, true, true, true, true, true, true, true, true, true, true, true, true] rfl rfl (any_of HT_.out (by kernel_rfl)) (fun _ _ _ h => h) (Or.inl ⟨by rfl, ?_⟩) ?_ ?_
          rotate_left
          · intro w'
            go_simp
            with_reducible rfl
          rotate_left
          · simp only [Act.put, List.setIfInBounds_toArray, List.set_cons_zero, List.set_cons_succ, i64_w, i32_w]
            rfl
          refine done_ (done_of HT_.out (by kernel_rfl)) ?_
          try go_wp2
          go_meet
          case rel => exact ⟨_, ((t452 != (wrap64 (t450 * t450)))), (by first | rfl | (simp; done) | (simp [*]; done)), H', ⟨by first | omega | exact Nat.le_refl _⟩, ⟨by (with_reducible repeat (first | apply Kd.R_alloc | apply Kd.R_drewN | apply Kd.R_drew)); exact HO447.out⟩, ⟨by (with_reducible repeat (first | refine blk_drewN ?_ _ | refine blk_drew ?_ | refine blk_alloc ?_ _)); exact BK449.out⟩, ⟨by repeat (first | (with_reducible first | exact HB.out | apply below_alloc | apply pw_below_drewN | apply below_drew1 | refine below_set ?_ GE449.out) | exact HB.out)⟩⟩
        · replace c13 := Bool.eq_false_iff.mpr c13
          subst c13
          have H1 : (laws_FnSpread.j0 k (wrap64 (1 + (Int.tmod t441 4))) true t443 t444 t445) = some r := by rw [if_neg (show ¬ (false = true) by decide)] at H; exact H
          clear H
          have H := H1
          clear H1
          have H' := Aside0.mk H
          clear H
          try go_wp2
          have n0_ : Aside0 (Kd.R (Kd.int .i64) 3 (((w10.setCell ⟨gb449, 0, none⟩ (.int .i64 t443)).setCell ⟨gb449, 1, none⟩ (.int .i64 t444)).setCell ⟨gb449, 2, none⟩ (.slice Ao12 t445.length co12)) w.heap.size (fun _ => True) (.slice Ao12 t445.length co12) t445) := ⟨by (with_reducible repeat (first | apply Kd.R_alloc | apply Kd.R_drewN | apply Kd.R_drew)); exact Kd.R_mono (Kd.R_far (p := ⟨gb449, 2, none⟩) (Kd.R_far (p := ⟨gb449, 1, none⟩) (Kd.R_far (p := ⟨gb449, 0, none⟩) (Kd.R_types HO447.out BK449.out (by decide)) (fun _ hk => hk.2) (.int .i64 t443)) (fun _ hk => hk.2) (.int .i64 t444)) (fun _ hk => hk.2) (.slice Ao12 t445.length co12)) (fun _ hk => trivial)⟩
          have n1_ : Aside0 ((((w10.setCell ⟨gb449, 0, none⟩ (.int .i64 t443)).setCell ⟨gb449, 1, none⟩ (.int .i64 t444)).setCell ⟨gb449, 2, none⟩ (.slice Ao12 t445.length co12)).heap[gb449]? = some (.cells #[.int .i64 t443, .int .i64 t444, .slice Ao12 t445.length co12] 26 (0, 0))) := ⟨by (with_reducible repeat (first | refine blk_drewN ?_ _ | refine blk_drew ?_ | refine blk_alloc ?_ _)); refine blk_put (cs := #[.int .i64 t443, .int .i64 t444, .slice none 0 0]) ?_ 2 _ rfl; (with_reducible repeat (first | refine blk_drewN ?_ _ | refine blk_drew ?_ | refine blk_alloc ?_ _)); refine blk_put (cs := #[.int .i64 t443, .int .i64 0, .slice none 0 0]) ?_ 1 _ rfl; (with_reducible repeat (first | refine blk_drewN ?_ _ | refine blk_drew ?_ | refine blk_alloc ?_ _)); refine blk_put (cs := #[.int .i64 0, .int .i64 0, .slice none 0 0]) ?_ 0 _ rfl; (with_reducible repeat (first | refine blk_drewN ?_ _ | refine blk_drew ?_ | refine blk_alloc ?_ _)); exact BK449.out⟩
          have n2_ : Aside0 (Below w.heap.size w (((w10.setCell ⟨gb449, 0, none⟩ (.int .i64 t443)).setCell ⟨gb449, 1, none⟩ (.int .i64 t444)).setCell ⟨gb449, 2, none⟩ (.slice Ao12 t445.length co12))) := ⟨by repeat (first | (with_reducible first | exact HB.out | apply below_alloc | apply pw_below_drewN | apply below_drew1 | refine below_set ?_ GE449.out) | exact HB.out)⟩
          (try clear HO447)
          (try clear BK449)
          (try clear HB)
          generalize (((w10.setCell ⟨gb449, 0, none⟩ (.int .i64 t443)).setCell ⟨gb449, 1, none⟩ (.int .i64 t444)).setCell ⟨gb449, 2, none⟩ (.slice Ao12 t445.length co12)) = w19 at n0_ n1_ n2_ ⊢
          have HO447 := n0_
          have BK449 := n1_
          have HB := n2_
          clear n0_ n1_ n2_
          have n0_ := Aside0.mk (Kd.R_drew (Kd.R_drewN HO447.out nd))
          have n1_ := Aside0.mk (blk_drew (blk_drewN BK449.out nd))
          have n2_ := Aside0.mk (below_drew1 (pw_below_drewN HB.out nd))
          clear HO447
          clear BK449
          clear HB
          have HO447 := n0_
          have BK449 := n1_
          have HB := n2_
          clear n0_ n1_ n2_
          refine start_ (n := 13) (S := fun w' => True) (ds := []) #[false, false, false, false, false, false, false, false, false, false, false, false, false] (by kernel_rfl) rfl rfl trivial (fun hHeld => ?_); refine with_tabW laws_FnSpread.tab7 laws_FnSpread.bits7 (fun HT_ HW_ => ?_)
          generalize (w19.drewN nd).drew = w20 at HO447 BK449 HB hHeld ⊢
          refine pure_ (i := 0) (N := some 29) (v := ?_) (a' := ?_) #[true, false, false, false, false, false, false, false, false, false, false, false, false] rfl rfl (any_of HT_.out (by kernel_rfl)) (fun _ _ _ h => h) (Or.inl ⟨by rfl, ?_⟩) ?_ ?_
          rotate_left
          · intro w'
            go_simp
            with_reducible rfl
          rotate_left
          · simp only [Act.put, List.setIfInBounds_toArray, List.set_cons_zero, List.set_cons_succ, i64_w, i32_w]
            rfl
          refine pure_ (i := 1) (N := some 30) (v := ?_) (a' := ?_) #[true, true, false, false, false, false, false, false, false, false, false, false, false] rfl rfl (any_of HT_.out (by kernel_rfl)) (fun _ _ _ h => h) (Or.inl ⟨by rfl, ?_⟩) ?_ ?_
          rotate_left
          · intro w'
            go_simp
            with_reducible rfl
          rotate_left
          · simp only [Act.put, List.setIfInBounds_toArray, List.set_cons_zero, List.set_cons_succ, i64_w, i32_w]
            rfl
          refine pure_ (i := 2) (N := some 31) (v := ?_) (a' := ?_) #[true, true, true, false, false, false, false, false, false, false, false, false, false] rfl rfl (any_of HT_.out (by kernel_rfl)) (fun _ _ _ h => h) (Or.inl ⟨by rfl, ?_⟩) ?_ ?_
          rotate_left
          · intro w'
            go_simp
            with_reducible rfl
          rotate_left
          · simp only [Act.put, List.setIfInBounds_toArray, List.set_cons_zero, List.set_cons_succ, i64_w, i32_w]
            rfl
          refine pure_ (i := 3) (N := some 32) (v := undef) (a' := ?_) #[true, true, true, true, false, false, false, false, false, false, false, false, false] rfl rfl (any_of HT_.out (by kernel_rfl)) (fun _ _ _ h => h) (Or.inr ⟨by rfl, rfl⟩) ?_ ?_
          rotate_left
          · simp only [Act.put, List.setIfInBounds_toArray, List.set_cons_zero, List.set_cons_succ, i64_w, i32_w]
            rfl
          refine pure_ (i := 4) (N := some 33) (v := undef) (a' := ?_) #[true, true, true, true, true, false, false, false, false, false, false, false, false] rfl rfl (any_of HT_.out (by kernel_rfl)) (fun _ _ _ h => h) (Or.inr ⟨by rfl, rfl⟩) ?_ ?_
          rotate_left
          · simp only [Act.put, List.setIfInBounds_toArray, List.set_cons_zero, List.set_cons_succ, i64_w, i32_w]
            rfl
          refine pure_ (i := 5) (N := some 34) (v := undef) (a' := ?_) #[true, true, true, true, true, true, false, false, false, false, false, false, false] rfl rfl (any_of HT_.out (by kernel_rfl)) (fun _ _ _ h => h) (Or.inr ⟨by rfl, rfl⟩) ?_ ?_
          rotate_left
          · simp only [Act.put, List.setIfInBounds_toArray, List.set_cons_zero, List.set_cons_succ, i64_w, i32_w]
            rfl
          refine pure_ (i := 6) (N := some 35) (v := undef) (a' := ?_) #[true, true, true, true, true, true, true, false, false, false, false, false, false] rfl rfl (any_of HT_.out (by kernel_rfl)) (fun _ _ _ h => h) (Or.inr ⟨by rfl, rfl⟩) ?_ ?_
          rotate_left
          · simp only [Act.put, List.setIfInBounds_toArray, List.set_cons_zero, List.set_cons_succ, i64_w, i32_w]
            rfl
          refine pure_ (i := 7) (N := some 36) (v := undef) (a' := ?_) #[true, true, true, true, true, true, true, true, false, false, false, false, false] rfl rfl (any_of HT_.out (by kernel_rfl)) (fun _ _ _ h => h) (Or.inr ⟨by rfl, rfl⟩) ?_ ?_
          rotate_left
          · simp only [Act.put, List.setIfInBounds_toArray, List.set_cons_zero, List.set_cons_succ, i64_w, i32_w]
            rfl
          refine pure_ (i := 8) (N := some 37) (v := undef) (a' := ?_) #[true, true, true, true, true, true, true, true, true, false, false, false, false] rfl rfl (any_of HT_.out (by kernel_rfl)) (fun _ _ _ h => h) (Or.inr ⟨by rfl, rfl⟩) ?_ ?_
          rotate_left
          · simp only [Act.put, List.setIfInBounds_toArray, List.set_cons_zero, List.set_cons_succ, i64_w, i32_w]
            rfl
          refine pure_ (i := 9) (N := some 38) (v := undef) (a' := ?_) #[true, true, true, true, true, true, true, true, true, true, false, false, false] rfl rfl (any_of HT_.out (by kernel_rfl)) (fun _ _ _ h => h) (Or.inr ⟨by rfl, rfl⟩) ?_ ?_
          rotate_left
          · simp only [Act.put, List.setIfInBounds_toArray, List.set_cons_zero, List.set_cons_succ, i64_w, i32_w]
            rfl
          refine pure_ (i := 10) (N := some 39) (v := undef) (a' := ?_) #[true, true, true, true, true, true, true, true, true, true, true, false, false] rfl rfl (any_of HT_.out (by kernel_rfl)) (fun _ _ _ h => h) (Or.inr ⟨by rfl, rfl⟩) ?_ ?_
          rotate_left
          · simp only [Act.put, List.setIfInBounds_toArray, List.set_cons_zero, List.set_cons_succ, i64_w, i32_w]
            rfl
          refine pure_ (i := 11) (N := some 40) (v := undef) (a' := ?_) #[true, true, true, true, true, true, true, true, true, true, true, true, false] rfl rfl (any_of HT_.out (by kernel_rfl)) (fun _ _ _ h => h) (Or.inr ⟨by rfl, rfl⟩) ?_ ?_
          rotate_left
          · simp only [Act.put, List.setIfInBounds_toArray, List.set_cons_zero, List.set_cons_succ, i64_w, i32_w]
            rfl
          refine pure_ (i := 12) (N := some 41) (v := ?_) (a' := ?_) #[true, true, true, true, true, true, true, true, true, true, true, true, true] rfl rfl (any_of HT_.out (by kernel_rfl)) (fun _ _ _ h => h) (Or.inl ⟨by rfl, ?_⟩) ?_ ?_
          rotate_left
          · intro w'
            go_simp
            with_reducible rfl
          rotate_left
          · simp only [Act.put, List.setIfInBounds_toArray, List.set_cons_zero, List.set_cons_succ, i64_w, i32_w]
            rfl
          refine done_ (done_of HT_.out (by kernel_rfl)) ?_
          try go_wp2
          go_meet
          case rel => exact ⟨_, (true), (by first | rfl | (simp; done) | (simp [*]; done)), H', ⟨by first | omega | exact Nat.le_refl _⟩, ⟨by (with_reducible repeat (first | apply Kd.R_alloc | apply Kd.R_drewN | apply Kd.R_drew)); exact HO447.out⟩, ⟨by (with_reducible repeat (first | refine blk_drewN ?_ _ | refine blk_drew ?_ | refine blk_alloc ?_ _)); exact BK449.out⟩, ⟨by repeat (first | (with_reducible first | exact HB.out | apply below_alloc | apply pw_below_drewN | apply below_drew1 | refine below_set ?_ GE449.out) | exact HB.out)⟩⟩
      case rest =>
        clear HC8
        try clear c1
        try clear c2
        try clear c2b0
        try clear c2b1
        try clear p2
        try clear c4
        try clear c5
        try clear c5b0
        try clear c5b1
        try clear p6
        try clear c7
        try clear c13
        try clear hcz11_0
        try clear hcz11_1
        try clear hcz11_2
        try clear hfz11_0
        try clear hfz11_1
        try clear hfz11_2
        obtain ⟨kq, x41_7, rfl, HA, HJ7, HO_450002, BK449, HB⟩ := hcut
        cases kq with
        | zero => exact absurd HA.out (by simp [laws_FnSpread.j0])
        | succ kj7 =>
          have H := HA.out
          clear HA
          simp only [laws_FnSpread.j0] at H
          by_cases c21 : x41_7 = true
          · subst c21
            have H1 : (some false) = some r := by rw [if_pos rfl] at H; exact H
            clear H
            have H := H1
            clear H1
            exact absurd ((Option.some.inj H).trans hT.out) (by decide)
          · replace c21 := Bool.eq_false_iff.mpr c21
            subst c21
            have H1 : ((impl_SpreadOf.f kj7 t443 t444 t445 2).bind fun t453 => ((laws_power.f kj7 (wrap64 ((wrap64 (1 + (Int.tmod t441 4))) - 1))).bind fun t454 => ((laws_power.f kj7 (wrap64 ((wrap64 (1 + (Int.tmod t441 4))) - 1))).bind fun t455 => (if t453 = (wrap64 ((wrap64 (2 * t454)) * t455)) then ((impl_SpreadOf.f kj7 t443 t444 t445 1).bind fun t456 => (some (t456 == 0))) else (some false))))) = some r := by rw [if_neg (show ¬ (false = true) by decide)] at H; exact H
            clear H
            have H := H1
            clear H1
            replace H := Option.bind_eq_some_iff.mp H
            obtain ⟨t453, A220, H⟩ := H
            replace H : ((laws_power.f kj7 (wrap64 ((wrap64 (1 + (Int.tmod t441 4))) - 1))).bind fun t454 => ((laws_power.f kj7 (wrap64 ((wrap64 (1 + (Int.tmod t441 4))) - 1))).bind fun t455 => (if t453 = (wrap64 ((wrap64 (2 * t454)) * t455)) then ((impl_SpreadOf.f kj7 t443 t444 t445 1).bind fun t456 => (some (t456 == 0))) else (some false)))) = some r := H
            have A22 := Aside0.mk A220
            clear A220
            replace H := Option.bind_eq_some_iff.mp H
            obtain ⟨t454, A230, H⟩ := H
            replace H : ((laws_power.f kj7 (wrap64 ((wrap64 (1 + (Int.tmod t441 4))) - 1))).bind fun t455 => (if t453 = (wrap64 ((wrap64 (2 * t454)) * t455)) then ((impl_SpreadOf.f kj7 t443 t444 t445 1).bind fun t456 => (some (t456 == 0))) else (some false))) = some r := H
            have A23 := Aside0.mk A230
            clear A230
            replace H := Option.bind_eq_some_iff.mp H
            obtain ⟨t455, A240, H⟩ := H
            replace H : (if t453 = (wrap64 ((wrap64 (2 * t454)) * t455)) then ((impl_SpreadOf.f kj7 t443 t444 t445 1).bind fun t456 => (some (t456 == 0))) else (some false)) = some r := H
            have A24 := Aside0.mk A240
            clear A240
            by_cases c25 : t453 = (wrap64 ((wrap64 (2 * t454)) * t455))
            · rw [if_pos c25] at H
              have c25b0 : (t453 == (wrap64 ((wrap64 (2 * t454)) * t455))) = true := beq_iff_eq.mpr c25
              have c25b1 : (t453 != (wrap64 ((wrap64 (2 * t454)) * t455))) = false := bne_eq_false_iff_eq.mpr c25
              clear c25
              replace H := Option.bind_eq_some_iff.mp H
              obtain ⟨t456, A260, H⟩ := H
              replace H : (some (t456 == 0)) = some r := H
              have A26 := Aside0.mk A260
              clear A260
              obtain rfl := Option.some.inj H
              have hcz27_0 : wc.cell? ⟨gb449, 0, none⟩ = some (.int .i64 t443) := (blk_cell BK449.out 0).trans rfl
              have hcz27_1 : wc.cell? ⟨gb449, 1, none⟩ = some (.int .i64 t444) := (blk_cell BK449.out 1).trans rfl
              have hcz27_2 : wc.cell? ⟨gb449, 2, none⟩ = some (.slice Ao12 t445.length co12) := (blk_cell BK449.out 2).trans rfl
              have hfz27_0 := blk_frozen BK449.out 0
              have hfz27_1 := blk_frozen BK449.out 1
              have hfz27_2 := blk_frozen BK449.out 2
              go_wp2_with (first | ((with_reducible refine gate_callee (f := 44) rfl ?_); refine goesL_ (some 43) rfl rfl Try.func44 (by kernel_rfl) rfl #[.agg #[.int .i64 t443, .int .i64 t444, .slice Ao12 t445.length co12], .int .i64 2] rfl (by (try simp only [List.map_toArray, List.map_cons, List.map_nil]); first | done | rfl | (simp only [List.length_drop, List.length_take]; rfl)) ?_; (with_reducible refine (impl_SpreadOf.calls kj7 t443 t444 _ _ t445 2 t453 _ ?side1 ?side2 A22.out).mono ?_); (case side1 => repeat (first | exact (Kd.R_reads' HO_450002.out).2.2 | (with_reducible refine Kd.C_alloc ?_ _) | (with_reducible refine Kd.C_drewN ?_ _) | (with_reducible refine Kd.C_drew ?_))); (case side2 => exact (Kd.R_reads' HO_450002.out).2.1); rintro e w28 ⟨rfl, hb⟩; refine ⟨_, rfl, ?_⟩; have n0_ := Aside0.mk (Kd.R_below (by (with_reducible repeat (first | apply Kd.R_alloc | apply Kd.R_drewN | apply Kd.R_drew)); exact HO_450002.out) hb); have n1_ := Aside0.mk (blk_below (g := gb449) (o := .cells #[.int .i64 t443, .int .i64 t444, .slice Ao12 t445.length co12] 26 (0, 0)) (by (with_reducible repeat (first | refine blk_drewN ?_ _ | refine blk_drew ?_ | refine blk_alloc ?_ _)); exact BK449.out) hb); have n2_ := Aside0.mk (below_step (by repeat (first | (with_reducible first | exact HB.out | apply below_alloc | apply pw_below_drewN | apply below_drew1 | refine below_set ?_ GE449.out) | exact HB.out)) hb); clear HO_450002; clear BK449; clear HB; have HO_450002 := n0_; have BK449 := n1_; have HB := n2_; clear n0_ n1_ n2_; (try clear hb); (try clear hb2); (try clear hk); (try clear hi)) | ((with_reducible refine gate_callee (f := 27) rfl ?_); refine goesL_ (some 46) rfl rfl Try.func27 (by kernel_rfl) rfl #[.int .i64 (wrap64 ((wrap64 (1 + (Int.tmod t441 4))) - 1))] rfl (by (try simp only [List.map_toArray, List.map_cons, List.map_nil]); first | done | rfl | (simp only [List.length_drop, List.length_take]; rfl)) ?_; (with_reducible refine (laws_power.calls kj7 (wrap64 ((wrap64 (1 + (Int.tmod t441 4))) - 1)) t454 _ A23.out).mono ?_); rintro e w' ⟨rfl, ⟨nd, rfl⟩⟩; refine ⟨_, rfl, ?_⟩) | ((with_reducible refine gate_callee (f := 27) rfl ?_); refine goesL_ (some 50) rfl rfl Try.func27 (by kernel_rfl) rfl #[.int .i64 (wrap64 ((wrap64 (1 + (Int.tmod t441 4))) - 1))] rfl (by (try simp only [List.map_toArray, List.map_cons, List.map_nil]); first | done | rfl | (simp only [List.length_drop, List.length_take]; rfl)) ?_; (with_reducible refine (laws_power.calls kj7 (wrap64 ((wrap64 (1 + (Int.tmod t441 4))) - 1)) t455 _ A24.out).mono ?_); rintro e w' ⟨rfl, ⟨nd, rfl⟩⟩; refine ⟨_, rfl, ?_⟩; have hcz29_0 : w28.cell? ⟨gb449, 0, none⟩ = some (.int .i64 t443) := (blk_cell BK449.out 0).trans rfl; have hcz29_1 : w28.cell? ⟨gb449, 1, none⟩ = some (.int .i64 t444) := (blk_cell BK449.out 1).trans rfl; have hcz29_2 : w28.cell? ⟨gb449, 2, none⟩ = some (.slice Ao12 t445.length co12) := (blk_cell BK449.out 2).trans rfl; have hfz29_0 := blk_frozen BK449.out 0; have hfz29_1 := blk_frozen BK449.out 1; have hfz29_2 := blk_frozen BK449.out 2) | (go_at_call 44; (with_reducible refine (impl_SpreadOf.calls kj7 t443 t444 _ _ t445 1 t456 _ ?side1 ?side2 A26.out).mono ?_); (case side1 => repeat (first | exact (Kd.R_reads' HO_450002.out).2.2 | (with_reducible refine Kd.C_alloc ?_ _) | (with_reducible refine Kd.C_drewN ?_ _) | (with_reducible refine Kd.C_drew ?_))); (case side2 => exact (Kd.R_reads' HO_450002.out).2.1); rintro e w30 ⟨rfl, hb⟩; have n0_ := Aside0.mk (Kd.R_below (by (with_reducible repeat (first | apply Kd.R_alloc | apply Kd.R_drewN | apply Kd.R_drew)); exact HO_450002.out) hb); have n1_ := Aside0.mk (blk_below (g := gb449) (o := .cells #[.int .i64 t443, .int .i64 t444, .slice Ao12 t445.length co12] 26 (0, 0)) (by (with_reducible repeat (first | refine blk_drewN ?_ _ | refine blk_drew ?_ | refine blk_alloc ?_ _)); exact BK449.out) hb); have n2_ := Aside0.mk (below_step (by repeat (first | (with_reducible first | exact HB.out | apply below_alloc | apply pw_below_drewN | apply below_drew1 | refine below_set ?_ GE449.out) | exact HB.out)) hb); clear HO_450002; clear BK449; clear HB; have HO_450002 := n0_; have BK449 := n1_; have HB := n2_; clear n0_ n1_ n2_; (try clear hb); (try clear hb2); (try clear hk); (try clear hi)))
              go_ret
              exact ⟨by first | rfl | (simp [errW_none, errW_some] <;> rfl) | (simp [*, errW_none, errW_some] <;> rfl), by repeat (first | (with_reducible first | exact HB.out | apply below_alloc | apply pw_below_drewN | apply below_drew1 | refine below_set ?_ GE449.out) | exact HB.out)⟩
            · rw [if_neg c25] at H
              have c25b0 : (t453 == (wrap64 ((wrap64 (2 * t454)) * t455))) = false := beq_eq_false_iff_ne.mpr c25
              have c25b1 : (t453 != (wrap64 ((wrap64 (2 * t454)) * t455))) = true := bne_iff_ne.mpr c25
              exact absurd ((Option.some.inj H).trans hT.out) (by decide)

end Go.Proofs.Ytdlehfnlibddcaa.P
