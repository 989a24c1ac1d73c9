-- Written by tools/seatprint.py (over the kit's print, changed in memory). Not trusted: Lean checks it.
import Derived.Test.YtdlehfnlibddcaaP0
import Derived.Test.YtdlehfnlibddcaaFspecCellsBelow
import Derived.Test.YtdlehfnlibddcaaFspecl2Far
namespace Go.Proofs.Ytdlehfnlibddcaa.P
open Go.RowKit Go.Proofs.YtdlehfnlibddcaaW.PrintWords Go.Proofs.YtdlehfnlibddcaaW.PrintLast Go.Proofs.YtdlehfnlibddcaaW.PrintMore
attribute [local go_sem] max2_int min2_int max_two min_two max_three min_three max_four min_four   -- for this text's walks alone
set_option linter.unusedVariables false
set_option linter.unusedSimpArgs false

/-! ### spec_SpreadOf: function 59 -/
mutual
def spec_SpreadOf.l0 : Nat → Int → List Int → Int → Int → Int → Int → List Int → Option (Int)
  | 0, _, _, _, _, _, _, _ => none
  | k + 1, x6, x14, x15, x16, x776000, x776001, x776002 => if x16 < x15 then (if 0 ≤ x16 then (if x16 < (x14.length : Int) then (spec_SpreadOf.l1 k x6 x16 (rd x14 x16) 0 x14 x15 x16 x776000 x776001 x776002) else (none)) else (none)) else (some x6)
def spec_SpreadOf.l1 : Nat → Int → Int → Int → Int → List Int → Int → Int → Int → Int → List Int → Option (Int)
  | 0, _, _, _, _, _, _, _, _, _, _ => none
  | k + 1, x6, x7, x8, x9, x14, x15, x16, x776000, x776001, x776002 => if x9 < x7 then (if x8 = 1 then (if 0 ≤ x9 then (if x9 < (x776002.length : Int) then (if (rd x776002 x9) = 1 then (if x6 = 0 then ((spec_l2Far.f x776000 x776001 x776002 x7 x9).bind fun t778 => (spec_SpreadOf.l1 k t778 x7 x8 (wrap64 (x9 + 1)) x14 x15 x16 x776000 x776001 x776002)) else ((spec_l2Far.f x776000 x776001 x776002 x7 x9).bind fun t779 => (if t779 < x6 then ((spec_l2Far.f x776000 x776001 x776002 x7 x9).bind fun t780 => (spec_SpreadOf.l1 k t780 x7 x8 (wrap64 (x9 + 1)) x14 x15 x16 x776000 x776001 x776002)) else (spec_SpreadOf.l1 k x6 x7 x8 (wrap64 (x9 + 1)) x14 x15 x16 x776000 x776001 x776002)))) else (spec_SpreadOf.l1 k x6 x7 x8 (wrap64 (x9 + 1)) x14 x15 x16 x776000 x776001 x776002)) else (none)) else (none)) else (spec_SpreadOf.l1 k x6 x7 x8 (wrap64 (x9 + 1)) x14 x15 x16 x776000 x776001 x776002)) else (spec_SpreadOf.l0 k x6 x14 x15 (wrap64 (x16 + 1)) x776000 x776001 x776002)
end
def spec_SpreadOf.f (k : Nat) (a0_0 : Int) (a0_1 : Int) (l0_2 : List Int) (a1 : Int) : Option (Int) := (spec_CellsBelow.f k a0_0 a0_1 l0_2 a1).bind fun bt770 => (spec_SpreadOf.l0 k 0 bt770.2.2 (bt770.2.2.length : Int) 0 bt770.1 bt770.2.1 bt770.2.2)
theorem spec_SpreadOf.mono_l : ∀ k, (∀ y0 y1 y2 y3 y4 y5 y6, LeO (spec_SpreadOf.l0 k y0 y1 y2 y3 y4 y5 y6) (spec_SpreadOf.l0 (k + 1) y0 y1 y2 y3 y4 y5 y6)) ∧ (∀ y0 y1 y2 y3 y4 y5 y6 y7 y8 y9, LeO (spec_SpreadOf.l1 k y0 y1 y2 y3 y4 y5 y6 y7 y8 y9) (spec_SpreadOf.l1 (k + 1) y0 y1 y2 y3 y4 y5 y6 y7 y8 y9))
  | 0 => ⟨fun _ _ _ _ _ _ _ r h => by simp [spec_SpreadOf.l0] at h, fun _ _ _ _ _ _ _ _ _ _ r h => by simp [spec_SpreadOf.l1] at h⟩
  | k + 1 => by
    obtain ⟨ih0, ih1⟩ := spec_SpreadOf.mono_l k
    refine ⟨?_, ?_⟩
    · intro y0 y1 y2 y3 y4 y5 y6
      unfold spec_SpreadOf.l0
      repeat' first
      | (with_reducible exact ih0 _ _ _ _ _ _ _)
      | (with_reducible exact ih1 _ _ _ _ _ _ _ _ _ _)
      | (with_reducible exact spec_CellsBelow.mono _ _ _ _ _)
      | (with_reducible exact LeO.refl _)
      | (with_reducible exact LeO.none _)
      | (with_reducible refine LeO.ite ?_ ?_)
      | (with_reducible refine LeO.bind ?_ (fun _ => ?_))
      | exact ih0 _ _ _ _ _ _ _
      | exact ih1 _ _ _ _ _ _ _ _ _ _
      | exact spec_CellsBelow.mono _ _ _ _ _
      | exact LeO.none _
      | refine LeO.ite ?_ ?_
      | refine LeO.bind ?_ (fun _ => ?_)
    · intro y0 y1 y2 y3 y4 y5 y6 y7 y8 y9
      unfold spec_SpreadOf.l1
      repeat' first
      | (with_reducible exact ih0 _ _ _ _ _ _ _)
      | (with_reducible exact ih1 _ _ _ _ _ _ _ _ _ _)
      | (with_reducible exact spec_CellsBelow.mono _ _ _ _ _)
      | (with_reducible exact LeO.refl _)
      | (with_reducible exact LeO.none _)
      | (with_reducible refine LeO.ite ?_ ?_)
      | (with_reducible refine LeO.bind ?_ (fun _ => ?_))
      | exact ih0 _ _ _ _ _ _ _
      | exact ih1 _ _ _ _ _ _ _ _ _ _
      | exact spec_CellsBelow.mono _ _ _ _ _
      | exact LeO.none _
      | refine LeO.ite ?_ ?_
      | refine LeO.bind ?_ (fun _ => ?_)
theorem spec_SpreadOf.mono : ∀ a0 a1 a2 a3 k, LeO (spec_SpreadOf.f k a0 a1 a2 a3) (spec_SpreadOf.f (k + 1) a0 a1 a2 a3) := by
  intro a0 a1 a2 a3 k
  obtain ⟨ih0, ih1⟩ := spec_SpreadOf.mono_l k
  unfold spec_SpreadOf.f
  repeat' first
      | (with_reducible exact ih0 _ _ _ _ _ _ _)
      | (with_reducible exact ih1 _ _ _ _ _ _ _ _ _ _)
      | (with_reducible exact spec_CellsBelow.mono _ _ _ _ _)
      | (with_reducible exact LeO.refl _)
      | (with_reducible exact LeO.none _)
      | (with_reducible refine LeO.ite ?_ ?_)
      | (with_reducible refine LeO.bind ?_ (fun _ => ?_))
      | exact ih0 _ _ _ _ _ _ _
      | exact ih1 _ _ _ _ _ _ _ _ _ _
      | exact spec_CellsBelow.mono _ _ _ _ _
      | exact LeO.none _
      | refine LeO.ite ?_ ?_
      | refine LeO.bind ?_ (fun _ => ?_)
set_option maxHeartbeats 8000000 in
set_option maxRecDepth 100000 in
theorem spec_SpreadOf.calls (k : Nat) (a0_0 : Int) (a0_1 : Int) (A0_2 : Option Addr) (c0_2 : Nat) (l0_2 : List Int) (a1 : Int) (r : Int) (w : World) (hr0_2 : Kd.C (Kd.int .i64) w A0_2 l0_2.length l0_2) (hc0_2 : l0_2.length ≤ c0_2) (h : spec_SpreadOf.f k a0_0 a0_1 l0_2 a1 = some r) :
    Calls Try.prog 59 #[.agg #[.int .i64 a0_0, .int .i64 a0_1, .slice A0_2 l0_2.length c0_2], .int .i64 a1] w fun e w' => e = .returned (.int .i64 r) ∧ Below w.heap.size w w' := by
  have hu26 := Try.underlying26
  have hu41 := Try.underlying41
  have HR0_2 := Aside0.mk hr0_2
  have HC0_2 := Aside0.mk hc0_2
  clear hr0_2 hc0_2
  have HB := Aside0.mk (Below.refl w.heap.size w)
  have H : ((spec_CellsBelow.f k a0_0 a0_1 l0_2 a1).bind fun bt770 => (spec_SpreadOf.l0 k 0 bt770.2.2 (bt770.2.2.length : Int) 0 bt770.1 bt770.2.1 bt770.2.2)) = some r := h
  clear h
  replace H := Option.bind_eq_some_iff.mp H
  obtain ⟨⟨t770, t771, t772⟩, A30, H⟩ := H
  replace H : (spec_SpreadOf.l0 k 0 t772 (t772.length : Int) 0 t770 t771 t772) = some r := H
  have A3 := Aside0.mk A30
  clear A30
  have H' := Aside0.mk H
  clear H
  go_enter Try.func59, Try.ntmps59
  go_wp2_with (first | ((with_reducible refine gate_dst (N := 2) rfl ?_); refine box_event ?hg (N := 2) ?hd (cs := #[.int .i64 a0_0, .int .i64 a0_1, .slice A0_2 l0_2.length c0_2]) (t := 26) ?hr ?_; (case hd => rfl); (case hg => rfl); (case hr => first | (go_simp; done) | (go_simp; rfl)); intro gb769 hg w4 hbox hb; have n0_ := Aside0.mk (below_step (by repeat (first | (with_reducible first | exact HB.out | apply below_alloc | apply pw_below_drewN | apply below_drew1) | exact HB.out)) hb); have n1_ := Aside0.mk (hbox); have n2_ := Aside0.mk ((by rw [hg]; exact (below_size (by repeat (first | (with_reducible first | exact HB.out | apply below_alloc | apply pw_below_drewN | apply below_drew1) | exact HB.out))) : w.heap.size ≤ gb769)); have n3_ := Aside0.mk ((by rw [hg]; exact (below_size (by repeat (first | (with_reducible first | exact HB.out | apply below_alloc | apply pw_below_drewN | apply below_drew1) | exact HB.out))) : w.heap.size ≤ gb769)); clear HB; have HB := n0_; have BK769 := n1_; have GW769 := n2_; have GE769 := n3_; clear n0_ n1_ n2_ n3_; clear hb hbox hg; have hcz5_0 : w4.cell? ⟨gb769, 0, none⟩ = some (.int .i64 a0_0) := (blk_cell BK769.out 0).trans rfl; have hcz5_1 : w4.cell? ⟨gb769, 1, none⟩ = some (.int .i64 a0_1) := (blk_cell BK769.out 1).trans rfl; have hcz5_2 : w4.cell? ⟨gb769, 2, none⟩ = some (.slice A0_2 l0_2.length c0_2) := (blk_cell BK769.out 2).trans rfl; have hfz5_0 := blk_frozen BK769.out 0; have hfz5_1 := blk_frozen BK769.out 1; have hfz5_2 := blk_frozen BK769.out 2) | ((with_reducible refine gate_callee (f := 109) rfl ?_); refine goesL_ (some 12) rfl rfl Try.func109 (by kernel_rfl) rfl #[.agg #[.int .i64 a0_0, .int .i64 a0_1, .slice A0_2 l0_2.length c0_2], .int .i64 a1] rfl (by (try simp only [List.map_toArray, List.map_cons, List.map_nil]); first | done | rfl | (simp only [List.length_drop, List.length_take]; rfl)) ?_; (with_reducible refine (spec_CellsBelow.calls k a0_0 a0_1 _ _ l0_2 a1 t770 t771 t772 _ ?side1 ?side2 A3.out).mono ?_); (case side1 => repeat (first | exact (Kd.C_below HR0_2.out HB.out) | (with_reducible refine Kd.C_alloc ?_ _) | (with_reducible refine Kd.C_drewN ?_ _) | (with_reducible refine Kd.C_drew ?_))); (case side2 => exact HC0_2.out); rintro e w6 ⟨v773, rfl, ho0, hb⟩; refine ⟨_, rfl, ?_⟩; have n0_ := Aside0.mk (Kd.R_lower ho0 (below_size (by repeat (first | (with_reducible first | exact HB.out | apply below_alloc | apply pw_below_drewN | apply below_drew1 | refine below_set ?_ GE769.out) | exact HB.out)))); have n1_ := Aside0.mk (blk_below (g := gb769) (o := .cells #[.int .i64 a0_0, .int .i64 a0_1, .slice A0_2 l0_2.length c0_2] 26 (0, 0)) (by (with_reducible repeat (first | refine blk_drewN ?_ _ | refine blk_drew ?_ | refine blk_alloc ?_ _)); exact BK769.out) hb); have n2_ := Aside0.mk (below_step (by repeat (first | (with_reducible first | exact HB.out | apply below_alloc | apply pw_below_drewN | apply below_drew1 | refine below_set ?_ GE769.out) | exact HB.out)) hb); clear BK769; clear HB; have HO774 := n0_; have BK769 := n1_; have HB := n2_; clear n0_ n1_ n2_; (try clear hb); (try clear hb2); (try clear hk); (try clear hi); (try clear ho0)) | ((with_reducible refine gate_dst (N := 5) rfl ?_); refine box_event ?hg (N := 5) ?hd (cs := #[.int .i64 0, .int .i64 0, .slice none 0 0]) (t := 41) ?hr ?_; (case hd => rfl); (case hg => rfl); (case hr => first | (go_simp; done) | (go_simp; rfl)); intro gb775 hg w7 hbox hb; have n0_ := Aside0.mk (Kd.R_below (by (with_reducible repeat (first | apply Kd.R_alloc | apply Kd.R_drewN | apply Kd.R_drew)); exact HO774.out) hb); have n1_ := Aside0.mk (blk_below (g := gb769) (o := .cells #[.int .i64 a0_0, .int .i64 a0_1, .slice A0_2 l0_2.length c0_2] 26 (0, 0)) (by (with_reducible repeat (first | refine blk_drewN ?_ _ | refine blk_drew ?_ | refine blk_alloc ?_ _)); exact BK769.out) hb); have n2_ := Aside0.mk (below_step (by repeat (first | (with_reducible first | exact HB.out | apply below_alloc | apply pw_below_drewN | apply below_drew1 | refine below_set ?_ GE769.out) | exact HB.out)) hb); have n3_ := Aside0.mk (hbox); have n4_ := Aside0.mk ((by rw [hg]; exact (below_size (by repeat (first | (with_reducible first | exact HB.out | apply below_alloc | apply pw_below_drewN | apply below_drew1 | refine below_set ?_ GE769.out) | exact HB.out))) : w.heap.size ≤ gb775)); have n5_ := Aside0.mk ((by rw [hg]; exact (below_size (by repeat (first | (with_reducible first | exact HB.out | apply below_alloc | apply pw_below_drewN | apply below_drew1 | refine below_set ?_ GE769.out) | exact HB.out))) : w.heap.size ≤ gb775)); have n6_ := Aside0.mk ((by rw [hg]; exact Nat.ne_of_lt (blk_lt (g := gb769) (o := .cells #[.int .i64 a0_0, .int .i64 a0_1, .slice A0_2 l0_2.length c0_2] 26 (0, 0)) (by (with_reducible repeat (first | refine blk_drewN ?_ _ | refine blk_drew ?_ | refine blk_alloc ?_ _)); exact BK769.out)) : gb769 ≠ gb775)); have n7_ := Aside0.mk ((by rw [hg]; exact Nat.ne_of_gt (blk_lt (g := gb769) (o := .cells #[.int .i64 a0_0, .int .i64 a0_1, .slice A0_2 l0_2.length c0_2] 26 (0, 0)) (by (with_reducible repeat (first | refine blk_drewN ?_ _ | refine blk_drew ?_ | refine blk_alloc ?_ _)); exact BK769.out)) : gb775 ≠ gb769)); clear HO774; clear BK769; clear HB; have HO774 := n0_; have BK769 := n1_; have HB := n2_; have BK775 := n3_; have GW775 := n4_; have GE775 := n5_; have NB769_775 := n6_; have NB775_769 := n7_; clear n0_ n1_ n2_ n3_ n4_ n5_ n6_ n7_; clear hb hbox hg; have hnb8 := NB775_769.out; have hnc8 := NB769_775.out; have hcz9_0 : w7.cell? ⟨gb775, 0, none⟩ = some (.int .i64 0) := (blk_cell BK775.out 0).trans rfl; have hcz9_1 : w7.cell? ⟨gb775, 1, none⟩ = some (.int .i64 0) := (blk_cell BK775.out 1).trans rfl; have hcz9_2 : w7.cell? ⟨gb775, 2, none⟩ = some (.slice none 0 0) := (blk_cell BK775.out 2).trans rfl; have hfz9_0 := blk_frozen BK775.out 0; have hfz9_1 := blk_frozen BK775.out 1; have hfz9_2 := blk_frozen BK775.out 2; obtain ⟨Ao10, co10, eo10⟩ := Kd.R_slice HO774.out; subst eo10))
  go_loopg [6, 16] k (fun kq v6 v16 w' => ∃ (x6_1 : Int) (x16_1 : Int), v6 = .int .i64 x6_1 ∧ v16 = .int .i64 x16_1 ∧ Aside0 (spec_SpreadOf.l0 kq x6_1 t772 (t772.length : Int) x16_1 t770 t771 t772 = some r) ∧ Aside0 (kq ≤ k) ∧ Aside0 (Kd.R (Kd.int .i64) 3 w' w.heap.size (fun _ => True) (.slice Ao10 t772.length co10) t772) ∧ Aside0 (Kd.R (Kd.int .i64) 3 w' w.heap.size (fun _ => True) (.slice Ao10 t772.length co10) t772) ∧ Aside0 (w'.heap[gb769]? = some (.cells #[.int .i64 a0_0, .int .i64 a0_1, (.slice A0_2 l0_2.length c0_2)] 26 (0, 0))) ∧ Aside0 (w'.heap[gb775]? = some (.cells #[.int .i64 t770, .int .i64 t771, (.slice Ao10 t772.length co10)] 41 (0, 0))) ∧ Aside0 (Below w.heap.size w w'))
  case atStart => exact ⟨(0), (0), (by first | rfl | (simp; done) | (simp [*]; done)), (by first | rfl | (simp; done) | (simp [*]; done)), H', ⟨Nat.le_refl _⟩, ⟨by (with_reducible repeat (first | apply Kd.R_alloc | apply Kd.R_drewN | apply Kd.R_drew)); exact Kd.R_mono (Kd.R_far (p := ⟨gb775, 2, none⟩) (Kd.R_far (p := ⟨gb775, 1, none⟩) (Kd.R_far (p := ⟨gb775, 0, none⟩) (Kd.R_types HO774.out BK775.out (by decide)) (fun _ hk => hk.2) (.int .i64 t770)) (fun _ hk => hk.2) (.int .i64 t771)) (fun _ hk => hk.2) (.slice Ao10 t772.length co10)) (fun _ hk => trivial)⟩, ⟨by (with_reducible repeat (first | apply Kd.R_alloc | apply Kd.R_drewN | apply Kd.R_drew)); exact Kd.R_mono (Kd.R_far (p := ⟨gb775, 2, none⟩) (Kd.R_far (p := ⟨gb775, 1, none⟩) (Kd.R_far (p := ⟨gb775, 0, none⟩) (Kd.R_types HO774.out BK775.out (by decide)) (fun _ hk => hk.2) (.int .i64 t770)) (fun _ hk => hk.2) (.int .i64 t771)) (fun _ hk => hk.2) (.slice Ao10 t772.length co10)) (fun _ hk => trivial)⟩, ⟨by (with_reducible repeat (first | refine blk_drewN ?_ _ | refine blk_drew ?_ | refine blk_alloc ?_ _)); refine blk_far ?_ NB769_775.out _; (with_reducible repeat (first | refine blk_drewN ?_ _ | refine blk_drew ?_ | refine blk_alloc ?_ _)); refine blk_far ?_ NB769_775.out _; (with_reducible repeat (first | refine blk_drewN ?_ _ | refine blk_drew ?_ | refine blk_alloc ?_ _)); refine blk_far ?_ NB769_775.out _; (with_reducible repeat (first | refine blk_drewN ?_ _ | refine blk_drew ?_ | refine blk_alloc ?_ _)); exact BK769.out⟩, ⟨by (with_reducible repeat (first | refine blk_drewN ?_ _ | refine blk_drew ?_ | refine blk_alloc ?_ _)); refine blk_put (cs := #[.int .i64 t770, .int .i64 t771, .slice none 0 0]) ?_ 2 _ rfl; (with_reducible repeat (first | refine blk_drewN ?_ _ | refine blk_drew ?_ | refine blk_alloc ?_ _)); refine blk_put (cs := #[.int .i64 t770, .int .i64 0, .slice none 0 0]) ?_ 1 _ rfl; (with_reducible repeat (first | refine blk_drewN ?_ _ | refine blk_drew ?_ | refine blk_alloc ?_ _)); refine blk_put (cs := #[.int .i64 0, .int .i64 0, .slice none 0 0]) ?_ 0 _ rfl; (with_reducible repeat (first | refine blk_drewN ?_ _ | refine blk_drew ?_ | refine blk_alloc ?_ _)); exact BK775.out⟩, ⟨by repeat (first | (with_reducible first | exact HB.out | apply below_alloc | apply pw_below_drewN | apply below_drew1 | refine below_set ?_ GE769.out | refine below_set ?_ GE775.out) | exact HB.out)⟩⟩
  case round =>
    clear H'
    try clear c1
    try clear p2
    try clear c5
    try clear c8
    try clear c10
    try clear hcz5_0
    try clear hcz5_1
    try clear hcz5_2
    try clear hcz9_0
    try clear hcz9_1
    try clear hcz9_2
    try clear hfz5_0
    try clear hfz5_1
    try clear hfz5_2
    try clear hfz9_0
    try clear hfz9_1
    try clear hfz9_2
    obtain ⟨x6_1, x16_1, rfl, rfl, HA, HK1, HO_14, HO_776002, BK769, BK775, HB⟩ := hrel
    cases gk with
    | zero => exact absurd HA.out (by simp [spec_SpreadOf.l0])
    | succ k1 =>
      have H := HA.out
      clear HA
      simp only [spec_SpreadOf.l0] at H
      by_cases c11 : x16_1 < (t772.length : Int)
      · rw [if_pos c11] at H
        have c11b0 : decide (x16_1 < (t772.length : Int)) = true := decide_eq_true c11
        clear c11
        by_cases c12 : 0 ≤ x16_1
        · rw [if_pos c12] at H
          have c12b0 : decide (0 ≤ x16_1) = true := decide_eq_true c12
          clear c12
          by_cases c13 : x16_1 < (t772.length : Int)
          · rw [if_pos c13] at H
            have c13b0 : decide (x16_1 < (t772.length : Int)) = true := decide_eq_true c13
            clear c13
            have H' := Aside0.mk H
            clear H
            have p776 : 0 ≤ (x16_1 : Int) := of_decide_eq_true (by first | (with_reducible assumption) | assumption)
            have q776 : x16_1 < (t772.length : Int) := of_decide_eq_true (by first | (with_reducible assumption) | assumption)
            obtain ⟨ad776, e776, hx776_0⟩ := Kd.at_int (Kd.R_reads' HO_14.out).2.2 x16_1 p776 q776
            cases e776
            replace p776 := eq_true p776
            replace q776 := eq_true q776
            go_wp2
            go_loopg [6, 9] k1 (fun kq v6 v9 w' => ∃ (x6_2 : Int) (x9_2 : Int), v6 = .int .i64 x6_2 ∧ v9 = .int .i64 x9_2 ∧ Aside0 (spec_SpreadOf.l1 kq x6_2 x16_1 (rd t772 x16_1) x9_2 t772 (t772.length : Int) x16_1 t770 t771 t772 = some r) ∧ Aside0 (kq ≤ k1) ∧ Aside0 (Kd.R (Kd.int .i64) 3 w' w.heap.size (fun _ => True) (.slice (some ad776) t772.length co10) t772) ∧ Aside0 (Kd.R (Kd.int .i64) 3 w' w.heap.size (fun _ => True) (.slice (some ad776) t772.length co10) t772) ∧ Aside0 (w'.heap[gb769]? = some (.cells #[.int .i64 a0_0, .int .i64 a0_1, (.slice A0_2 l0_2.length c0_2)] 26 (0, 0))) ∧ Aside0 (w'.heap[gb775]? = some (.cells #[.int .i64 t770, .int .i64 t771, (.slice (some ad776) t772.length co10)] 41 (0, 0))) ∧ Aside0 (Below w.heap.size w w'))
            case atStart => exact ⟨(x6_1), (0), (by first | rfl | (simp; done) | (simp [*]; done)), (by first | rfl | (simp; done) | (simp [*]; done)), H', ⟨Nat.le_refl _⟩, ⟨by (with_reducible repeat (first | apply Kd.R_alloc | apply Kd.R_drewN | apply Kd.R_drew)); exact HO_14.out⟩, ⟨by (with_reducible repeat (first | apply Kd.R_alloc | apply Kd.R_drewN | apply Kd.R_drew)); exact HO_776002.out⟩, ⟨by (with_reducible repeat (first | refine blk_drewN ?_ _ | refine blk_drew ?_ | refine blk_alloc ?_ _)); exact BK769.out⟩, ⟨by (with_reducible repeat (first | refine blk_drewN ?_ _ | refine blk_drew ?_ | refine blk_alloc ?_ _)); exact BK775.out⟩, ⟨by repeat (first | (with_reducible first | exact HB.out | apply below_alloc | apply pw_below_drewN | apply below_drew1 | refine below_set ?_ GE769.out | refine below_set ?_ GE775.out) | exact HB.out)⟩⟩
            case round =>
              clear H'
              try clear c1
              try clear p2
              try clear c5
              try clear p7
              try clear q7
              try clear hx7
              try clear c8
              try clear c10
              try clear c11
              try clear c11b0
              try clear c12
              try clear c12b0
              try clear c13
              try clear c13b0
              try clear hcz5_0
              try clear hcz5_1
              try clear hcz5_2
              try clear hcz9_0
              try clear hcz9_1
              try clear hcz9_2
              try clear hfz5_0
              try clear hfz5_1
              try clear hfz5_2
              try clear hfz9_0
              try clear hfz9_1
              try clear hfz9_2
              try clear hx776_0
              try clear p2
              try clear p776
              try clear q776
              obtain ⟨x6_2, x9_2, rfl, rfl, HA, HK2, HO_14, HO_776002, BK769, BK775, HB⟩ := hrel
              cases gk with
              | zero => exact absurd HA.out (by simp [spec_SpreadOf.l1])
              | succ k2 =>
                have H := HA.out
                clear HA
                simp only [spec_SpreadOf.l1] at H
                by_cases c14 : x9_2 < x16_1
                · rw [if_pos c14] at H
                  have c14b0 : decide (x9_2 < x16_1) = true := decide_eq_true c14
                  clear c14
                  by_cases c15 : (rd t772 x16_1) = 1
                  · rw [if_pos c15] at H
                    have c15b0 : ((rd t772 x16_1) == 1) = true := beq_iff_eq.mpr c15
                    have c15b1 : ((rd t772 x16_1) != 1) = false := bne_eq_false_iff_eq.mpr c15
                    clear c15
                    by_cases c16 : 0 ≤ x9_2
                    · rw [if_pos c16] at H
                      have c16b0 : decide (0 ≤ x9_2) = true := decide_eq_true c16
                      clear c16
                      by_cases c17 : x9_2 < (t772.length : Int)
                      · rw [if_pos c17] at H
                        have c17b0 : decide (x9_2 < (t772.length : Int)) = true := decide_eq_true c17
                        clear c17
                        by_cases c18 : (rd t772 x9_2) = 1
                        · rw [if_pos c18] at H
                          have c18b0 : ((rd t772 x9_2) == 1) = true := beq_iff_eq.mpr c18
                          have c18b1 : ((rd t772 x9_2) != 1) = false := bne_eq_false_iff_eq.mpr c18
                          clear c18
                          by_cases c19 : x6_2 = 0
                          · rw [if_pos c19] at H
                            have c19b0 : (x6_2 == 0) = true := beq_iff_eq.mpr c19
                            have c19b1 : (x6_2 != 0) = false := bne_eq_false_iff_eq.mpr c19
                            clear c19
                            replace H := Option.bind_eq_some_iff.mp H
                            obtain ⟨t778, A200, H⟩ := H
                            replace H : (spec_SpreadOf.l1 k2 t778 x16_1 (rd t772 x16_1) (wrap64 (x9_2 + 1)) t772 (t772.length : Int) x16_1 t770 t771 t772) = some r := H
                            have A20 := Aside0.mk A200
                            clear A200
                            have H' := Aside0.mk H
                            clear H
                            have hnb21 := NB775_769.out
                            have hnc21 := NB769_775.out
                            have hcz22_0 : wr.cell? ⟨gb775, 0, none⟩ = some (.int .i64 t770) := (blk_cell BK775.out 0).trans rfl
                            have hcz22_1 : wr.cell? ⟨gb775, 1, none⟩ = some (.int .i64 t771) := (blk_cell BK775.out 1).trans rfl
                            have hcz22_2 : wr.cell? ⟨gb775, 2, none⟩ = some (.slice (some ad776) t772.length co10) := (blk_cell BK775.out 2).trans rfl
                            have hfz22_0 := blk_frozen BK775.out 0
                            have hfz22_1 := blk_frozen BK775.out 1
                            have hfz22_2 := blk_frozen BK775.out 2
                            have p777 : 0 ≤ (x9_2 : Int) := of_decide_eq_true (by first | (with_reducible assumption) | assumption)
                            have q777 : x9_2 < (t772.length : Int) := of_decide_eq_true (by first | (with_reducible assumption) | assumption)
                            obtain ⟨ad777, e777, hx777_0⟩ := Kd.at_int (Kd.R_reads' HO_776002.out).2.2 x9_2 p777 q777
                            obtain rfl : ad776 = ad777 := (by injection e777)
                            replace p777 := eq_true p777
                            replace q777 := eq_true q777
                            go_wp2_with (first | ((with_reducible refine gate_callee (f := 110) rfl ?_); refine goesL_ (some 51) rfl rfl Try.func110 (by kernel_rfl) rfl #[.agg #[.int .i64 t770, .int .i64 t771, .slice (some ad776) t772.length co10], .int .i64 x16_1, .int .i64 x9_2] rfl (by (try simp only [List.map_toArray, List.map_cons, List.map_nil]); first | done | rfl | (simp only [List.length_drop, List.length_take]; rfl)) ?_; (with_reducible refine (spec_l2Far.calls t770 t771 _ _ t772 x16_1 x9_2 t778 _ ?side1 ?side2 A20.out).mono ?_); (case side1 => repeat (first | exact (Kd.R_reads' HO_776002.out).2.2 | (with_reducible refine Kd.C_alloc ?_ _) | (with_reducible refine Kd.C_drewN ?_ _) | (with_reducible refine Kd.C_drew ?_))); (case side2 => exact (Kd.R_reads' HO_776002.out).2.1); rintro e w23 ⟨rfl, hb⟩; refine ⟨_, rfl, ?_⟩; have n0_ := Aside0.mk (Kd.R_below (by (with_reducible repeat (first | apply Kd.R_alloc | apply Kd.R_drewN | apply Kd.R_drew)); exact HO_14.out) hb); have n1_ := Aside0.mk (Kd.R_below (by (with_reducible repeat (first | apply Kd.R_alloc | apply Kd.R_drewN | apply Kd.R_drew)); exact HO_776002.out) hb); have n2_ := Aside0.mk (blk_below (g := gb769) (o := .cells #[.int .i64 a0_0, .int .i64 a0_1, .slice A0_2 l0_2.length c0_2] 26 (0, 0)) (by (with_reducible repeat (first | refine blk_drewN ?_ _ | refine blk_drew ?_ | refine blk_alloc ?_ _)); exact BK769.out) hb); have n3_ := Aside0.mk (blk_below (g := gb775) (o := .cells #[.int .i64 t770, .int .i64 t771, .slice (some ad776) t772.length co10] 41 (0, 0)) (by (with_reducible repeat (first | refine blk_drewN ?_ _ | refine blk_drew ?_ | refine blk_alloc ?_ _)); exact BK775.out) hb); have n4_ := Aside0.mk (below_step (by repeat (first | (with_reducible first | exact HB.out | apply below_alloc | apply pw_below_drewN | apply below_drew1 | refine below_set ?_ GE769.out | refine below_set ?_ GE775.out) | exact HB.out)) hb); clear HO_14; clear HO_776002; clear BK769; clear BK775; clear HB; have HO_14 := n0_; have HO_776002 := n1_; have BK769 := n2_; have BK775 := n3_; have HB := n4_; clear n0_ n1_ n2_ n3_ n4_; (try clear hb); (try clear hb2); (try clear hk); (try clear hi)))
                            go_roundg k2
                            case measure => have := HK1.out; have := HK2.out; omega
                            case rel => exact ⟨(t778), (wrap64 (x9_2 + 1)), (by first | rfl | (simp; done) | (simp [*]; done)), (by first | rfl | (simp; done) | (simp [*]; done)), H', ⟨by have := HK1.out; have := HK2.out; omega⟩, ⟨by (with_reducible repeat (first | apply Kd.R_alloc | apply Kd.R_drewN | apply Kd.R_drew)); exact HO_14.out⟩, ⟨by (with_reducible repeat (first | apply Kd.R_alloc | apply Kd.R_drewN | apply Kd.R_drew)); exact HO_776002.out⟩, ⟨by (with_reducible repeat (first | refine blk_drewN ?_ _ | refine blk_drew ?_ | refine blk_alloc ?_ _)); exact BK769.out⟩, ⟨by (with_reducible repeat (first | refine blk_drewN ?_ _ | refine blk_drew ?_ | refine blk_alloc ?_ _)); exact BK775.out⟩, ⟨by repeat (first | (with_reducible first | exact HB.out | apply below_alloc | apply pw_below_drewN | apply below_drew1 | refine below_set ?_ GE769.out | refine below_set ?_ GE775.out) | exact HB.out)⟩⟩
                          · rw [if_neg c19] at H
                            have c19b0 : (x6_2 == 0) = false := beq_eq_false_iff_ne.mpr c19
                            have c19b1 : (x6_2 != 0) = true := bne_iff_ne.mpr c19
                            replace H := Option.bind_eq_some_iff.mp H
                            obtain ⟨t779, A240, H⟩ := H
                            replace H : (if t779 < x6_2 then ((spec_l2Far.f t770 t771 t772 x16_1 x9_2).bind fun t780 => (spec_SpreadOf.l1 k2 t780 x16_1 (rd t772 x16_1) (wrap64 (x9_2 + 1)) t772 (t772.length : Int) x16_1 t770 t771 t772)) else (spec_SpreadOf.l1 k2 x6_2 x16_1 (rd t772 x16_1) (wrap64 (x9_2 + 1)) t772 (t772.length : Int) x16_1 t770 t771 t772)) = some r := H
                            have A24 := Aside0.mk A240
                            clear A240
                            by_cases c25 : t779 < x6_2
                            · rw [if_pos c25] at H
                              have c25b0 : decide (t779 < x6_2) = true := decide_eq_true c25
                              clear c25
                              replace H := Option.bind_eq_some_iff.mp H
                              obtain ⟨t780, A260, H⟩ := H
                              replace H : (spec_SpreadOf.l1 k2 t780 x16_1 (rd t772 x16_1) (wrap64 (x9_2 + 1)) t772 (t772.length : Int) x16_1 t770 t771 t772) = some r := H
                              have A26 := Aside0.mk A260
                              clear A260
                              have H' := Aside0.mk H
                              clear H
                              have hnb27 := NB775_769.out
                              have hnc27 := NB769_775.out
                              have hcz28_0 : wr.cell? ⟨gb775, 0, none⟩ = some (.int .i64 t770) := (blk_cell BK775.out 0).trans rfl
                              have hcz28_1 : wr.cell? ⟨gb775, 1, none⟩ = some (.int .i64 t771) := (blk_cell BK775.out 1).trans rfl
                              have hcz28_2 : wr.cell? ⟨gb775, 2, none⟩ = some (.slice (some ad776) t772.length co10) := (blk_cell BK775.out 2).trans rfl
                              have hfz28_0 := blk_frozen BK775.out 0
                              have hfz28_1 := blk_frozen BK775.out 1
                              have hfz28_2 := blk_frozen BK775.out 2
                              have p777 : 0 ≤ (x9_2 : Int) := of_decide_eq_true (by first | (with_reducible assumption) | assumption)
                              have q777 : x9_2 < (t772.length : Int) := of_decide_eq_true (by first | (with_reducible assumption) | assumption)
                              obtain ⟨ad777, e777, hx777_0⟩ := Kd.at_int (Kd.R_reads' HO_776002.out).2.2 x9_2 p777 q777
                              obtain rfl : ad776 = ad777 := (by injection e777)
                              replace p777 := eq_true p777
                              replace q777 := eq_true q777
                              go_wp2_with (first | (go_at_call 110; (with_reducible refine (spec_l2Far.calls t770 t771 _ _ t772 x16_1 x9_2 t779 _ ?side1 ?side2 A24.out).mono ?_); (case side1 => repeat (first | exact (Kd.R_reads' HO_776002.out).2.2 | (with_reducible refine Kd.C_alloc ?_ _) | (with_reducible refine Kd.C_drewN ?_ _) | (with_reducible refine Kd.C_drew ?_))); (case side2 => exact (Kd.R_reads' HO_776002.out).2.1); rintro e w29 ⟨rfl, hb⟩; have n0_ := Aside0.mk (Kd.R_below (by (with_reducible repeat (first | apply Kd.R_alloc | apply Kd.R_drewN | apply Kd.R_drew)); exact HO_14.out) hb); have n1_ := Aside0.mk (Kd.R_below (by (with_reducible repeat (first | apply Kd.R_alloc | apply Kd.R_drewN | apply Kd.R_drew)); exact HO_776002.out) hb); have n2_ := Aside0.mk (blk_below (g := gb769) (o := .cells #[.int .i64 a0_0, .int .i64 a0_1, .slice A0_2 l0_2.length c0_2] 26 (0, 0)) (by (with_reducible repeat (first | refine blk_drewN ?_ _ | refine blk_drew ?_ | refine blk_alloc ?_ _)); exact BK769.out) hb); have n3_ := Aside0.mk (blk_below (g := gb775) (o := .cells #[.int .i64 t770, .int .i64 t771, .slice (some ad776) t772.length co10] 41 (0, 0)) (by (with_reducible repeat (first | refine blk_drewN ?_ _ | refine blk_drew ?_ | refine blk_alloc ?_ _)); exact BK775.out) hb); have n4_ := Aside0.mk (below_step (by repeat (first | (with_reducible first | exact HB.out | apply below_alloc | apply pw_below_drewN | apply below_drew1 | refine below_set ?_ GE769.out | refine below_set ?_ GE775.out) | exact HB.out)) hb); clear HO_14; clear HO_776002; clear BK769; clear BK775; clear HB; have HO_14 := n0_; have HO_776002 := n1_; have BK769 := n2_; have BK775 := n3_; have HB := n4_; clear n0_ n1_ n2_ n3_ n4_; (try clear hb); (try clear hb2); (try clear hk); (try clear hi); have hcz30_0 : w29.cell? ⟨gb775, 0, none⟩ = some (.int .i64 t770) := (blk_cell BK775.out 0).trans rfl; have hcz30_1 : w29.cell? ⟨gb775, 1, none⟩ = some (.int .i64 t771) := (blk_cell BK775.out 1).trans rfl; have hcz30_2 : w29.cell? ⟨gb775, 2, none⟩ = some (.slice (some ad776) t772.length co10) := (blk_cell BK775.out 2).trans rfl; have hfz30_0 := blk_frozen BK775.out 0; have hfz30_1 := blk_frozen BK775.out 1; have hfz30_2 := blk_frozen BK775.out 2) | ((with_reducible refine gate_callee (f := 110) rfl ?_); refine goesL_ (some 51) rfl rfl Try.func110 (by kernel_rfl) rfl #[.agg #[.int .i64 t770, .int .i64 t771, .slice (some ad776) t772.length co10], .int .i64 x16_1, .int .i64 x9_2] rfl (by (try simp only [List.map_toArray, List.map_cons, List.map_nil]); first | done | rfl | (simp only [List.length_drop, List.length_take]; rfl)) ?_; (with_reducible refine (spec_l2Far.calls t770 t771 _ _ t772 x16_1 x9_2 t780 _ ?side1 ?side2 A26.out).mono ?_); (case side1 => repeat (first | exact (Kd.R_reads' HO_776002.out).2.2 | (with_reducible refine Kd.C_alloc ?_ _) | (with_reducible refine Kd.C_drewN ?_ _) | (with_reducible refine Kd.C_drew ?_))); (case side2 => exact (Kd.R_reads' HO_776002.out).2.1); rintro e w31 ⟨rfl, hb⟩; refine ⟨_, rfl, ?_⟩; have n0_ := Aside0.mk (Kd.R_below (by (with_reducible repeat (first | apply Kd.R_alloc | apply Kd.R_drewN | apply Kd.R_drew)); exact HO_14.out) hb); have n1_ := Aside0.mk (Kd.R_below (by (with_reducible repeat (first | apply Kd.R_alloc | apply Kd.R_drewN | apply Kd.R_drew)); exact HO_776002.out) hb); have n2_ := Aside0.mk (blk_below (g := gb769) (o := .cells #[.int .i64 a0_0, .int .i64 a0_1, .slice A0_2 l0_2.length c0_2] 26 (0, 0)) (by (with_reducible repeat (first | refine blk_drewN ?_ _ | refine blk_drew ?_ | refine blk_alloc ?_ _)); exact BK769.out) hb); have n3_ := Aside0.mk (blk_below (g := gb775) (o := .cells #[.int .i64 t770, .int .i64 t771, .slice (some ad776) t772.length co10] 41 (0, 0)) (by (with_reducible repeat (first | refine blk_drewN ?_ _ | refine blk_drew ?_ | refine blk_alloc ?_ _)); exact BK775.out) hb); have n4_ := Aside0.mk (below_step (by repeat (first | (with_reducible first | exact HB.out | apply below_alloc | apply pw_below_drewN | apply below_drew1 | refine below_set ?_ GE769.out | refine below_set ?_ GE775.out) | exact HB.out)) hb); clear HO_14; clear HO_776002; clear BK769; clear BK775; clear HB; have HO_14 := n0_; have HO_776002 := n1_; have BK769 := n2_; have BK775 := n3_; have HB := n4_; clear n0_ n1_ n2_ n3_ n4_; (try clear hb); (try clear hb2); (try clear hk); (try clear hi)))
                              go_roundg k2
                              case measure => have := HK1.out; have := HK2.out; omega
                              case rel => exact ⟨(t780), (wrap64 (x9_2 + 1)), (by first | rfl | (simp; done) | (simp [*]; done)), (by first | rfl | (simp; done) | (simp [*]; done)), H', ⟨by have := HK1.out; have := HK2.out; omega⟩, ⟨by (with_reducible repeat (first | apply Kd.R_alloc | apply Kd.R_drewN | apply Kd.R_drew)); exact HO_14.out⟩, ⟨by (with_reducible repeat (first | apply Kd.R_alloc | apply Kd.R_drewN | apply Kd.R_drew)); exact HO_776002.out⟩, ⟨by (with_reducible repeat (first | refine blk_drewN ?_ _ | refine blk_drew ?_ | refine blk_alloc ?_ _)); exact BK769.out⟩, ⟨by (with_reducible repeat (first | refine blk_drewN ?_ _ | refine blk_drew ?_ | refine blk_alloc ?_ _)); exact BK775.out⟩, ⟨by repeat (first | (with_reducible first | exact HB.out | apply below_alloc | apply pw_below_drewN | apply below_drew1 | refine below_set ?_ GE769.out | refine below_set ?_ GE775.out) | exact HB.out)⟩⟩
                            · rw [if_neg c25] at H
                              have c25b0 : decide (t779 < x6_2) = false := decide_eq_false c25
                              clear c25
                              have H' := Aside0.mk H
                              clear H
                              have hnb32 := NB775_769.out
                              have hnc32 := NB769_775.out
                              have hcz33_0 : wr.cell? ⟨gb775, 0, none⟩ = some (.int .i64 t770) := (blk_cell BK775.out 0).trans rfl
                              have hcz33_1 : wr.cell? ⟨gb775, 1, none⟩ = some (.int .i64 t771) := (blk_cell BK775.out 1).trans rfl
                              have hcz33_2 : wr.cell? ⟨gb775, 2, none⟩ = some (.slice (some ad776) t772.length co10) := (blk_cell BK775.out 2).trans rfl
                              have hfz33_0 := blk_frozen BK775.out 0
                              have hfz33_1 := blk_frozen BK775.out 1
                              have hfz33_2 := blk_frozen BK775.out 2
                              have p777 : 0 ≤ (x9_2 : Int) := of_decide_eq_true (by first | (with_reducible assumption) | assumption)
                              have q777 : x9_2 < (t772.length : Int) := of_decide_eq_true (by first | (with_reducible assumption) | assumption)
                              obtain ⟨ad777, e777, hx777_0⟩ := Kd.at_int (Kd.R_reads' HO_776002.out).2.2 x9_2 p777 q777
                              obtain rfl : ad776 = ad777 := (by injection e777)
                              replace p777 := eq_true p777
                              replace q777 := eq_true q777
                              go_wp2_with (first | (go_at_call 110; (with_reducible refine (spec_l2Far.calls t770 t771 _ _ t772 x16_1 x9_2 t779 _ ?side1 ?side2 A24.out).mono ?_); (case side1 => repeat (first | exact (Kd.R_reads' HO_776002.out).2.2 | (with_reducible refine Kd.C_alloc ?_ _) | (with_reducible refine Kd.C_drewN ?_ _) | (with_reducible refine Kd.C_drew ?_))); (case side2 => exact (Kd.R_reads' HO_776002.out).2.1); rintro e w34 ⟨rfl, hb⟩; have n0_ := Aside0.mk (Kd.R_below (by (with_reducible repeat (first | apply Kd.R_alloc | apply Kd.R_drewN | apply Kd.R_drew)); exact HO_14.out) hb); have n1_ := Aside0.mk (Kd.R_below (by (with_reducible repeat (first | apply Kd.R_alloc | apply Kd.R_drewN | apply Kd.R_drew)); exact HO_776002.out) hb); have n2_ := Aside0.mk (blk_below (g := gb769) (o := .cells #[.int .i64 a0_0, .int .i64 a0_1, .slice A0_2 l0_2.length c0_2] 26 (0, 0)) (by (with_reducible repeat (first | refine blk_drewN ?_ _ | refine blk_drew ?_ | refine blk_alloc ?_ _)); exact BK769.out) hb); have n3_ := Aside0.mk (blk_below (g := gb775) (o := .cells #[.int .i64 t770, .int .i64 t771, .slice (some ad776) t772.length co10] 41 (0, 0)) (by (with_reducible repeat (first | refine blk_drewN ?_ _ | refine blk_drew ?_ | refine blk_alloc ?_ _)); exact BK775.out) hb); have n4_ := Aside0.mk (below_step (by repeat (first | (with_reducible first | exact HB.out | apply below_alloc | apply pw_below_drewN | apply below_drew1 | refine below_set ?_ GE769.out | refine below_set ?_ GE775.out) | exact HB.out)) hb); clear HO_14; clear HO_776002; clear BK769; clear BK775; clear HB; have HO_14 := n0_; have HO_776002 := n1_; have BK769 := n2_; have BK775 := n3_; have HB := n4_; clear n0_ n1_ n2_ n3_ n4_; (try clear hb); (try clear hb2); (try clear hk); (try clear hi)))
                              go_roundg k2
                              case measure => have := HK1.out; have := HK2.out; omega
                              case rel => exact ⟨(x6_2), (wrap64 (x9_2 + 1)), (by first | rfl | (simp; done) | (simp [*]; done)), (by first | rfl | (simp; done) | (simp [*]; done)), H', ⟨by have := HK1.out; have := HK2.out; omega⟩, ⟨by (with_reducible repeat (first | apply Kd.R_alloc | apply Kd.R_drewN | apply Kd.R_drew)); exact HO_14.out⟩, ⟨by (with_reducible repeat (first | apply Kd.R_alloc | apply Kd.R_drewN | apply Kd.R_drew)); exact HO_776002.out⟩, ⟨by (with_reducible repeat (first | refine blk_drewN ?_ _ | refine blk_drew ?_ | refine blk_alloc ?_ _)); exact BK769.out⟩, ⟨by (with_reducible repeat (first | refine blk_drewN ?_ _ | refine blk_drew ?_ | refine blk_alloc ?_ _)); exact BK775.out⟩, ⟨by repeat (first | (with_reducible first | exact HB.out | apply below_alloc | apply pw_below_drewN | apply below_drew1 | refine below_set ?_ GE769.out | refine below_set ?_ GE775.out) | exact HB.out)⟩⟩
                        · rw [if_neg c18] at H
                          have c18b0 : ((rd t772 x9_2) == 1) = false := beq_eq_false_iff_ne.mpr c18
                          have c18b1 : ((rd t772 x9_2) != 1) = true := bne_iff_ne.mpr c18
                          have H' := Aside0.mk H
                          clear H
                          have hnb35 := NB775_769.out
                          have hnc35 := NB769_775.out
                          have hcz36_0 : wr.cell? ⟨gb775, 0, none⟩ = some (.int .i64 t770) := (blk_cell BK775.out 0).trans rfl
                          have hcz36_1 : wr.cell? ⟨gb775, 1, none⟩ = some (.int .i64 t771) := (blk_cell BK775.out 1).trans rfl
                          have hcz36_2 : wr.cell? ⟨gb775, 2, none⟩ = some (.slice (some ad776) t772.length co10) := (blk_cell BK775.out 2).trans rfl
                          have hfz36_0 := blk_frozen BK775.out 0
                          have hfz36_1 := blk_frozen BK775.out 1
                          have hfz36_2 := blk_frozen BK775.out 2
                          have p777 : 0 ≤ (x9_2 : Int) := of_decide_eq_true (by first | (with_reducible assumption) | assumption)
                          have q777 : x9_2 < (t772.length : Int) := of_decide_eq_true (by first | (with_reducible assumption) | assumption)
                          obtain ⟨ad777, e777, hx777_0⟩ := Kd.at_int (Kd.R_reads' HO_776002.out).2.2 x9_2 p777 q777
                          obtain rfl : ad776 = ad777 := (by injection e777)
                          replace p777 := eq_true p777
                          replace q777 := eq_true q777
                          go_wp2
                          go_roundg k2
                          case measure => have := HK1.out; have := HK2.out; omega
                          case rel => exact ⟨(x6_2), (wrap64 (x9_2 + 1)), (by first | rfl | (simp; done) | (simp [*]; done)), (by first | rfl | (simp; done) | (simp [*]; done)), H', ⟨by have := HK1.out; have := HK2.out; omega⟩, ⟨by (with_reducible repeat (first | apply Kd.R_alloc | apply Kd.R_drewN | apply Kd.R_drew)); exact HO_14.out⟩, ⟨by (with_reducible repeat (first | apply Kd.R_alloc | apply Kd.R_drewN | apply Kd.R_drew)); exact HO_776002.out⟩, ⟨by (with_reducible repeat (first | refine blk_drewN ?_ _ | refine blk_drew ?_ | refine blk_alloc ?_ _)); exact BK769.out⟩, ⟨by (with_reducible repeat (first | refine blk_drewN ?_ _ | refine blk_drew ?_ | refine blk_alloc ?_ _)); exact BK775.out⟩, ⟨by repeat (first | (with_reducible first | exact HB.out | apply below_alloc | apply pw_below_drewN | apply below_drew1 | refine below_set ?_ GE769.out | refine below_set ?_ GE775.out) | exact HB.out)⟩⟩
                      · rw [if_neg c17] at H
                        exact absurd H (by simp)
                    · rw [if_neg c16] at H
                      exact absurd H (by simp)
                  · rw [if_neg c15] at H
                    have c15b0 : ((rd t772 x16_1) == 1) = false := beq_eq_false_iff_ne.mpr c15
                    have c15b1 : ((rd t772 x16_1) != 1) = true := bne_iff_ne.mpr c15
                    have H' := Aside0.mk H
                    clear H
                    go_wp2
                    go_roundg k2
                    case measure => have := HK1.out; have := HK2.out; omega
                    case rel => exact ⟨(x6_2), (wrap64 (x9_2 + 1)), (by first | rfl | (simp; done) | (simp [*]; done)), (by first | rfl | (simp; done) | (simp [*]; done)), H', ⟨by have := HK1.out; have := HK2.out; omega⟩, ⟨by (with_reducible repeat (first | apply Kd.R_alloc | apply Kd.R_drewN | apply Kd.R_drew)); exact HO_14.out⟩, ⟨by (with_reducible repeat (first | apply Kd.R_alloc | apply Kd.R_drewN | apply Kd.R_drew)); exact HO_776002.out⟩, ⟨by (with_reducible repeat (first | refine blk_drewN ?_ _ | refine blk_drew ?_ | refine blk_alloc ?_ _)); exact BK769.out⟩, ⟨by (with_reducible repeat (first | refine blk_drewN ?_ _ | refine blk_drew ?_ | refine blk_alloc ?_ _)); exact BK775.out⟩, ⟨by repeat (first | (with_reducible first | exact HB.out | apply below_alloc | apply pw_below_drewN | apply below_drew1 | refine below_set ?_ GE769.out | refine below_set ?_ GE775.out) | exact HB.out)⟩⟩
                · rw [if_neg c14] at H
                  have c14b0 : decide (x9_2 < x16_1) = false := decide_eq_false c14
                  clear c14
                  have H' := Aside0.mk H
                  clear H
                  go_wp2
                  go_roundg k2
                  case measure => have := HK1.out; have := HK2.out; omega
                  case rel => exact ⟨(x6_2), (wrap64 (x16_1 + 1)), (by first | rfl | (simp; done) | (simp [*]; done)), (by first | rfl | (simp; done) | (simp [*]; done)), H', ⟨by have := HK1.out; have := HK2.out; omega⟩, ⟨by (with_reducible repeat (first | apply Kd.R_alloc | apply Kd.R_drewN | apply Kd.R_drew)); exact HO_14.out⟩, ⟨by (with_reducible repeat (first | apply Kd.R_alloc | apply Kd.R_drewN | apply Kd.R_drew)); exact HO_776002.out⟩, ⟨by (with_reducible repeat (first | refine blk_drewN ?_ _ | refine blk_drew ?_ | refine blk_alloc ?_ _)); exact BK769.out⟩, ⟨by (with_reducible repeat (first | refine blk_drewN ?_ _ | refine blk_drew ?_ | refine blk_alloc ?_ _)); exact BK775.out⟩, ⟨by repeat (first | (with_reducible first | exact HB.out | apply below_alloc | apply pw_below_drewN | apply below_drew1 | refine below_set ?_ GE769.out | refine below_set ?_ GE775.out) | exact HB.out)⟩⟩
          · rw [if_neg c13] at H
            exact absurd H (by simp)
        · rw [if_neg c12] at H
          exact absurd H (by simp)
      · rw [if_neg c11] at H
        have c11b0 : decide (x16_1 < (t772.length : Int)) = false := decide_eq_false c11
        clear c11
        obtain rfl := Option.some.inj H
        go_wp2
        go_ret
        exact ⟨by first | rfl | (simp [errW_none, errW_some] <;> rfl) | (simp [*, errW_none, errW_some] <;> rfl), by repeat (first | (with_reducible first | exact HB.out | apply below_alloc | apply pw_below_drewN | apply below_drew1 | refine below_set ?_ GE769.out | refine below_set ?_ GE775.out) | exact HB.out)⟩

end Go.Proofs.Ytdlehfnlibddcaa.P
