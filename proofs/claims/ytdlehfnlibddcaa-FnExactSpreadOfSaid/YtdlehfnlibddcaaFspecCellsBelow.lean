-- Written by tools/seatprint.py (over the kit's print, changed in memory). Not trusted: Lean checks it.
import Derived.Test.YtdlehfnlibddcaaP0
import Derived.Test.YtdlehfnlibddcaaFspecl1In
import Derived.Test.YtdlehfnlibddcaaFspecIsMatrix
import Derived.Test.YtdlehfnlibddcaaFspecl1Size
import Derived.Test.YtdlehfnlibddcaaFspecl1Empty
namespace Go.Proofs.Ytdlehfnlibddcaa.P
open Go.RowKit Go.Proofs.YtdlehfnlibddcaaW.PrintWords Go.Proofs.YtdlehfnlibddcaaW.PrintLast Go.Proofs.YtdlehfnlibddcaaW.PrintMore
attribute [local go_sem] max2_int min2_int max_two min_two max_three min_three max_four min_four   -- for this text's walks alone
set_option linter.unusedVariables false
set_option linter.unusedSimpArgs false

/-! ### spec_CellsBelow: function 109 -/
mutual
def spec_CellsBelow.j0 : Nat → Int → Bool → Int → Int → List Int → Option (Int × Int × List Int)
  | 0, _, _, _, _, _ => none
  | k + 1, x1, x26, x752000, x752001, x752002 => if x26 = true then (some (0, 0, ([] : List Int))) else ((spec_l1Empty.f x752000 x752001).bind fun bt756 => (spec_CellsBelow.l0 k x1 x752002 (x752002.length : Int) 0 bt756.1 bt756.2.1 bt756.2.2))
def spec_CellsBelow.l0 : Nat → Int → List Int → Int → Int → Int → Int → List Int → Option (Int × Int × List Int)
  | 0, _, _, _, _, _, _, _ => none
  | k + 1, x1, x34, x35, x36, x762000, x762001, x762002 => if x36 < x35 then (if 0 ≤ x36 then (if x36 < (x34.length : Int) then (if (rd x34 x36) < x1 then (if x36 < (x762002.length : Int) then (spec_CellsBelow.l0 k x1 x34 x35 (wrap64 (x36 + 1)) x762000 x762001 (x762002.set (x36 : Int).toNat 1)) else (none)) else (spec_CellsBelow.l0 k x1 x34 x35 (wrap64 (x36 + 1)) x762000 x762001 x762002)) else (none)) else (none)) else (some (x762000, x762001, x762002))
end
def spec_CellsBelow.f (k : Nat) (a0_0 : Int) (a0_1 : Int) (l0_2 : List Int) (a1 : Int) : Option (Int × Int × List Int) := (spec_IsMatrix.f k a0_0 a0_1 l0_2).bind fun t753 => (if t753 = true then ((spec_l1In.f a1 0 (l0_2.length : Int)).bind fun t754 => (if t754 = true then ((spec_l1Size.f a0_0 a0_1).bind fun t755 => (spec_CellsBelow.j0 k a1 (!t755) a0_0 a0_1 l0_2)) else (spec_CellsBelow.j0 k a1 true a0_0 a0_1 l0_2))) else (spec_CellsBelow.j0 k a1 true a0_0 a0_1 l0_2))
theorem spec_CellsBelow.mono_l : ∀ k, (∀ y0 y1 y2 y3 y4, LeO (spec_CellsBelow.j0 k y0 y1 y2 y3 y4) (spec_CellsBelow.j0 (k + 1) y0 y1 y2 y3 y4)) ∧ (∀ y0 y1 y2 y3 y4 y5 y6, LeO (spec_CellsBelow.l0 k y0 y1 y2 y3 y4 y5 y6) (spec_CellsBelow.l0 (k + 1) y0 y1 y2 y3 y4 y5 y6))
  | 0 => ⟨fun _ _ _ _ _ r h => by simp [spec_CellsBelow.j0] at h, fun _ _ _ _ _ _ _ r h => by simp [spec_CellsBelow.l0] at h⟩
  | k + 1 => by
    obtain ⟨ih0, ih1⟩ := spec_CellsBelow.mono_l k
    refine ⟨?_, ?_⟩
    · intro y0 y1 y2 y3 y4
      unfold spec_CellsBelow.j0
      repeat' first
      | (with_reducible exact ih0 _ _ _ _ _)
      | (with_reducible exact ih1 _ _ _ _ _ _ _)
      | (with_reducible exact spec_IsMatrix.mono _ _ _ _)
      | (with_reducible exact LeO.refl _)
      | (with_reducible exact LeO.none _)
      | (with_reducible refine LeO.ite ?_ ?_)
      | (with_reducible refine LeO.bind ?_ (fun _ => ?_))
      | exact ih0 _ _ _ _ _
      | exact ih1 _ _ _ _ _ _ _
      | exact spec_IsMatrix.mono _ _ _ _
      | exact LeO.none _
      | refine LeO.ite ?_ ?_
      | refine LeO.bind ?_ (fun _ => ?_)
    · intro y0 y1 y2 y3 y4 y5 y6
      unfold spec_CellsBelow.l0
      repeat' first
      | (with_reducible exact ih0 _ _ _ _ _)
      | (with_reducible exact ih1 _ _ _ _ _ _ _)
      | (with_reducible exact spec_IsMatrix.mono _ _ _ _)
      | (with_reducible exact LeO.refl _)
      | (with_reducible exact LeO.none _)
      | (with_reducible refine LeO.ite ?_ ?_)
      | (with_reducible refine LeO.bind ?_ (fun _ => ?_))
      | exact ih0 _ _ _ _ _
      | exact ih1 _ _ _ _ _ _ _
      | exact spec_IsMatrix.mono _ _ _ _
      | exact LeO.none _
      | refine LeO.ite ?_ ?_
      | refine LeO.bind ?_ (fun _ => ?_)
theorem spec_CellsBelow.mono : ∀ a0 a1 a2 a3 k, LeO (spec_CellsBelow.f k a0 a1 a2 a3) (spec_CellsBelow.f (k + 1) a0 a1 a2 a3) := by
  intro a0 a1 a2 a3 k
  obtain ⟨ih0, ih1⟩ := spec_CellsBelow.mono_l k
  unfold spec_CellsBelow.f
  repeat' first
      | (with_reducible exact ih0 _ _ _ _ _)
      | (with_reducible exact ih1 _ _ _ _ _ _ _)
      | (with_reducible exact spec_IsMatrix.mono _ _ _ _)
      | (with_reducible exact LeO.refl _)
      | (with_reducible exact LeO.none _)
      | (with_reducible refine LeO.ite ?_ ?_)
      | (with_reducible refine LeO.bind ?_ (fun _ => ?_))
      | exact ih0 _ _ _ _ _
      | exact ih1 _ _ _ _ _ _ _
      | exact spec_IsMatrix.mono _ _ _ _
      | exact LeO.none _
      | refine LeO.ite ?_ ?_
      | refine LeO.bind ?_ (fun _ => ?_)
set_option maxHeartbeats 8000000 in
set_option maxRecDepth 100000 in
theorem spec_CellsBelow.calls (k : Nat) (a0_0 : Int) (a0_1 : Int) (A0_2 : Option Addr) (c0_2 : Nat) (l0_2 : List Int) (a1 : Int) (r1 : Int) (r2 : Int) (r3 : List Int) (w : World) (hr0_2 : Kd.C (Kd.int .i64) w A0_2 l0_2.length l0_2) (hc0_2 : l0_2.length ≤ c0_2) (h : spec_CellsBelow.f k a0_0 a0_1 l0_2 a1 = some (r1, r2, r3)) :
    Calls Try.prog 109 #[.agg #[.int .i64 a0_0, .int .i64 a0_1, .slice A0_2 l0_2.length c0_2], .int .i64 a1] w fun e w' => ∃ v2_ : Value, e = .returned (.agg #[.int .i64 r1, .int .i64 r2, v2_]) ∧ Kd.R (Kd.int .i64) 3 w' w.heap.size (fun _ => True) v2_ r3 ∧ Below w.heap.size w w' := by
  have hu26 := Try.underlying26
  have hu41 := Try.underlying41
  have HR0_2 := Aside0.mk hr0_2
  have HC0_2 := Aside0.mk hc0_2
  clear hr0_2 hc0_2
  have HB := Aside0.mk (Below.refl w.heap.size w)
  have H : ((spec_IsMatrix.f k a0_0 a0_1 l0_2).bind fun t753 => (if t753 = true then ((spec_l1In.f a1 0 (l0_2.length : Int)).bind fun t754 => (if t754 = true then ((spec_l1Size.f a0_0 a0_1).bind fun t755 => (spec_CellsBelow.j0 k a1 (!t755) a0_0 a0_1 l0_2)) else (spec_CellsBelow.j0 k a1 true a0_0 a0_1 l0_2))) else (spec_CellsBelow.j0 k a1 true a0_0 a0_1 l0_2))) = some (r1, r2, r3) := h
  clear h
  have HC3 := Aside0.mk H
  clear H
  go_enter Try.func109, Try.ntmps109
  go_upto_region 1 with (first | ((with_reducible refine gate_dst (N := 2) rfl ?_); refine box_event ?hg (N := 2) ?hd (cs := #[.int .i64 a0_0, .int .i64 a0_1, .slice A0_2 l0_2.length c0_2]) (t := 26) ?hr ?_; (case hd => rfl); (case hg => rfl); (case hr => first | (go_simp; done) | (go_simp; rfl)); intro gb751 hg w4 hbox hb; have n0_ := Aside0.mk (below_step (by repeat (first | (with_reducible first | exact HB.out | apply below_alloc | apply pw_below_drewN | apply below_drew1) | exact HB.out)) hb); have n1_ := Aside0.mk (hbox); have n2_ := Aside0.mk ((by rw [hg]; exact (below_size (by repeat (first | (with_reducible first | exact HB.out | apply below_alloc | apply pw_below_drewN | apply below_drew1) | exact HB.out))) : w.heap.size ≤ gb751)); have n3_ := Aside0.mk ((by rw [hg]; exact (below_size (by repeat (first | (with_reducible first | exact HB.out | apply below_alloc | apply pw_below_drewN | apply below_drew1) | exact HB.out))) : w.heap.size ≤ gb751)); clear HB; have HB := n0_; have BK751 := n1_; have GW751 := n2_; have GE751 := n3_; clear n0_ n1_ n2_ n3_; clear hb hbox hg) | ((with_reducible refine gate_dst (N := 4) rfl ?_); refine box_event ?hg (N := 4) ?hd (cs := #[.int .i64 0, .int .i64 0, .slice none 0 0]) (t := 41) ?hr ?_; (case hd => rfl); (case hg => rfl); (case hr => first | (go_simp; done) | (go_simp; rfl)); intro gb752 hg w5 hbox hb; have n0_ := Aside0.mk (blk_below (g := gb751) (o := .cells #[.int .i64 a0_0, .int .i64 a0_1, .slice A0_2 l0_2.length c0_2] 26 (0, 0)) (by (with_reducible repeat (first | refine blk_drewN ?_ _ | refine blk_drew ?_ | refine blk_alloc ?_ _)); exact BK751.out) hb); have n1_ := Aside0.mk (below_step (by repeat (first | (with_reducible first | exact HB.out | apply below_alloc | apply pw_below_drewN | apply below_drew1 | refine below_set ?_ GE751.out) | exact HB.out)) hb); have n2_ := Aside0.mk (hbox); have n3_ := Aside0.mk ((by rw [hg]; exact (below_size (by repeat (first | (with_reducible first | exact HB.out | apply below_alloc | apply pw_below_drewN | apply below_drew1 | refine below_set ?_ GE751.out) | exact HB.out))) : w.heap.size ≤ gb752)); have n4_ := Aside0.mk ((by rw [hg]; exact (below_size (by repeat (first | (with_reducible first | exact HB.out | apply below_alloc | apply pw_below_drewN | apply below_drew1 | refine below_set ?_ GE751.out) | exact HB.out))) : w.heap.size ≤ gb752)); have n5_ := Aside0.mk ((by rw [hg]; exact Nat.ne_of_lt (blk_lt (g := gb751) (o := .cells #[.int .i64 a0_0, .int .i64 a0_1, .slice A0_2 l0_2.length c0_2] 26 (0, 0)) (by (with_reducible repeat (first | refine blk_drewN ?_ _ | refine blk_drew ?_ | refine blk_alloc ?_ _)); exact BK751.out)) : gb751 ≠ gb752)); have n6_ := Aside0.mk ((by rw [hg]; exact Nat.ne_of_gt (blk_lt (g := gb751) (o := .cells #[.int .i64 a0_0, .int .i64 a0_1, .slice A0_2 l0_2.length c0_2] 26 (0, 0)) (by (with_reducible repeat (first | refine blk_drewN ?_ _ | refine blk_drew ?_ | refine blk_alloc ?_ _)); exact BK751.out)) : gb752 ≠ gb751)); clear BK751; clear HB; have BK751 := n0_; have HB := n1_; have BK752 := n2_; have GW752 := n3_; have GE752 := n4_; have NB751_752 := n5_; have NB752_751 := n6_; clear n0_ n1_ n2_ n3_ n4_ n5_ n6_; clear hb hbox hg))
  (try simp only [Act.put, List.setIfInBounds_toArray, List.set_cons_zero, List.set_cons_succ])
  go_cut [26] (fun v26 wc => ∃ (kq : Nat) (x26_2 : Bool), v26 = .bool x26_2 ∧ Aside0 (spec_CellsBelow.j0 kq a1 x26_2 a0_0 a0_1 l0_2 = some (r1, r2, r3)) ∧ Aside0 (kq ≤ k) ∧ Aside0 (wc.heap[gb751]? = some (.cells #[.int .i64 a0_0, .int .i64 a0_1, (.slice A0_2 l0_2.length c0_2)] 26 (0, 0))) ∧ Aside0 (wc.heap[gb752]? = some (.cells #[.int .i64 0, .int .i64 0, (.slice none 0 0)] 41 (0, 0))) ∧ Aside0 (Below w.heap.size w wc))
  case first =>
    have H := HC3.out
    clear HC3
    replace H := Option.bind_eq_some_iff.mp H
    obtain ⟨t753, A60, H⟩ := H
    replace H : (if t753 = true then ((spec_l1In.f a1 0 (l0_2.length : Int)).bind fun t754 => (if t754 = true then ((spec_l1Size.f a0_0 a0_1).bind fun t755 => (spec_CellsBelow.j0 k a1 (!t755) a0_0 a0_1 l0_2)) else (spec_CellsBelow.j0 k a1 true a0_0 a0_1 l0_2))) else (spec_CellsBelow.j0 k a1 true a0_0 a0_1 l0_2)) = some (r1, r2, r3) := H
    have A6 := Aside0.mk A60
    clear A60
    by_cases c7 : t753 = true
    · subst c7
      have H1 : ((spec_l1In.f a1 0 (l0_2.length : Int)).bind fun t754 => (if t754 = true then ((spec_l1Size.f a0_0 a0_1).bind fun t755 => (spec_CellsBelow.j0 k a1 (!t755) a0_0 a0_1 l0_2)) else (spec_CellsBelow.j0 k a1 true a0_0 a0_1 l0_2))) = some (r1, r2, r3) := by rw [if_pos rfl] at H; exact H
      clear H
      have H := H1
      clear H1
      replace H := Option.bind_eq_some_iff.mp H
      obtain ⟨t754, A80, H⟩ := H
      replace H : (if t754 = true then ((spec_l1Size.f a0_0 a0_1).bind fun t755 => (spec_CellsBelow.j0 k a1 (!t755) a0_0 a0_1 l0_2)) else (spec_CellsBelow.j0 k a1 true a0_0 a0_1 l0_2)) = some (r1, r2, r3) := H
      have A8 := Aside0.mk A80
      clear A80
      by_cases c9 : t754 = true
      · subst c9
        have H1 : ((spec_l1Size.f a0_0 a0_1).bind fun t755 => (spec_CellsBelow.j0 k a1 (!t755) a0_0 a0_1 l0_2)) = some (r1, r2, r3) := by rw [if_pos rfl] at H; exact H
        clear H
        have H := H1
        clear H1
        replace H := Option.bind_eq_some_iff.mp H
        obtain ⟨t755, A100, H⟩ := H
        replace H : (spec_CellsBelow.j0 k a1 (!t755) a0_0 a0_1 l0_2) = some (r1, r2, r3) := H
        have A10 := Aside0.mk A100
        clear A100
        have H' := Aside0.mk H
        clear H
        have hnb11 := NB751_752.out
        have hnc11 := NB752_751.out
        have hcz12_0 : w5.cell? ⟨gb751, 0, none⟩ = some (.int .i64 a0_0) := (blk_cell BK751.out 0).trans rfl
        have hcz12_1 : w5.cell? ⟨gb751, 1, none⟩ = some (.int .i64 a0_1) := (blk_cell BK751.out 1).trans rfl
        have hcz12_2 : w5.cell? ⟨gb751, 2, none⟩ = some (.slice A0_2 l0_2.length c0_2) := (blk_cell BK751.out 2).trans rfl
        have hfz12_0 := blk_frozen BK751.out 0
        have hfz12_1 := blk_frozen BK751.out 1
        have hfz12_2 := blk_frozen BK751.out 2
        go_wp2_with (first | ((with_reducible refine gate_callee (f := 25) rfl ?_); refine goesL_ (some 9) rfl rfl Try.func25 (by kernel_rfl) rfl #[.agg #[.int .i64 a0_0, .int .i64 a0_1, .slice A0_2 l0_2.length c0_2]] rfl (by (try simp only [List.map_toArray, List.map_cons, List.map_nil]); first | done | rfl | (simp only [List.length_drop, List.length_take]; rfl)) ?_; (with_reducible refine (spec_IsMatrix.calls k a0_0 a0_1 _ _ l0_2 true _ ?side1 ?side2 A6.out).mono ?_); (case side1 => repeat (first | exact (Kd.C_below HR0_2.out HB.out) | (with_reducible refine Kd.C_alloc ?_ _) | (with_reducible refine Kd.C_drewN ?_ _) | (with_reducible refine Kd.C_drew ?_))); (case side2 => exact HC0_2.out); rintro e w13 ⟨rfl, hb⟩; refine ⟨_, rfl, ?_⟩; have n0_ := Aside0.mk (blk_below (g := gb751) (o := .cells #[.int .i64 a0_0, .int .i64 a0_1, .slice A0_2 l0_2.length c0_2] 26 (0, 0)) (by (with_reducible repeat (first | refine blk_drewN ?_ _ | refine blk_drew ?_ | refine blk_alloc ?_ _)); exact BK751.out) hb); have n1_ := Aside0.mk (blk_below (g := gb752) (o := .cells #[.int .i64 0, .int .i64 0, .slice none 0 0] 41 (0, 0)) (by (with_reducible repeat (first | refine blk_drewN ?_ _ | refine blk_drew ?_ | refine blk_alloc ?_ _)); exact BK752.out) hb); have n2_ := Aside0.mk (below_step (by repeat (first | (with_reducible first | exact HB.out | apply below_alloc | apply pw_below_drewN | apply below_drew1 | refine below_set ?_ GE751.out | refine below_set ?_ GE752.out) | exact HB.out)) hb); clear BK751; clear BK752; clear HB; have BK751 := n0_; have BK752 := n1_; have HB := n2_; clear n0_ n1_ n2_; (try clear hb); (try clear hb2); (try clear hk); (try clear hi); have hcz14_0 : w13.cell? ⟨gb751, 0, none⟩ = some (.int .i64 a0_0) := (blk_cell BK751.out 0).trans rfl; have hcz14_1 : w13.cell? ⟨gb751, 1, none⟩ = some (.int .i64 a0_1) := (blk_cell BK751.out 1).trans rfl; have hcz14_2 : w13.cell? ⟨gb751, 2, none⟩ = some (.slice A0_2 l0_2.length c0_2) := (blk_cell BK751.out 2).trans rfl; have hfz14_0 := blk_frozen BK751.out 0; have hfz14_1 := blk_frozen BK751.out 1; have hfz14_2 := blk_frozen BK751.out 2) | (go_at_call 86; (with_reducible refine (spec_l1In.calls a1 0 (l0_2.length : Int) true _ A8.out).mono ?_); rintro e w' ⟨rfl, ⟨nd, rfl⟩⟩) | (go_at_call 111; (with_reducible refine (spec_l1Size.calls a0_0 a0_1 t755 _ A10.out).mono ?_); rintro e w' ⟨rfl, ⟨nd, rfl⟩⟩))
        go_meet
        case rel => exact ⟨_, (!t755), (by first | rfl | (simp; done) | (simp [*]; done)), H', ⟨by first | omega | exact Nat.le_refl _⟩, ⟨by (with_reducible repeat (first | refine blk_drewN ?_ _ | refine blk_drew ?_ | refine blk_alloc ?_ _)); exact BK751.out⟩, ⟨by (with_reducible repeat (first | refine blk_drewN ?_ _ | refine blk_drew ?_ | refine blk_alloc ?_ _)); exact BK752.out⟩, ⟨by repeat (first | (with_reducible first | exact HB.out | apply below_alloc | apply pw_below_drewN | apply below_drew1 | refine below_set ?_ GE751.out | refine below_set ?_ GE752.out) | exact HB.out)⟩⟩
      · replace c9 := Bool.eq_false_iff.mpr c9
        subst c9
        have H1 : (spec_CellsBelow.j0 k a1 true a0_0 a0_1 l0_2) = some (r1, r2, r3) := by rw [if_neg (show ¬ (false = true) by decide)] at H; exact H
        clear H
        have H := H1
        clear H1
        have H' := Aside0.mk H
        clear H
        have hnb15 := NB751_752.out
        have hnc15 := NB752_751.out
        have hcz16_0 : w5.cell? ⟨gb751, 0, none⟩ = some (.int .i64 a0_0) := (blk_cell BK751.out 0).trans rfl
        have hcz16_1 : w5.cell? ⟨gb751, 1, none⟩ = some (.int .i64 a0_1) := (blk_cell BK751.out 1).trans rfl
        have hcz16_2 : w5.cell? ⟨gb751, 2, none⟩ = some (.slice A0_2 l0_2.length c0_2) := (blk_cell BK751.out 2).trans rfl
        have hfz16_0 := blk_frozen BK751.out 0
        have hfz16_1 := blk_frozen BK751.out 1
        have hfz16_2 := blk_frozen BK751.out 2
        go_wp2_with (first | ((with_reducible refine gate_callee (f := 25) rfl ?_); refine goesL_ (some 9) rfl rfl Try.func25 (by kernel_rfl) rfl #[.agg #[.int .i64 a0_0, .int .i64 a0_1, .slice A0_2 l0_2.length c0_2]] rfl (by (try simp only [List.map_toArray, List.map_cons, List.map_nil]); first | done | rfl | (simp only [List.length_drop, List.length_take]; rfl)) ?_; (with_reducible refine (spec_IsMatrix.calls k a0_0 a0_1 _ _ l0_2 true _ ?side1 ?side2 A6.out).mono ?_); (case side1 => repeat (first | exact (Kd.C_below HR0_2.out HB.out) | (with_reducible refine Kd.C_alloc ?_ _) | (with_reducible refine Kd.C_drewN ?_ _) | (with_reducible refine Kd.C_drew ?_))); (case side2 => exact HC0_2.out); rintro e w17 ⟨rfl, hb⟩; refine ⟨_, rfl, ?_⟩; have n0_ := Aside0.mk (blk_below (g := gb751) (o := .cells #[.int .i64 a0_0, .int .i64 a0_1, .slice A0_2 l0_2.length c0_2] 26 (0, 0)) (by (with_reducible repeat (first | refine blk_drewN ?_ _ | refine blk_drew ?_ | refine blk_alloc ?_ _)); exact BK751.out) hb); have n1_ := Aside0.mk (blk_below (g := gb752) (o := .cells #[.int .i64 0, .int .i64 0, .slice none 0 0] 41 (0, 0)) (by (with_reducible repeat (first | refine blk_drewN ?_ _ | refine blk_drew ?_ | refine blk_alloc ?_ _)); exact BK752.out) hb); have n2_ := Aside0.mk (below_step (by repeat (first | (with_reducible first | exact HB.out | apply below_alloc | apply pw_below_drewN | apply below_drew1 | refine below_set ?_ GE751.out | refine below_set ?_ GE752.out) | exact HB.out)) hb); clear BK751; clear BK752; clear HB; have BK751 := n0_; have BK752 := n1_; have HB := n2_; clear n0_ n1_ n2_; (try clear hb); (try clear hb2); (try clear hk); (try clear hi); have hcz18_0 : w17.cell? ⟨gb751, 0, none⟩ = some (.int .i64 a0_0) := (blk_cell BK751.out 0).trans rfl; have hcz18_1 : w17.cell? ⟨gb751, 1, none⟩ = some (.int .i64 a0_1) := (blk_cell BK751.out 1).trans rfl; have hcz18_2 : w17.cell? ⟨gb751, 2, none⟩ = some (.slice A0_2 l0_2.length c0_2) := (blk_cell BK751.out 2).trans rfl; have hfz18_0 := blk_frozen BK751.out 0; have hfz18_1 := blk_frozen BK751.out 1; have hfz18_2 := blk_frozen BK751.out 2) | (go_at_call 86; (with_reducible refine (spec_l1In.calls a1 0 (l0_2.length : Int) false _ A8.out).mono ?_); rintro e w' ⟨rfl, ⟨nd, rfl⟩⟩))
        go_meet
        case rel => exact ⟨_, (true), (by first | rfl | (simp; done) | (simp [*]; done)), H', ⟨by first | omega | exact Nat.le_refl _⟩, ⟨by (with_reducible repeat (first | refine blk_drewN ?_ _ | refine blk_drew ?_ | refine blk_alloc ?_ _)); exact BK751.out⟩, ⟨by (with_reducible repeat (first | refine blk_drewN ?_ _ | refine blk_drew ?_ | refine blk_alloc ?_ _)); exact BK752.out⟩, ⟨by repeat (first | (with_reducible first | exact HB.out | apply below_alloc | apply pw_below_drewN | apply below_drew1 | refine below_set ?_ GE751.out | refine below_set ?_ GE752.out) | exact HB.out)⟩⟩
    · replace c7 := Bool.eq_false_iff.mpr c7
      subst c7
      have H1 : (spec_CellsBelow.j0 k a1 true a0_0 a0_1 l0_2) = some (r1, r2, r3) := by rw [if_neg (show ¬ (false = true) by decide)] at H; exact H
      clear H
      have H := H1
      clear H1
      have H' := Aside0.mk H
      clear H
      have hnb19 := NB751_752.out
      have hnc19 := NB752_751.out
      have hcz20_0 : w5.cell? ⟨gb751, 0, none⟩ = some (.int .i64 a0_0) := (blk_cell BK751.out 0).trans rfl
      have hcz20_1 : w5.cell? ⟨gb751, 1, none⟩ = some (.int .i64 a0_1) := (blk_cell BK751.out 1).trans rfl
      have hcz20_2 : w5.cell? ⟨gb751, 2, none⟩ = some (.slice A0_2 l0_2.length c0_2) := (blk_cell BK751.out 2).trans rfl
      have hfz20_0 := blk_frozen BK751.out 0
      have hfz20_1 := blk_frozen BK751.out 1
      have hfz20_2 := blk_frozen BK751.out 2
      go_wp2_with (first | ((with_reducible refine gate_callee (f := 25) rfl ?_); refine goesL_ (some 9) rfl rfl Try.func25 (by kernel_rfl) rfl #[.agg #[.int .i64 a0_0, .int .i64 a0_1, .slice A0_2 l0_2.length c0_2]] rfl (by (try simp only [List.map_toArray, List.map_cons, List.map_nil]); first | done | rfl | (simp only [List.length_drop, List.length_take]; rfl)) ?_; (with_reducible refine (spec_IsMatrix.calls k a0_0 a0_1 _ _ l0_2 false _ ?side1 ?side2 A6.out).mono ?_); (case side1 => repeat (first | exact (Kd.C_below HR0_2.out HB.out) | (with_reducible refine Kd.C_alloc ?_ _) | (with_reducible refine Kd.C_drewN ?_ _) | (with_reducible refine Kd.C_drew ?_))); (case side2 => exact HC0_2.out); rintro e w21 ⟨rfl, hb⟩; refine ⟨_, rfl, ?_⟩; have n0_ := Aside0.mk (blk_below (g := gb751) (o := .cells #[.int .i64 a0_0, .int .i64 a0_1, .slice A0_2 l0_2.length c0_2] 26 (0, 0)) (by (with_reducible repeat (first | refine blk_drewN ?_ _ | refine blk_drew ?_ | refine blk_alloc ?_ _)); exact BK751.out) hb); have n1_ := Aside0.mk (blk_below (g := gb752) (o := .cells #[.int .i64 0, .int .i64 0, .slice none 0 0] 41 (0, 0)) (by (with_reducible repeat (first | refine blk_drewN ?_ _ | refine blk_drew ?_ | refine blk_alloc ?_ _)); exact BK752.out) hb); have n2_ := Aside0.mk (below_step (by repeat (first | (with_reducible first | exact HB.out | apply below_alloc | apply pw_below_drewN | apply below_drew1 | refine below_set ?_ GE751.out | refine below_set ?_ GE752.out) | exact HB.out)) hb); clear BK751; clear BK752; clear HB; have BK751 := n0_; have BK752 := n1_; have HB := n2_; clear n0_ n1_ n2_; (try clear hb); (try clear hb2); (try clear hk); (try clear hi)))
      go_meet
      case rel => exact ⟨_, (true), (by first | rfl | (simp; done) | (simp [*]; done)), H', ⟨by first | omega | exact Nat.le_refl _⟩, ⟨by (with_reducible repeat (first | refine blk_drewN ?_ _ | refine blk_drew ?_ | refine blk_alloc ?_ _)); exact BK751.out⟩, ⟨by (with_reducible repeat (first | refine blk_drewN ?_ _ | refine blk_drew ?_ | refine blk_alloc ?_ _)); exact BK752.out⟩, ⟨by repeat (first | (with_reducible first | exact HB.out | apply below_alloc | apply pw_below_drewN | apply below_drew1 | refine below_set ?_ GE751.out | refine below_set ?_ GE752.out) | exact HB.out)⟩⟩
  case rest =>
    clear HC3
    try clear c1
    try clear c2
    try clear p2
    try clear c7
    try clear c9
    try clear c10
    try clear c11
    try clear c15
    try clear c19
    try clear hcz12_0
    try clear hcz12_1
    try clear hcz12_2
    try clear hcz14_0
    try clear hcz14_1
    try clear hcz14_2
    try clear hcz16_0
    try clear hcz16_1
    try clear hcz16_2
    try clear hcz18_0
    try clear hcz18_1
    try clear hcz18_2
    try clear hcz20_0
    try clear hcz20_1
    try clear hcz20_2
    try clear hfz12_0
    try clear hfz12_1
    try clear hfz12_2
    try clear hfz14_0
    try clear hfz14_1
    try clear hfz14_2
    try clear hfz16_0
    try clear hfz16_1
    try clear hfz16_2
    try clear hfz18_0
    try clear hfz18_1
    try clear hfz18_2
    try clear hfz20_0
    try clear hfz20_1
    try clear hfz20_2
    obtain ⟨kq, x26_2, rfl, HA, HJ2, BK751, BK752, HB⟩ := hcut
    cases kq with
    | zero => exact absurd HA.out (by simp [spec_CellsBelow.j0])
    | succ kj2 =>
      have H := HA.out
      clear HA
      simp only [spec_CellsBelow.j0] at H
      by_cases c22 : x26_2 = true
      · subst c22
        have H1 : (some (0, 0, ([] : List Int))) = some (r1, r2, r3) := by rw [if_pos rfl] at H; exact H
        clear H
        have H := H1
        clear H1
        simp only [Option.some.injEq, Prod.mk.injEq] at H
        obtain ⟨rfl, rfl, rfl⟩ := H
        have hnb23 := NB752_751.out
        have hnc23 := NB751_752.out
        have hcz24_0 : wc.cell? ⟨gb752, 0, none⟩ = some (.int .i64 0) := (blk_cell BK752.out 0).trans rfl
        have hcz24_1 : wc.cell? ⟨gb752, 1, none⟩ = some (.int .i64 0) := (blk_cell BK752.out 1).trans rfl
        have hcz24_2 : wc.cell? ⟨gb752, 2, none⟩ = some (.slice none 0 0) := (blk_cell BK752.out 2).trans rfl
        have hfz24_0 := blk_frozen BK752.out 0
        have hfz24_1 := blk_frozen BK752.out 1
        have hfz24_2 := blk_frozen BK752.out 2
        go_wp2
        refine bodyPost_ret (results_cell_row rfl _ _ gb752 41 #[.int .i64 0, .int .i64 0, .slice none 0 0] (0, 0) _ rfl (by (with_reducible repeat (first | refine blk_drewN ?_ _ | refine blk_drew ?_ | refine blk_alloc ?_ _)); refine blk_put (cs := #[.int .i64 0, .int .i64 0, .slice none 0 0]) ?_ 2 _ rfl; (with_reducible repeat (first | refine blk_drewN ?_ _ | refine blk_drew ?_ | refine blk_alloc ?_ _)); refine blk_put (cs := #[.int .i64 0, .int .i64 0, .slice none 0 0]) ?_ 1 _ rfl; (with_reducible repeat (first | refine blk_drewN ?_ _ | refine blk_drew ?_ | refine blk_alloc ?_ _)); refine blk_put (cs := #[.int .i64 0, .int .i64 0, .slice none 0 0]) ?_ 0 _ rfl; (with_reducible repeat (first | refine blk_drewN ?_ _ | refine blk_drew ?_ | refine blk_alloc ?_ _)); exact BK752.out) Try.underlying41 rfl (by kernel_rfl)) rfl ?_
        exact ⟨_, by first | rfl | (simp [errW_none, errW_some] <;> rfl) | (simp [*, errW_none, errW_some] <;> rfl), by first | exact Kd.R_nil _ _ _ _ _ | exact Kd.N_nil _ _ _ _ _ | exact Kd.V_nil _ _ _ _ _ | exact Kd.Q_nil _ _ _ _ _ | exact Kd.S_nil _ _ _ _ _, by repeat (first | (with_reducible first | exact HB.out | apply below_alloc | apply pw_below_drewN | apply below_drew1 | refine below_set ?_ GE751.out | refine below_set ?_ GE752.out) | exact HB.out)⟩
      · replace c22 := Bool.eq_false_iff.mpr c22
        subst c22
        have H1 : ((spec_l1Empty.f a0_0 a0_1).bind fun bt756 => (spec_CellsBelow.l0 kj2 a1 l0_2 (l0_2.length : Int) 0 bt756.1 bt756.2.1 bt756.2.2)) = some (r1, r2, r3) := by rw [if_neg (show ¬ (false = true) by decide)] at H; exact H
        clear H
        have H := H1
        clear H1
        replace H := Option.bind_eq_some_iff.mp H
        obtain ⟨⟨t756, t757, t758⟩, A250, H⟩ := H
        replace H : (spec_CellsBelow.l0 kj2 a1 l0_2 (l0_2.length : Int) 0 t756 t757 t758) = some (r1, r2, r3) := H
        have A25 := Aside0.mk A250
        clear A250
        have H' := Aside0.mk H
        clear H
        have hnb26 := NB751_752.out
        have hnc26 := NB752_751.out
        have hcz27_0 : wc.cell? ⟨gb751, 0, none⟩ = some (.int .i64 a0_0) := (blk_cell BK751.out 0).trans rfl
        have hcz27_1 : wc.cell? ⟨gb751, 1, none⟩ = some (.int .i64 a0_1) := (blk_cell BK751.out 1).trans rfl
        have hcz27_2 : wc.cell? ⟨gb751, 2, none⟩ = some (.slice A0_2 l0_2.length c0_2) := (blk_cell BK751.out 2).trans rfl
        have hfz27_0 := blk_frozen BK751.out 0
        have hfz27_1 := blk_frozen BK751.out 1
        have hfz27_2 := blk_frozen BK751.out 2
        go_wp2_with (first | ((with_reducible refine gate_callee (f := 104) rfl ?_); refine goesL_ (some 32) rfl rfl Try.func104 (by kernel_rfl) rfl #[.int .i64 a0_0, .int .i64 a0_1] rfl (by (try simp only [List.map_toArray, List.map_cons, List.map_nil]); first | done | rfl | (simp only [List.length_drop, List.length_take]; rfl)) ?_; (with_reducible refine (spec_l1Empty.calls a0_0 a0_1 t756 t757 t758 _ A25.out).mono ?_); rintro e w28 ⟨v759, rfl, ho0, hb⟩; refine ⟨_, rfl, ?_⟩; have n0_ := Aside0.mk (Kd.R_lower ho0 (below_size (by repeat (first | (with_reducible first | exact HB.out | apply below_alloc | apply pw_below_drewN | apply below_drew1 | refine below_set ?_ GE751.out | refine below_set ?_ GE752.out) | exact HB.out)))); have n1_ := Aside0.mk (blk_below (g := gb751) (o := .cells #[.int .i64 a0_0, .int .i64 a0_1, .slice A0_2 l0_2.length c0_2] 26 (0, 0)) (by (with_reducible repeat (first | refine blk_drewN ?_ _ | refine blk_drew ?_ | refine blk_alloc ?_ _)); exact BK751.out) hb); have n2_ := Aside0.mk (blk_below (g := gb752) (o := .cells #[.int .i64 0, .int .i64 0, .slice none 0 0] 41 (0, 0)) (by (with_reducible repeat (first | refine blk_drewN ?_ _ | refine blk_drew ?_ | refine blk_alloc ?_ _)); exact BK752.out) hb); have n3_ := Aside0.mk (below_step (by repeat (first | (with_reducible first | exact HB.out | apply below_alloc | apply pw_below_drewN | apply below_drew1 | refine below_set ?_ GE751.out | refine below_set ?_ GE752.out) | exact HB.out)) hb); clear BK751; clear BK752; clear HB; have HO760 := n0_; have BK751 := n1_; have BK752 := n2_; have HB := n3_; clear n0_ n1_ n2_ n3_; (try clear hb); (try clear hb2); (try clear hk); (try clear hi); (try clear ho0)) | ((with_reducible refine gate_dst (N := 5) rfl ?_); refine box_event ?hg (N := 5) ?hd (cs := #[.int .i64 0, .int .i64 0, .slice none 0 0]) (t := 41) ?hr ?_; (case hd => rfl); (case hg => rfl); (case hr => first | (go_simp; done) | (go_simp; rfl)); intro gb761 hg w29 hbox hb; have n0_ := Aside0.mk (Kd.R_below (by (with_reducible repeat (first | apply Kd.R_alloc | apply Kd.R_drewN | apply Kd.R_drew)); exact HO760.out) hb); have n1_ := Aside0.mk (blk_below (g := gb751) (o := .cells #[.int .i64 a0_0, .int .i64 a0_1, .slice A0_2 l0_2.length c0_2] 26 (0, 0)) (by (with_reducible repeat (first | refine blk_drewN ?_ _ | refine blk_drew ?_ | refine blk_alloc ?_ _)); exact BK751.out) hb); have n2_ := Aside0.mk (blk_below (g := gb752) (o := .cells #[.int .i64 0, .int .i64 0, .slice none 0 0] 41 (0, 0)) (by (with_reducible repeat (first | refine blk_drewN ?_ _ | refine blk_drew ?_ | refine blk_alloc ?_ _)); exact BK752.out) hb); have n3_ := Aside0.mk (below_step (by repeat (first | (with_reducible first | exact HB.out | apply below_alloc | apply pw_below_drewN | apply below_drew1 | refine below_set ?_ GE751.out | refine below_set ?_ GE752.out) | exact HB.out)) hb); have n4_ := Aside0.mk (hbox); have n5_ := Aside0.mk ((by rw [hg]; exact (below_size (by repeat (first | (with_reducible first | exact HB.out | apply below_alloc | apply pw_below_drewN | apply below_drew1 | refine below_set ?_ GE751.out | refine below_set ?_ GE752.out) | exact HB.out))) : w.heap.size ≤ gb761)); have n6_ := Aside0.mk ((by rw [hg]; exact (below_size (by repeat (first | (with_reducible first | exact HB.out | apply below_alloc | apply pw_below_drewN | apply below_drew1 | refine below_set ?_ GE751.out | refine below_set ?_ GE752.out) | exact HB.out))) : w.heap.size ≤ gb761)); have n7_ := Aside0.mk ((by rw [hg]; exact Nat.ne_of_lt (blk_lt (g := gb751) (o := .cells #[.int .i64 a0_0, .int .i64 a0_1, .slice A0_2 l0_2.length c0_2] 26 (0, 0)) (by (with_reducible repeat (first | refine blk_drewN ?_ _ | refine blk_drew ?_ | refine blk_alloc ?_ _)); exact BK751.out)) : gb751 ≠ gb761)); have n8_ := Aside0.mk ((by rw [hg]; exact Nat.ne_of_gt (blk_lt (g := gb751) (o := .cells #[.int .i64 a0_0, .int .i64 a0_1, .slice A0_2 l0_2.length c0_2] 26 (0, 0)) (by (with_reducible repeat (first | refine blk_drewN ?_ _ | refine blk_drew ?_ | refine blk_alloc ?_ _)); exact BK751.out)) : gb761 ≠ gb751)); have n9_ := Aside0.mk ((by rw [hg]; exact Nat.ne_of_lt (blk_lt (g := gb752) (o := .cells #[.int .i64 0, .int .i64 0, .slice none 0 0] 41 (0, 0)) (by (with_reducible repeat (first | refine blk_drewN ?_ _ | refine blk_drew ?_ | refine blk_alloc ?_ _)); exact BK752.out)) : gb752 ≠ gb761)); have n10_ := Aside0.mk ((by rw [hg]; exact Nat.ne_of_gt (blk_lt (g := gb752) (o := .cells #[.int .i64 0, .int .i64 0, .slice none 0 0] 41 (0, 0)) (by (with_reducible repeat (first | refine blk_drewN ?_ _ | refine blk_drew ?_ | refine blk_alloc ?_ _)); exact BK752.out)) : gb761 ≠ gb752)); clear HO760; clear BK751; clear BK752; clear HB; have HO760 := n0_; have BK751 := n1_; have BK752 := n2_; have HB := n3_; have BK761 := n4_; have GW761 := n5_; have GE761 := n6_; have NB751_761 := n7_; have NB761_751 := n8_; have NB752_761 := n9_; have NB761_752 := n10_; clear n0_ n1_ n2_ n3_ n4_ n5_ n6_ n7_ n8_ n9_ n10_; clear hb hbox hg; have hnb30 := NB761_751.out; have hnc30 := NB751_761.out; have hnb31 := NB761_752.out; have hnc31 := NB752_761.out; have hcz32_0 : w29.cell? ⟨gb761, 0, none⟩ = some (.int .i64 0) := (blk_cell BK761.out 0).trans rfl; have hcz32_1 : w29.cell? ⟨gb761, 1, none⟩ = some (.int .i64 0) := (blk_cell BK761.out 1).trans rfl; have hcz32_2 : w29.cell? ⟨gb761, 2, none⟩ = some (.slice none 0 0) := (blk_cell BK761.out 2).trans rfl; have hfz32_0 := blk_frozen BK761.out 0; have hfz32_1 := blk_frozen BK761.out 1; have hfz32_2 := blk_frozen BK761.out 2; obtain ⟨Ao33, co33, eo33⟩ := Kd.R_slice HO760.out; subst eo33; have hcz34_0 : w29.cell? ⟨gb751, 0, none⟩ = some (.int .i64 a0_0) := (blk_cell BK751.out 0).trans rfl; have hcz34_1 : w29.cell? ⟨gb751, 1, none⟩ = some (.int .i64 a0_1) := (blk_cell BK751.out 1).trans rfl; have hcz34_2 : w29.cell? ⟨gb751, 2, none⟩ = some (.slice A0_2 l0_2.length c0_2) := (blk_cell BK751.out 2).trans rfl; have hfz34_0 := blk_frozen BK751.out 0; have hfz34_1 := blk_frozen BK751.out 1; have hfz34_2 := blk_frozen BK751.out 2))
        go_loopg [36] kj2 (fun kq v36 w' => ∃ (x36_2 : Int) (x762002_2 : List Int) (u762002 : Value), v36 = .int .i64 x36_2 ∧ Aside0 (spec_CellsBelow.l0 kq a1 l0_2 (l0_2.length : Int) x36_2 t756 t757 x762002_2 = some (r1, r2, r3)) ∧ Aside0 (kq ≤ kj2) ∧ Aside0 (Kd.R (Kd.int .i64) 3 w' w.heap.size (fun _ => True) u762002 x762002_2) ∧ Aside0 (w'.heap[gb751]? = some (.cells #[.int .i64 a0_0, .int .i64 a0_1, (.slice A0_2 l0_2.length c0_2)] 26 (0, 0))) ∧ Aside0 (w'.heap[gb752]? = some (.cells #[.int .i64 0, .int .i64 0, (.slice none 0 0)] 41 (0, 0))) ∧ Aside0 (w'.heap[gb761]? = some (.cells #[.int .i64 t756, .int .i64 t757, u762002] 41 (0, 0))) ∧ Aside0 (Below w.heap.size w w'))
        case atStart => exact ⟨(0), (t758), (.slice Ao33 t758.length co33), (by first | rfl | (simp; done) | (simp [*]; done)), H', ⟨Nat.le_refl _⟩, ⟨by (with_reducible repeat (first | apply Kd.R_alloc | apply Kd.R_drewN | apply Kd.R_drew)); exact Kd.R_mono (Kd.R_far (p := ⟨gb761, 2, none⟩) (Kd.R_far (p := ⟨gb761, 1, none⟩) (Kd.R_far (p := ⟨gb761, 0, none⟩) (Kd.R_types HO760.out BK761.out (by decide)) (fun _ hk => hk.2) (.int .i64 t756)) (fun _ hk => hk.2) (.int .i64 t757)) (fun _ hk => hk.2) (.slice Ao33 t758.length co33)) (fun _ hk => trivial)⟩, ⟨by (with_reducible repeat (first | refine blk_drewN ?_ _ | refine blk_drew ?_ | refine blk_alloc ?_ _)); refine blk_far ?_ NB751_761.out _; (with_reducible repeat (first | refine blk_drewN ?_ _ | refine blk_drew ?_ | refine blk_alloc ?_ _)); refine blk_far ?_ NB751_761.out _; (with_reducible repeat (first | refine blk_drewN ?_ _ | refine blk_drew ?_ | refine blk_alloc ?_ _)); refine blk_far ?_ NB751_761.out _; (with_reducible repeat (first | refine blk_drewN ?_ _ | refine blk_drew ?_ | refine blk_alloc ?_ _)); exact BK751.out⟩, ⟨by (with_reducible repeat (first | refine blk_drewN ?_ _ | refine blk_drew ?_ | refine blk_alloc ?_ _)); refine blk_far ?_ NB752_761.out _; (with_reducible repeat (first | refine blk_drewN ?_ _ | refine blk_drew ?_ | refine blk_alloc ?_ _)); refine blk_far ?_ NB752_761.out _; (with_reducible repeat (first | refine blk_drewN ?_ _ | refine blk_drew ?_ | refine blk_alloc ?_ _)); refine blk_far ?_ NB752_761.out _; (with_reducible repeat (first | refine blk_drewN ?_ _ | refine blk_drew ?_ | refine blk_alloc ?_ _)); exact BK752.out⟩, ⟨by (with_reducible repeat (first | refine blk_drewN ?_ _ | refine blk_drew ?_ | refine blk_alloc ?_ _)); refine blk_put (cs := #[.int .i64 t756, .int .i64 t757, .slice none 0 0]) ?_ 2 _ rfl; (with_reducible repeat (first | refine blk_drewN ?_ _ | refine blk_drew ?_ | refine blk_alloc ?_ _)); refine blk_put (cs := #[.int .i64 t756, .int .i64 0, .slice none 0 0]) ?_ 1 _ rfl; (with_reducible repeat (first | refine blk_drewN ?_ _ | refine blk_drew ?_ | refine blk_alloc ?_ _)); refine blk_put (cs := #[.int .i64 0, .int .i64 0, .slice none 0 0]) ?_ 0 _ rfl; (with_reducible repeat (first | refine blk_drewN ?_ _ | refine blk_drew ?_ | refine blk_alloc ?_ _)); exact BK761.out⟩, ⟨by repeat (first | (with_reducible first | exact HB.out | apply below_alloc | apply pw_below_drewN | apply below_drew1 | refine below_set ?_ GE751.out | refine below_set ?_ GE752.out | refine below_set ?_ GE761.out) | exact HB.out)⟩⟩
        case round =>
          clear H'
          try clear c1
          try clear c2
          try clear p2
          try clear c3
          try clear c7
          try clear c9
          try clear c10
          try clear c11
          try clear c15
          try clear c19
          try clear c22
          try clear c23
          try clear c25
          try clear c26
          try clear c30
          try clear c31
          try clear hcz12_0
          try clear hcz12_1
          try clear hcz12_2
          try clear hcz14_0
          try clear hcz14_1
          try clear hcz14_2
          try clear hcz16_0
          try clear hcz16_1
          try clear hcz16_2
          try clear hcz18_0
          try clear hcz18_1
          try clear hcz18_2
          try clear hcz20_0
          try clear hcz20_1
          try clear hcz20_2
          try clear hcz24_0
          try clear hcz24_1
          try clear hcz24_2
          try clear hcz27_0
          try clear hcz27_1
          try clear hcz27_2
          try clear hcz32_0
          try clear hcz32_1
          try clear hcz32_2
          try clear hcz34_0
          try clear hcz34_1
          try clear hcz34_2
          try clear hfz12_0
          try clear hfz12_1
          try clear hfz12_2
          try clear hfz14_0
          try clear hfz14_1
          try clear hfz14_2
          try clear hfz16_0
          try clear hfz16_1
          try clear hfz16_2
          try clear hfz18_0
          try clear hfz18_1
          try clear hfz18_2
          try clear hfz20_0
          try clear hfz20_1
          try clear hfz20_2
          try clear hfz24_0
          try clear hfz24_1
          try clear hfz24_2
          try clear hfz27_0
          try clear hfz27_1
          try clear hfz27_2
          try clear hfz32_0
          try clear hfz32_1
          try clear hfz32_2
          try clear hfz34_0
          try clear hfz34_1
          try clear hfz34_2
          try clear p2
          obtain ⟨x36_2, x762002_2, u762002, rfl, HA, HK2, HO_762002, BK751, BK752, BK761, HB⟩ := hrel
          cases gk with
          | zero => exact absurd HA.out (by simp [spec_CellsBelow.l0])
          | succ k2 =>
            have H := HA.out
            clear HA
            simp only [spec_CellsBelow.l0] at H
            by_cases c35 : x36_2 < (l0_2.length : Int)
            · rw [if_pos c35] at H
              have c35b0 : decide (x36_2 < (l0_2.length : Int)) = true := decide_eq_true c35
              clear c35
              by_cases c36 : 0 ≤ x36_2
              · rw [if_pos c36] at H
                have c36b0 : decide (0 ≤ x36_2) = true := decide_eq_true c36
                clear c36
                by_cases c37 : x36_2 < (l0_2.length : Int)
                · rw [if_pos c37] at H
                  have c37b0 : decide (x36_2 < (l0_2.length : Int)) = true := decide_eq_true c37
                  clear c37
                  by_cases c38 : (rd l0_2 x36_2) < a1
                  · rw [if_pos c38] at H
                    have c38b0 : decide ((rd l0_2 x36_2) < a1) = true := decide_eq_true c38
                    clear c38
                    by_cases c39 : x36_2 < (x762002_2.length : Int)
                    · rw [if_pos c39] at H
                      have c39b0 : decide (x36_2 < (x762002_2.length : Int)) = true := decide_eq_true c39
                      clear c39
                      obtain ⟨y763, hy763⟩ : ∃ y_ : List Int, y_ = (x762002_2.set (x36_2 : Int).toNat 1) := ⟨_, rfl⟩
                      replace H : (spec_CellsBelow.l0 k2 a1 l0_2 (l0_2.length : Int) (wrap64 (x36_2 + 1)) t756 t757 y763) = some (r1, r2, r3) := by first | (rw [hy763]; with_reducible exact H) | (have H2_ := (Option.bind_some _ _).symm.trans H; rw [hy763]; with_reducible exact H2_) | (have H2_ := (Option.bind_some _ _).symm.trans H; with_reducible exact H2_) | with_reducible exact H | (rw [hy763]; exact H) | exact H
                      have Ny763 := Aside0.mk hy763
                      clear hy763
                      have H' := Aside0.mk H
                      clear H
                      have p762 : 0 ≤ (x36_2 : Int) := of_decide_eq_true (by first | (with_reducible assumption) | assumption)
                      have q762 : x36_2 < (l0_2.length : Int) := of_decide_eq_true (by first | (with_reducible assumption) | assumption)
                      obtain ⟨ad762, e762, hx762_0⟩ := Kd.at_int HR0_2.out x36_2 p762 q762
                      cases e762
                      replace hx762_0 := (HB.out.cell (World.block_lt_of_cell? w _ hx762_0)).trans hx762_0
                      replace p762 := eq_true p762
                      replace q762 := eq_true q762
                      have hnb41 := NB761_751.out
                      have hnc41 := NB751_761.out
                      have hnb42 := NB761_752.out
                      have hnc42 := NB752_761.out
                      have hcz43_0 : wr.cell? ⟨gb761, 0, none⟩ = some (.int .i64 t756) := (blk_cell BK761.out 0).trans rfl
                      have hcz43_1 : wr.cell? ⟨gb761, 1, none⟩ = some (.int .i64 t757) := (blk_cell BK761.out 1).trans rfl
                      have hcz43_2 : wr.cell? ⟨gb761, 2, none⟩ = some (u762002) := (blk_cell BK761.out 2).trans rfl
                      have hfz43_0 := blk_frozen BK761.out 0
                      have hfz43_1 := blk_frozen BK761.out 1
                      have hfz43_2 := blk_frozen BK761.out 2
                      have p40 : 0 ≤ (x36_2 : Int) := of_decide_eq_true (by first | (with_reducible assumption) | assumption)
                      have q40 : (x36_2 : Int) < ((x762002_2.length : Int) : Int) := of_decide_eq_true (by first | (with_reducible assumption) | assumption)
                      obtain ⟨go40, co40, eo40, gb40, gl40, cl40, HG40⟩ := Kd.R_form HO_762002.out (by omega)
                      (first | cases eo40 | (injection eo40 with ea_ en_ ec_; (first | subst ea_ | (injection ea_ with ea_; subst ea_)); subst ec_; clear en_))
                      have GB40 := Aside0.mk gb40
                      have GG40 := Aside0.mk HG40
                      clear gb40 gl40 HG40
                      obtain ⟨hx40_0, hf40_0⟩ := Kd.R_celln 0 HO_762002.out (x36_2 : Int) p40 q40
                      replace p40 := eq_true p40
                      replace q40 := eq_true q40
                      have HP44 := Kd.R_putg HO_762002.out (x36_2 : Int) 1
                      go_wp2_with (first | ((with_reducible refine gate_store (t := 3) (p := 47) rfl ?_); refine store_event (t := 3) (p := 47) (v := ?vo_w45) (w1 := (wr.setCell ⟨go40, (x36_2 : Int).toNat, none⟩ (.int .i64 1))) ?hg ?ho ?hn ?hr ?_; (case ho => rfl); (case hg => rfl); (case hn => rfl); (case hr => first | (go_simp; done) | (go_simp; rfl)); intro w45 hw; have hg : wr.grownBy w45 (some go40) := (by rw [hw]; exact HP44.2); have hp_ : Kd.R (Kd.int .i64) 3 w45 w.heap.size (fun _ => True) (.slice (some ⟨go40, 0, none⟩) x762002_2.length co40) y763 := (by rw [hw, Ny763.out]; exact HP44.1); clear HP44; have n0_ := Aside0.mk (hp_); have n1_ := Aside0.mk (blk_grown (g := gb751) (o := .cells #[.int .i64 a0_0, .int .i64 a0_1, .slice (some ad762) l0_2.length c0_2] 26 (0, 0)) (by (with_reducible repeat (first | refine blk_drewN ?_ _ | refine blk_drew ?_ | refine blk_alloc ?_ _)); exact BK751.out) hg (Kd.R_ne HO_762002.out BK751.out (by decide))); have n2_ := Aside0.mk (blk_grown (g := gb752) (o := .cells #[.int .i64 0, .int .i64 0, .slice none 0 0] 41 (0, 0)) (by (with_reducible repeat (first | refine blk_drewN ?_ _ | refine blk_drew ?_ | refine blk_alloc ?_ _)); exact BK752.out) hg (Kd.R_ne HO_762002.out BK752.out (by decide))); have n3_ := Aside0.mk (blk_grown (g := gb761) (o := .cells #[.int .i64 t756, .int .i64 t757, .slice (some ⟨go40, 0, none⟩) x762002_2.length co40] 41 (0, 0)) (by (with_reducible repeat (first | refine blk_drewN ?_ _ | refine blk_drew ?_ | refine blk_alloc ?_ _)); exact BK761.out) hg (Kd.R_ne HO_762002.out BK761.out (by decide))); have n4_ := Aside0.mk ((by rw [hw]; exact below_set (HB.out) GB40.out : Below w.heap.size w w45)); clear HO_762002; clear BK751; clear BK752; clear BK761; clear HB; have HO_762002 := n0_; have BK751 := n1_; have BK752 := n2_; have BK761 := n3_; have HB := n4_; clear n0_ n1_ n2_ n3_ n4_; clear hg hw hp_))
                      go_roundg k2
                      case measure => have := HJ2.out; have := HK2.out; omega
                      case rel => exact ⟨(wrap64 (x36_2 + 1)), (y763), (.slice (some ⟨go40, 0, none⟩) x762002_2.length co40), (by first | rfl | (simp; done) | (simp [*]; done)), H', ⟨by have := HJ2.out; have := HK2.out; omega⟩, ⟨by (with_reducible repeat (first | apply Kd.R_alloc | apply Kd.R_drewN | apply Kd.R_drew)); exact HO_762002.out⟩, ⟨by (with_reducible repeat (first | refine blk_drewN ?_ _ | refine blk_drew ?_ | refine blk_alloc ?_ _)); exact BK751.out⟩, ⟨by (with_reducible repeat (first | refine blk_drewN ?_ _ | refine blk_drew ?_ | refine blk_alloc ?_ _)); exact BK752.out⟩, ⟨by (with_reducible repeat (first | refine blk_drewN ?_ _ | refine blk_drew ?_ | refine blk_alloc ?_ _)); exact BK761.out⟩, ⟨by repeat (first | (with_reducible first | exact HB.out | apply below_alloc | apply pw_below_drewN | apply below_drew1 | refine below_set ?_ GE751.out | refine below_set ?_ GE752.out | refine below_set ?_ GE761.out) | exact HB.out)⟩⟩
                    · rw [if_neg c39] at H
                      exact absurd H (by simp)
                  · rw [if_neg c38] at H
                    have c38b0 : decide ((rd l0_2 x36_2) < a1) = false := decide_eq_false c38
                    clear c38
                    have H' := Aside0.mk H
                    clear H
                    have p762 : 0 ≤ (x36_2 : Int) := of_decide_eq_true (by first | (with_reducible assumption) | assumption)
                    have q762 : x36_2 < (l0_2.length : Int) := of_decide_eq_true (by first | (with_reducible assumption) | assumption)
                    obtain ⟨ad762, e762, hx762_0⟩ := Kd.at_int HR0_2.out x36_2 p762 q762
                    cases e762
                    replace hx762_0 := (HB.out.cell (World.block_lt_of_cell? w _ hx762_0)).trans hx762_0
                    replace p762 := eq_true p762
                    replace q762 := eq_true q762
                    go_wp2
                    go_roundg k2
                    case measure => have := HJ2.out; have := HK2.out; omega
                    case rel => exact ⟨(wrap64 (x36_2 + 1)), (x762002_2), (u762002), (by first | rfl | (simp; done) | (simp [*]; done)), H', ⟨by have := HJ2.out; have := HK2.out; omega⟩, ⟨by (with_reducible repeat (first | apply Kd.R_alloc | apply Kd.R_drewN | apply Kd.R_drew)); exact HO_762002.out⟩, ⟨by (with_reducible repeat (first | refine blk_drewN ?_ _ | refine blk_drew ?_ | refine blk_alloc ?_ _)); exact BK751.out⟩, ⟨by (with_reducible repeat (first | refine blk_drewN ?_ _ | refine blk_drew ?_ | refine blk_alloc ?_ _)); exact BK752.out⟩, ⟨by (with_reducible repeat (first | refine blk_drewN ?_ _ | refine blk_drew ?_ | refine blk_alloc ?_ _)); exact BK761.out⟩, ⟨by repeat (first | (with_reducible first | exact HB.out | apply below_alloc | apply pw_below_drewN | apply below_drew1 | refine below_set ?_ GE751.out | refine below_set ?_ GE752.out | refine below_set ?_ GE761.out) | exact HB.out)⟩⟩
                · rw [if_neg c37] at H
                  exact absurd H (by simp)
              · rw [if_neg c36] at H
                exact absurd H (by simp)
            · rw [if_neg c35] at H
              have c35b0 : decide (x36_2 < (l0_2.length : Int)) = false := decide_eq_false c35
              clear c35
              simp only [Option.some.injEq, Prod.mk.injEq] at H
              obtain ⟨rfl, rfl, rfl⟩ := H
              have hnb46 := NB761_751.out
              have hnc46 := NB751_761.out
              have hnb47 := NB761_752.out
              have hnc47 := NB752_761.out
              have hcz48_0 : wr.cell? ⟨gb761, 0, none⟩ = some (.int .i64 t756) := (blk_cell BK761.out 0).trans rfl
              have hcz48_1 : wr.cell? ⟨gb761, 1, none⟩ = some (.int .i64 t757) := (blk_cell BK761.out 1).trans rfl
              have hcz48_2 : wr.cell? ⟨gb761, 2, none⟩ = some (u762002) := (blk_cell BK761.out 2).trans rfl
              have hfz48_0 := blk_frozen BK761.out 0
              have hfz48_1 := blk_frozen BK761.out 1
              have hfz48_2 := blk_frozen BK761.out 2
              have hnb49 := NB752_751.out
              have hnc49 := NB751_752.out
              have hcz50_0 : wr.cell? ⟨gb752, 0, none⟩ = some (.int .i64 0) := (blk_cell BK752.out 0).trans rfl
              have hcz50_1 : wr.cell? ⟨gb752, 1, none⟩ = some (.int .i64 0) := (blk_cell BK752.out 1).trans rfl
              have hcz50_2 : wr.cell? ⟨gb752, 2, none⟩ = some (.slice none 0 0) := (blk_cell BK752.out 2).trans rfl
              have hfz50_0 := blk_frozen BK752.out 0
              have hfz50_1 := blk_frozen BK752.out 1
              have hfz50_2 := blk_frozen BK752.out 2
              obtain ⟨Ao51, co51, eo51⟩ := Kd.R_slice HO_762002.out
              subst eo51
              go_wp2
              refine bodyPost_ret (results_cell_row rfl _ _ gb752 41 #[.int .i64 t756, .int .i64 t757, .slice Ao51 x762002_2.length co51] (0, 0) _ rfl (by (with_reducible repeat (first | refine blk_drewN ?_ _ | refine blk_drew ?_ | refine blk_alloc ?_ _)); refine blk_put (cs := #[.int .i64 t756, .int .i64 t757, .slice none 0 0]) ?_ 2 _ rfl; (with_reducible repeat (first | refine blk_drewN ?_ _ | refine blk_drew ?_ | refine blk_alloc ?_ _)); refine blk_put (cs := #[.int .i64 t756, .int .i64 0, .slice none 0 0]) ?_ 1 _ rfl; (with_reducible repeat (first | refine blk_drewN ?_ _ | refine blk_drew ?_ | refine blk_alloc ?_ _)); refine blk_put (cs := #[.int .i64 0, .int .i64 0, .slice none 0 0]) ?_ 0 _ rfl; (with_reducible repeat (first | refine blk_drewN ?_ _ | refine blk_drew ?_ | refine blk_alloc ?_ _)); exact BK752.out) Try.underlying41 rfl (by kernel_rfl)) rfl ?_
              exact ⟨_, by first | rfl | (simp [errW_none, errW_some] <;> rfl) | (simp [*, errW_none, errW_some] <;> rfl), by (with_reducible repeat (first | apply Kd.R_alloc | apply Kd.R_drewN | apply Kd.R_drew)); exact Kd.R_mono (Kd.R_far (p := ⟨gb752, 2, none⟩) (Kd.R_far (p := ⟨gb752, 1, none⟩) (Kd.R_far (p := ⟨gb752, 0, none⟩) (Kd.R_types HO_762002.out BK752.out (by decide)) (fun _ hk => hk.2) (.int .i64 t756)) (fun _ hk => hk.2) (.int .i64 t757)) (fun _ hk => hk.2) (.slice Ao51 x762002_2.length co51)) (fun _ hk => trivial), by repeat (first | (with_reducible first | exact HB.out | apply below_alloc | apply pw_below_drewN | apply below_drew1 | refine below_set ?_ GE751.out | refine below_set ?_ GE752.out | refine below_set ?_ GE761.out) | exact HB.out)⟩

end Go.Proofs.Ytdlehfnlibddcaa.P
