-- Written by tools/seatprint.py (over the kit's print, changed in memory). Not trusted: Lean checks it.
import Derived.Test.YtdlehfnlibddcaaP0
namespace Go.Proofs.Ytdlehfnlibddcaa.P
open Go.RowKit Go.Proofs.YtdlehfnlibddcaaW.PrintWords Go.Proofs.YtdlehfnlibddcaaW.PrintLast Go.Proofs.YtdlehfnlibddcaaW.PrintMore
attribute [local go_sem] max2_int min2_int max_two min_two max_three min_three max_four min_four   -- for this text's walks alone
set_option linter.unusedVariables false
set_option linter.unusedSimpArgs false

/-! ### laws_below: function 76 -/
def laws_below.l0 : Nat → Int → List Int → Int → Int → Int → Int → List Int → Option (Int × Int × List Int)
  | 0, _, _, _, _, _, _, _ => none
  | k + 1, x1, x14, x15, x16, x1224000, x1224001, x1224002 => if x16 < x15 then (if 0 ≤ x16 then (if x16 < (x14.length : Int) then (if (rd x14 x16) < x1 then (if x1224002.length < 17592186044416 then (laws_below.l0 k x1 x14 x15 (wrap64 (x16 + 1)) x1224000 x1224001 (x1224002 ++ [1])) else (none)) else (if x1224002.length < 17592186044416 then (laws_below.l0 k x1 x14 x15 (wrap64 (x16 + 1)) x1224000 x1224001 (x1224002 ++ [0])) else (none))) else (none)) else (none)) else (some (x1224000, x1224001, x1224002))
def laws_below.f (k : Nat) (a0_0 : Int) (a0_1 : Int) (l0_2 : List Int) (a1 : Int) : Option (Int × Int × List Int) := laws_below.l0 k a1 l0_2 (l0_2.length : Int) 0 a0_0 a0_1 ([] : List Int)
theorem laws_below.mono_l : ∀ k, (∀ y0 y1 y2 y3 y4 y5 y6, LeO (laws_below.l0 k y0 y1 y2 y3 y4 y5 y6) (laws_below.l0 (k + 1) y0 y1 y2 y3 y4 y5 y6))
  | 0 => fun _ _ _ _ _ _ _ r h => by simp [laws_below.l0] at h
  | k + 1 => by
    have ih0 := laws_below.mono_l k
    · intro y0 y1 y2 y3 y4 y5 y6
      unfold laws_below.l0
      repeat' first
      | (with_reducible exact ih0 _ _ _ _ _ _ _)
      | (with_reducible exact LeO.refl _)
      | (with_reducible exact LeO.none _)
      | (with_reducible refine LeO.ite ?_ ?_)
      | (with_reducible refine LeO.bind ?_ (fun _ => ?_))
      | exact ih0 _ _ _ _ _ _ _
      | exact LeO.none _
      | refine LeO.ite ?_ ?_
      | refine LeO.bind ?_ (fun _ => ?_)
theorem laws_below.mono : ∀ a0 a1 a2 a3 k, LeO (laws_below.f k a0 a1 a2 a3) (laws_below.f (k + 1) a0 a1 a2 a3) := by
  intro a0 a1 a2 a3 k
  have ih0 := laws_below.mono_l k
  unfold laws_below.f
  repeat' first
      | (with_reducible exact ih0 _ _ _ _ _ _ _)
      | (with_reducible exact LeO.refl _)
      | (with_reducible exact LeO.none _)
      | (with_reducible refine LeO.ite ?_ ?_)
      | (with_reducible refine LeO.bind ?_ (fun _ => ?_))
      | exact ih0 _ _ _ _ _ _ _
      | exact LeO.none _
      | refine LeO.ite ?_ ?_
      | refine LeO.bind ?_ (fun _ => ?_)
set_option maxHeartbeats 8000000 in
set_option maxRecDepth 100000 in
theorem laws_below.calls (k : Nat) (a0_0 : Int) (a0_1 : Int) (A0_2 : Option Addr) (c0_2 : Nat) (l0_2 : List Int) (a1 : Int) (r1 : Int) (r2 : Int) (r3 : List Int) (w : World) (hr0_2 : Kd.C (Kd.int .i64) w A0_2 l0_2.length l0_2) (hc0_2 : l0_2.length ≤ c0_2) (h : laws_below.f k a0_0 a0_1 l0_2 a1 = some (r1, r2, r3)) :
    Calls Try.prog 76 #[.agg #[.int .i64 a0_0, .int .i64 a0_1, .slice A0_2 l0_2.length c0_2], .int .i64 a1] w fun e w' => ∃ v2_ : Value, e = .returned (.agg #[.int .i64 r1, .int .i64 r2, v2_]) ∧ Kd.R (Kd.int .i64) 3 w' w.heap.size (fun _ => True) v2_ r3 ∧ Below w.heap.size w w' := by
  have hu26 := Try.underlying26
  have hu41 := Try.underlying41
  have HR0_2 := Aside0.mk hr0_2
  have HC0_2 := Aside0.mk hc0_2
  clear hr0_2 hc0_2
  have HB := Aside0.mk (Below.refl w.heap.size w)
  have H : (laws_below.l0 k a1 l0_2 (l0_2.length : Int) 0 a0_0 a0_1 ([] : List Int)) = some (r1, r2, r3) := h
  clear h
  have H' := Aside0.mk H
  clear H
  go_enter Try.func76, Try.ntmps76
  go_wp2_with (first | ((with_reducible refine gate_dst (N := 2) rfl ?_); refine box_event ?hg (N := 2) ?hd (cs := #[.int .i64 a0_0, .int .i64 a0_1, .slice A0_2 l0_2.length c0_2]) (t := 26) ?hr ?_; (case hd => rfl); (case hg => rfl); (case hr => first | (go_simp; done) | (go_simp; rfl)); intro gb1221 hg w3 hbox hb; have n0_ := Aside0.mk (below_step (by repeat (first | (with_reducible first | exact HB.out | apply below_alloc | apply pw_below_drewN | apply below_drew1) | exact HB.out)) hb); have n1_ := Aside0.mk (hbox); have n2_ := Aside0.mk ((by rw [hg]; exact (below_size (by repeat (first | (with_reducible first | exact HB.out | apply below_alloc | apply pw_below_drewN | apply below_drew1) | exact HB.out))) : w.heap.size ≤ gb1221)); have n3_ := Aside0.mk ((by rw [hg]; exact (below_size (by repeat (first | (with_reducible first | exact HB.out | apply below_alloc | apply pw_below_drewN | apply below_drew1) | exact HB.out))) : w.heap.size ≤ gb1221)); clear HB; have HB := n0_; have BK1221 := n1_; have GW1221 := n2_; have GE1221 := n3_; clear n0_ n1_ n2_ n3_; clear hb hbox hg) | ((with_reducible refine gate_dst (N := 4) rfl ?_); refine box_event ?hg (N := 4) ?hd (cs := #[.int .i64 0, .int .i64 0, .slice none 0 0]) (t := 41) ?hr ?_; (case hd => rfl); (case hg => rfl); (case hr => first | (go_simp; done) | (go_simp; rfl)); intro gb1222 hg w4 hbox hb; have n0_ := Aside0.mk (blk_below (g := gb1221) (o := .cells #[.int .i64 a0_0, .int .i64 a0_1, .slice A0_2 l0_2.length c0_2] 26 (0, 0)) (by (with_reducible repeat (first | refine blk_drewN ?_ _ | refine blk_drew ?_ | refine blk_alloc ?_ _)); exact BK1221.out) hb); have n1_ := Aside0.mk (below_step (by repeat (first | (with_reducible first | exact HB.out | apply below_alloc | apply pw_below_drewN | apply below_drew1 | refine below_set ?_ GE1221.out) | exact HB.out)) hb); have n2_ := Aside0.mk (hbox); have n3_ := Aside0.mk ((by rw [hg]; exact (below_size (by repeat (first | (with_reducible first | exact HB.out | apply below_alloc | apply pw_below_drewN | apply below_drew1 | refine below_set ?_ GE1221.out) | exact HB.out))) : w.heap.size ≤ gb1222)); have n4_ := Aside0.mk ((by rw [hg]; exact (below_size (by repeat (first | (with_reducible first | exact HB.out | apply below_alloc | apply pw_below_drewN | apply below_drew1 | refine below_set ?_ GE1221.out) | exact HB.out))) : w.heap.size ≤ gb1222)); have n5_ := Aside0.mk ((by rw [hg]; exact Nat.ne_of_lt (blk_lt (g := gb1221) (o := .cells #[.int .i64 a0_0, .int .i64 a0_1, .slice A0_2 l0_2.length c0_2] 26 (0, 0)) (by (with_reducible repeat (first | refine blk_drewN ?_ _ | refine blk_drew ?_ | refine blk_alloc ?_ _)); exact BK1221.out)) : gb1221 ≠ gb1222)); have n6_ := Aside0.mk ((by rw [hg]; exact Nat.ne_of_gt (blk_lt (g := gb1221) (o := .cells #[.int .i64 a0_0, .int .i64 a0_1, .slice A0_2 l0_2.length c0_2] 26 (0, 0)) (by (with_reducible repeat (first | refine blk_drewN ?_ _ | refine blk_drew ?_ | refine blk_alloc ?_ _)); exact BK1221.out)) : gb1222 ≠ gb1221)); clear BK1221; clear HB; have BK1221 := n0_; have HB := n1_; have BK1222 := n2_; have GW1222 := n3_; have GE1222 := n4_; have NB1221_1222 := n5_; have NB1222_1221 := n6_; clear n0_ n1_ n2_ n3_ n4_ n5_ n6_; clear hb hbox hg; have hnb5 := NB1221_1222.out; have hnc5 := NB1222_1221.out; have hcz6_0 : w4.cell? ⟨gb1221, 0, none⟩ = some (.int .i64 a0_0) := (blk_cell BK1221.out 0).trans rfl; have hcz6_1 : w4.cell? ⟨gb1221, 1, none⟩ = some (.int .i64 a0_1) := (blk_cell BK1221.out 1).trans rfl; have hcz6_2 : w4.cell? ⟨gb1221, 2, none⟩ = some (.slice A0_2 l0_2.length c0_2) := (blk_cell BK1221.out 2).trans rfl; have hfz6_0 := blk_frozen BK1221.out 0; have hfz6_1 := blk_frozen BK1221.out 1; have hfz6_2 := blk_frozen BK1221.out 2) | ((with_reducible refine gate_dst (N := 5) rfl ?_); refine box_event ?hg (N := 5) ?hd (cs := #[.int .i64 0, .int .i64 0, .slice none 0 0]) (t := 41) ?hr ?_; (case hd => rfl); (case hg => rfl); (case hr => first | (go_simp; done) | (go_simp; rfl)); intro gb1223 hg w7 hbox hb; have n0_ := Aside0.mk (blk_below (g := gb1221) (o := .cells #[.int .i64 a0_0, .int .i64 a0_1, .slice A0_2 l0_2.length c0_2] 26 (0, 0)) (by (with_reducible repeat (first | refine blk_drewN ?_ _ | refine blk_drew ?_ | refine blk_alloc ?_ _)); exact BK1221.out) hb); have n1_ := Aside0.mk (blk_below (g := gb1222) (o := .cells #[.int .i64 0, .int .i64 0, .slice none 0 0] 41 (0, 0)) (by (with_reducible repeat (first | refine blk_drewN ?_ _ | refine blk_drew ?_ | refine blk_alloc ?_ _)); exact BK1222.out) hb); have n2_ := Aside0.mk (below_step (by repeat (first | (with_reducible first | exact HB.out | apply below_alloc | apply pw_below_drewN | apply below_drew1 | refine below_set ?_ GE1221.out | refine below_set ?_ GE1222.out) | exact HB.out)) hb); have n3_ := Aside0.mk (hbox); have n4_ := Aside0.mk ((by rw [hg]; exact (below_size (by repeat (first | (with_reducible first | exact HB.out | apply below_alloc | apply pw_below_drewN | apply below_drew1 | refine below_set ?_ GE1221.out | refine below_set ?_ GE1222.out) | exact HB.out))) : w.heap.size ≤ gb1223)); have n5_ := Aside0.mk ((by rw [hg]; exact (below_size (by repeat (first | (with_reducible first | exact HB.out | apply below_alloc | apply pw_below_drewN | apply below_drew1 | refine below_set ?_ GE1221.out | refine below_set ?_ GE1222.out) | exact HB.out))) : w.heap.size ≤ gb1223)); have n6_ := Aside0.mk ((by rw [hg]; exact Nat.ne_of_lt (blk_lt (g := gb1221) (o := .cells #[.int .i64 a0_0, .int .i64 a0_1, .slice A0_2 l0_2.length c0_2] 26 (0, 0)) (by (with_reducible repeat (first | refine blk_drewN ?_ _ | refine blk_drew ?_ | refine blk_alloc ?_ _)); exact BK1221.out)) : gb1221 ≠ gb1223)); have n7_ := Aside0.mk ((by rw [hg]; exact Nat.ne_of_gt (blk_lt (g := gb1221) (o := .cells #[.int .i64 a0_0, .int .i64 a0_1, .slice A0_2 l0_2.length c0_2] 26 (0, 0)) (by (with_reducible repeat (first | refine blk_drewN ?_ _ | refine blk_drew ?_ | refine blk_alloc ?_ _)); exact BK1221.out)) : gb1223 ≠ gb1221)); have n8_ := Aside0.mk ((by rw [hg]; exact Nat.ne_of_lt (blk_lt (g := gb1222) (o := .cells #[.int .i64 0, .int .i64 0, .slice none 0 0] 41 (0, 0)) (by (with_reducible repeat (first | refine blk_drewN ?_ _ | refine blk_drew ?_ | refine blk_alloc ?_ _)); exact BK1222.out)) : gb1222 ≠ gb1223)); have n9_ := Aside0.mk ((by rw [hg]; exact Nat.ne_of_gt (blk_lt (g := gb1222) (o := .cells #[.int .i64 0, .int .i64 0, .slice none 0 0] 41 (0, 0)) (by (with_reducible repeat (first | refine blk_drewN ?_ _ | refine blk_drew ?_ | refine blk_alloc ?_ _)); exact BK1222.out)) : gb1223 ≠ gb1222)); clear BK1221; clear BK1222; clear HB; have BK1221 := n0_; have BK1222 := n1_; have HB := n2_; have BK1223 := n3_; have GW1223 := n4_; have GE1223 := n5_; have NB1221_1223 := n6_; have NB1223_1221 := n7_; have NB1222_1223 := n8_; have NB1223_1222 := n9_; clear n0_ n1_ n2_ n3_ n4_ n5_ n6_ n7_ n8_ n9_; clear hb hbox hg; have hnb8 := NB1223_1221.out; have hnc8 := NB1221_1223.out; have hnb9 := NB1223_1222.out; have hnc9 := NB1222_1223.out; have hcz10_0 : w7.cell? ⟨gb1223, 0, none⟩ = some (.int .i64 0) := (blk_cell BK1223.out 0).trans rfl; have hcz10_1 : w7.cell? ⟨gb1223, 1, none⟩ = some (.int .i64 0) := (blk_cell BK1223.out 1).trans rfl; have hcz10_2 : w7.cell? ⟨gb1223, 2, none⟩ = some (.slice none 0 0) := (blk_cell BK1223.out 2).trans rfl; have hfz10_0 := blk_frozen BK1223.out 0; have hfz10_1 := blk_frozen BK1223.out 1; have hfz10_2 := blk_frozen BK1223.out 2; have hcz11_0 : w7.cell? ⟨gb1221, 0, none⟩ = some (.int .i64 a0_0) := (blk_cell BK1221.out 0).trans rfl; have hcz11_1 : w7.cell? ⟨gb1221, 1, none⟩ = some (.int .i64 a0_1) := (blk_cell BK1221.out 1).trans rfl; have hcz11_2 : w7.cell? ⟨gb1221, 2, none⟩ = some (.slice A0_2 l0_2.length c0_2) := (blk_cell BK1221.out 2).trans rfl; have hfz11_0 := blk_frozen BK1221.out 0; have hfz11_1 := blk_frozen BK1221.out 1; have hfz11_2 := blk_frozen BK1221.out 2))
  go_loopg [16] k (fun kq v16 w' => ∃ (x16_1 : Int) (x1224002_1 : List Int) (u1224002 : Value), v16 = .int .i64 x16_1 ∧ Aside0 (laws_below.l0 kq a1 l0_2 (l0_2.length : Int) x16_1 a0_0 a0_1 x1224002_1 = some (r1, r2, r3)) ∧ Aside0 (kq ≤ k) ∧ Aside0 (Kd.R (Kd.int .i64) 3 w' w.heap.size (fun _ => True) u1224002 x1224002_1) ∧ Aside0 (w'.heap[gb1221]? = some (.cells #[.int .i64 a0_0, .int .i64 a0_1, (.slice A0_2 l0_2.length c0_2)] 26 (0, 0))) ∧ Aside0 (w'.heap[gb1222]? = some (.cells #[.int .i64 0, .int .i64 0, (.slice none 0 0)] 41 (0, 0))) ∧ Aside0 (w'.heap[gb1223]? = some (.cells #[.int .i64 a0_0, .int .i64 a0_1, u1224002] 41 (0, 0))) ∧ Aside0 (Below w.heap.size w w'))
  case atStart => exact ⟨(0), (([] : List Int)), (.slice none 0 0), (by first | rfl | (simp; done) | (simp [*]; done)), H', ⟨Nat.le_refl _⟩, ⟨by first | exact Kd.R_nil _ _ _ _ _ | exact Kd.N_nil _ _ _ _ _ | exact Kd.V_nil _ _ _ _ _ | exact Kd.Q_nil _ _ _ _ _ | exact Kd.S_nil _ _ _ _ _⟩, ⟨by (with_reducible repeat (first | refine blk_drewN ?_ _ | refine blk_drew ?_ | refine blk_alloc ?_ _)); refine blk_far ?_ NB1221_1223.out _; (with_reducible repeat (first | refine blk_drewN ?_ _ | refine blk_drew ?_ | refine blk_alloc ?_ _)); refine blk_far ?_ NB1221_1223.out _; (with_reducible repeat (first | refine blk_drewN ?_ _ | refine blk_drew ?_ | refine blk_alloc ?_ _)); refine blk_far ?_ NB1221_1223.out _; (with_reducible repeat (first | refine blk_drewN ?_ _ | refine blk_drew ?_ | refine blk_alloc ?_ _)); exact BK1221.out⟩, ⟨by (with_reducible repeat (first | refine blk_drewN ?_ _ | refine blk_drew ?_ | refine blk_alloc ?_ _)); refine blk_far ?_ NB1222_1223.out _; (with_reducible repeat (first | refine blk_drewN ?_ _ | refine blk_drew ?_ | refine blk_alloc ?_ _)); refine blk_far ?_ NB1222_1223.out _; (with_reducible repeat (first | refine blk_drewN ?_ _ | refine blk_drew ?_ | refine blk_alloc ?_ _)); refine blk_far ?_ NB1222_1223.out _; (with_reducible repeat (first | refine blk_drewN ?_ _ | refine blk_drew ?_ | refine blk_alloc ?_ _)); exact BK1222.out⟩, ⟨by (with_reducible repeat (first | refine blk_drewN ?_ _ | refine blk_drew ?_ | refine blk_alloc ?_ _)); refine blk_put (cs := #[.int .i64 a0_0, .int .i64 a0_1, .slice none 0 0]) ?_ 2 _ rfl; (with_reducible repeat (first | refine blk_drewN ?_ _ | refine blk_drew ?_ | refine blk_alloc ?_ _)); refine blk_put (cs := #[.int .i64 a0_0, .int .i64 0, .slice none 0 0]) ?_ 1 _ rfl; (with_reducible repeat (first | refine blk_drewN ?_ _ | refine blk_drew ?_ | refine blk_alloc ?_ _)); refine blk_put (cs := #[.int .i64 0, .int .i64 0, .slice none 0 0]) ?_ 0 _ rfl; (with_reducible repeat (first | refine blk_drewN ?_ _ | refine blk_drew ?_ | refine blk_alloc ?_ _)); exact BK1223.out⟩, ⟨by repeat (first | (with_reducible first | exact HB.out | apply below_alloc | apply pw_below_drewN | apply below_drew1 | refine below_set ?_ GE1221.out | refine below_set ?_ GE1222.out | refine below_set ?_ GE1223.out) | exact HB.out)⟩⟩
  case round =>
    clear H'
    try clear p2
    try clear c5
    try clear c7
    try clear c8
    try clear c9
    try clear hcz10_0
    try clear hcz10_1
    try clear hcz10_2
    try clear hcz11_0
    try clear hcz11_1
    try clear hcz11_2
    try clear hcz6_0
    try clear hcz6_1
    try clear hcz6_2
    try clear hfz10_0
    try clear hfz10_1
    try clear hfz10_2
    try clear hfz11_0
    try clear hfz11_1
    try clear hfz11_2
    try clear hfz6_0
    try clear hfz6_1
    try clear hfz6_2
    obtain ⟨x16_1, x1224002_1, u1224002, rfl, HA, HK1, HO_1224002, BK1221, BK1222, BK1223, HB⟩ := hrel
    cases gk with
    | zero => exact absurd HA.out (by simp [laws_below.l0])
    | succ k1 =>
      have H := HA.out
      clear HA
      simp only [laws_below.l0] at H
      by_cases c12 : x16_1 < (l0_2.length : Int)
      · rw [if_pos c12] at H
        have c12b0 : decide (x16_1 < (l0_2.length : Int)) = true := decide_eq_true c12
        clear c12
        by_cases c13 : 0 ≤ x16_1
        · rw [if_pos c13] at H
          have c13b0 : decide (0 ≤ x16_1) = true := decide_eq_true c13
          clear c13
          by_cases c14 : x16_1 < (l0_2.length : Int)
          · rw [if_pos c14] at H
            have c14b0 : decide (x16_1 < (l0_2.length : Int)) = true := decide_eq_true c14
            clear c14
            by_cases c15 : (rd l0_2 x16_1) < a1
            · rw [if_pos c15] at H
              have c15b0 : decide ((rd l0_2 x16_1) < a1) = true := decide_eq_true c15
              clear c15
              by_cases c16 : x1224002_1.length < 17592186044416
              · rw [if_pos c16] at H
                have LMc16 := Aside0.mk c16
                clear c16
                obtain ⟨y1225, hy1225⟩ : ∃ y_ : List Int, y_ = (x1224002_1 ++ [1]) := ⟨_, rfl⟩
                replace H : (laws_below.l0 k1 a1 l0_2 (l0_2.length : Int) (wrap64 (x16_1 + 1)) a0_0 a0_1 y1225) = some (r1, r2, r3) := by first | (rw [hy1225]; with_reducible exact H) | (have H2_ := (Option.bind_some _ _).symm.trans H; rw [hy1225]; with_reducible exact H2_) | (have H2_ := (Option.bind_some _ _).symm.trans H; with_reducible exact H2_) | with_reducible exact H | (rw [hy1225]; exact H) | exact H
                have Ny1225 := Aside0.mk hy1225
                clear hy1225
                have H' := Aside0.mk H
                clear H
                have p1224 : 0 ≤ (x16_1 : Int) := of_decide_eq_true (by first | (with_reducible assumption) | assumption)
                have q1224 : x16_1 < (l0_2.length : Int) := of_decide_eq_true (by first | (with_reducible assumption) | assumption)
                obtain ⟨ad1224, e1224, hx1224_0⟩ := Kd.at_int HR0_2.out x16_1 p1224 q1224
                cases e1224
                replace hx1224_0 := (HB.out.cell (World.block_lt_of_cell? w _ hx1224_0)).trans hx1224_0
                replace p1224 := eq_true p1224
                replace q1224 := eq_true q1224
                have hnb17 := NB1223_1221.out
                have hnc17 := NB1221_1223.out
                have hnb18 := NB1223_1222.out
                have hnc18 := NB1222_1223.out
                have hcz19_0 : wr.cell? ⟨gb1223, 0, none⟩ = some (.int .i64 a0_0) := (blk_cell BK1223.out 0).trans rfl
                have hcz19_1 : wr.cell? ⟨gb1223, 1, none⟩ = some (.int .i64 a0_1) := (blk_cell BK1223.out 1).trans rfl
                have hcz19_2 : wr.cell? ⟨gb1223, 2, none⟩ = some (u1224002) := (blk_cell BK1223.out 2).trans rfl
                have hfz19_0 := blk_frozen BK1223.out 0
                have hfz19_1 := blk_frozen BK1223.out 1
                have hfz19_2 := blk_frozen BK1223.out 2
                go_wp2_with (first | ((with_reducible refine gate_builtin (b := .append) (xs := #[.tmp 24, .tmp 25]) rfl ?_); at_builtin; refine Kd.R_append (Kd.int .i64) (w0 := w) w.heap.size rfl (.tmp 24) (.tmp 25) 24 3 (.int .i64 0) 8 rfl Try.underlying24 info3 rfl (by decide) (by omega) u1224002 x1224002_1 1 [.int .i64 1] (fun _ => True) (fun _ => False) rfl rfl ?aP (fun _ hk => hk.elim) ?aF ?aO ?aB ?aS ?aL ?_; (case aP => exact rfl); (case aB => exact (by repeat (first | (with_reducible first | exact HB.out | apply below_alloc | apply pw_below_drewN | apply below_drew1 | refine below_set ?_ GE1221.out | refine below_set ?_ GE1222.out | refine below_set ?_ GE1223.out) | exact HB.out))); (case aF => exact (fun _ _ => trivial)); (case aO => exact (by (with_reducible repeat (first | apply Kd.R_alloc | apply Kd.R_drewN | apply Kd.R_drew)); exact HO_1224002.out)); (case aS => exact (below_size (by repeat (first | (with_reducible first | exact HB.out | apply below_alloc | apply pw_below_drewN | apply below_drew1 | refine below_set ?_ GE1221.out | refine below_set ?_ GE1222.out | refine below_set ?_ GE1223.out) | exact HB.out)))); (case aL => have := LMc16.out; omega); intro v1226 w20 ho hb hg hat; rw [← Ny1225.out] at ho; have n0_ := Aside0.mk (blk_grown (g := gb1221) (o := .cells #[.int .i64 a0_0, .int .i64 a0_1, .slice (some ad1224) l0_2.length c0_2] 26 (0, 0)) (by (with_reducible repeat (first | refine blk_drewN ?_ _ | refine blk_drew ?_ | refine blk_alloc ?_ _)); exact BK1221.out) hg (Kd.R_ne HO_1224002.out BK1221.out (by decide))); have n1_ := Aside0.mk (blk_grown (g := gb1222) (o := .cells #[.int .i64 0, .int .i64 0, .slice none 0 0] 41 (0, 0)) (by (with_reducible repeat (first | refine blk_drewN ?_ _ | refine blk_drew ?_ | refine blk_alloc ?_ _)); exact BK1222.out) hg (Kd.R_ne HO_1224002.out BK1222.out (by decide))); have n2_ := Aside0.mk (blk_grown (g := gb1223) (o := .cells #[.int .i64 a0_0, .int .i64 a0_1, u1224002] 41 (0, 0)) (by (with_reducible repeat (first | refine blk_drewN ?_ _ | refine blk_drew ?_ | refine blk_alloc ?_ _)); exact BK1223.out) hg (Kd.R_ne HO_1224002.out BK1223.out (by decide))); have n3_ := Aside0.mk (hb); have n4_ := Aside0.mk (ho); clear BK1221; clear BK1222; clear BK1223; clear HB; clear HO_1224002; have BK1221 := n0_; have BK1222 := n1_; have BK1223 := n2_; have HB := n3_; have HO1227 := n4_; clear n0_ n1_ n2_ n3_ n4_; clear ho hb hg hat; obtain ⟨Ao21, co21, eo21⟩ := Kd.R_slice HO1227.out; subst eo21; have hcz22_0 : w20.cell? ⟨gb1223, 0, none⟩ = some (.int .i64 a0_0) := (blk_cell BK1223.out 0).trans rfl; have hcz22_1 : w20.cell? ⟨gb1223, 1, none⟩ = some (.int .i64 a0_1) := (blk_cell BK1223.out 1).trans rfl; have hcz22_2 : w20.cell? ⟨gb1223, 2, none⟩ = some (u1224002) := (blk_cell BK1223.out 2).trans rfl; have hfz22_0 := blk_frozen BK1223.out 0; have hfz22_1 := blk_frozen BK1223.out 1; have hfz22_2 := blk_frozen BK1223.out 2))
                go_roundg k1
                case measure => have := HK1.out; omega
                case rel => exact ⟨(wrap64 (x16_1 + 1)), (y1225), (.slice Ao21 y1225.length co21), (by first | rfl | (simp; done) | (simp [*]; done)), H', ⟨by have := HK1.out; omega⟩, ⟨by (with_reducible repeat (first | apply Kd.R_alloc | apply Kd.R_drewN | apply Kd.R_drew)); exact Kd.R_mono (Kd.R_far (p := ⟨gb1223, 2, none⟩) (Kd.R_types HO1227.out BK1223.out (by decide)) (fun _ hk => hk.2) (.slice Ao21 y1225.length co21)) (fun _ hk => trivial)⟩, ⟨by (with_reducible repeat (first | refine blk_drewN ?_ _ | refine blk_drew ?_ | refine blk_alloc ?_ _)); refine blk_far ?_ NB1221_1223.out _; (with_reducible repeat (first | refine blk_drewN ?_ _ | refine blk_drew ?_ | refine blk_alloc ?_ _)); exact BK1221.out⟩, ⟨by (with_reducible repeat (first | refine blk_drewN ?_ _ | refine blk_drew ?_ | refine blk_alloc ?_ _)); refine blk_far ?_ NB1222_1223.out _; (with_reducible repeat (first | refine blk_drewN ?_ _ | refine blk_drew ?_ | refine blk_alloc ?_ _)); exact BK1222.out⟩, ⟨by (with_reducible repeat (first | refine blk_drewN ?_ _ | refine blk_drew ?_ | refine blk_alloc ?_ _)); refine blk_put (cs := #[.int .i64 a0_0, .int .i64 a0_1, u1224002]) ?_ 2 _ rfl; (with_reducible repeat (first | refine blk_drewN ?_ _ | refine blk_drew ?_ | refine blk_alloc ?_ _)); exact BK1223.out⟩, ⟨by repeat (first | (with_reducible first | exact HB.out | apply below_alloc | apply pw_below_drewN | apply below_drew1 | refine below_set ?_ GE1221.out | refine below_set ?_ GE1222.out | refine below_set ?_ GE1223.out) | exact HB.out)⟩⟩
              · rw [if_neg c16] at H
                exact absurd H (by simp)
            · rw [if_neg c15] at H
              have c15b0 : decide ((rd l0_2 x16_1) < a1) = false := decide_eq_false c15
              clear c15
              by_cases c23 : x1224002_1.length < 17592186044416
              · rw [if_pos c23] at H
                have LMc23 := Aside0.mk c23
                clear c23
                obtain ⟨y1228, hy1228⟩ : ∃ y_ : List Int, y_ = (x1224002_1 ++ [0]) := ⟨_, rfl⟩
                replace H : (laws_below.l0 k1 a1 l0_2 (l0_2.length : Int) (wrap64 (x16_1 + 1)) a0_0 a0_1 y1228) = some (r1, r2, r3) := by first | (rw [hy1228]; with_reducible exact H) | (have H2_ := (Option.bind_some _ _).symm.trans H; rw [hy1228]; with_reducible exact H2_) | (have H2_ := (Option.bind_some _ _).symm.trans H; with_reducible exact H2_) | with_reducible exact H | (rw [hy1228]; exact H) | exact H
                have Ny1228 := Aside0.mk hy1228
                clear hy1228
                have H' := Aside0.mk H
                clear H
                have p1224 : 0 ≤ (x16_1 : Int) := of_decide_eq_true (by first | (with_reducible assumption) | assumption)
                have q1224 : x16_1 < (l0_2.length : Int) := of_decide_eq_true (by first | (with_reducible assumption) | assumption)
                obtain ⟨ad1224, e1224, hx1224_0⟩ := Kd.at_int HR0_2.out x16_1 p1224 q1224
                cases e1224
                replace hx1224_0 := (HB.out.cell (World.block_lt_of_cell? w _ hx1224_0)).trans hx1224_0
                replace p1224 := eq_true p1224
                replace q1224 := eq_true q1224
                have hnb24 := NB1223_1221.out
                have hnc24 := NB1221_1223.out
                have hnb25 := NB1223_1222.out
                have hnc25 := NB1222_1223.out
                have hcz26_0 : wr.cell? ⟨gb1223, 0, none⟩ = some (.int .i64 a0_0) := (blk_cell BK1223.out 0).trans rfl
                have hcz26_1 : wr.cell? ⟨gb1223, 1, none⟩ = some (.int .i64 a0_1) := (blk_cell BK1223.out 1).trans rfl
                have hcz26_2 : wr.cell? ⟨gb1223, 2, none⟩ = some (u1224002) := (blk_cell BK1223.out 2).trans rfl
                have hfz26_0 := blk_frozen BK1223.out 0
                have hfz26_1 := blk_frozen BK1223.out 1
                have hfz26_2 := blk_frozen BK1223.out 2
                go_wp2_with (first | ((with_reducible refine gate_builtin (b := .append) (xs := #[.tmp 29, .tmp 30]) rfl ?_); at_builtin; refine Kd.R_append (Kd.int .i64) (w0 := w) w.heap.size rfl (.tmp 29) (.tmp 30) 24 3 (.int .i64 0) 8 rfl Try.underlying24 info3 rfl (by decide) (by omega) u1224002 x1224002_1 0 [.int .i64 0] (fun _ => True) (fun _ => False) rfl rfl ?aP (fun _ hk => hk.elim) ?aF ?aO ?aB ?aS ?aL ?_; (case aP => exact rfl); (case aB => exact (by repeat (first | (with_reducible first | exact HB.out | apply below_alloc | apply pw_below_drewN | apply below_drew1 | refine below_set ?_ GE1221.out | refine below_set ?_ GE1222.out | refine below_set ?_ GE1223.out) | exact HB.out))); (case aF => exact (fun _ _ => trivial)); (case aO => exact (by (with_reducible repeat (first | apply Kd.R_alloc | apply Kd.R_drewN | apply Kd.R_drew)); exact HO_1224002.out)); (case aS => exact (below_size (by repeat (first | (with_reducible first | exact HB.out | apply below_alloc | apply pw_below_drewN | apply below_drew1 | refine below_set ?_ GE1221.out | refine below_set ?_ GE1222.out | refine below_set ?_ GE1223.out) | exact HB.out)))); (case aL => have := LMc23.out; omega); intro v1229 w27 ho hb hg hat; rw [← Ny1228.out] at ho; have n0_ := Aside0.mk (blk_grown (g := gb1221) (o := .cells #[.int .i64 a0_0, .int .i64 a0_1, .slice (some ad1224) l0_2.length c0_2] 26 (0, 0)) (by (with_reducible repeat (first | refine blk_drewN ?_ _ | refine blk_drew ?_ | refine blk_alloc ?_ _)); exact BK1221.out) hg (Kd.R_ne HO_1224002.out BK1221.out (by decide))); have n1_ := Aside0.mk (blk_grown (g := gb1222) (o := .cells #[.int .i64 0, .int .i64 0, .slice none 0 0] 41 (0, 0)) (by (with_reducible repeat (first | refine blk_drewN ?_ _ | refine blk_drew ?_ | refine blk_alloc ?_ _)); exact BK1222.out) hg (Kd.R_ne HO_1224002.out BK1222.out (by decide))); have n2_ := Aside0.mk (blk_grown (g := gb1223) (o := .cells #[.int .i64 a0_0, .int .i64 a0_1, u1224002] 41 (0, 0)) (by (with_reducible repeat (first | refine blk_drewN ?_ _ | refine blk_drew ?_ | refine blk_alloc ?_ _)); exact BK1223.out) hg (Kd.R_ne HO_1224002.out BK1223.out (by decide))); have n3_ := Aside0.mk (hb); have n4_ := Aside0.mk (ho); clear BK1221; clear BK1222; clear BK1223; clear HB; clear HO_1224002; have BK1221 := n0_; have BK1222 := n1_; have BK1223 := n2_; have HB := n3_; have HO1230 := n4_; clear n0_ n1_ n2_ n3_ n4_; clear ho hb hg hat; obtain ⟨Ao28, co28, eo28⟩ := Kd.R_slice HO1230.out; subst eo28; have hcz29_0 : w27.cell? ⟨gb1223, 0, none⟩ = some (.int .i64 a0_0) := (blk_cell BK1223.out 0).trans rfl; have hcz29_1 : w27.cell? ⟨gb1223, 1, none⟩ = some (.int .i64 a0_1) := (blk_cell BK1223.out 1).trans rfl; have hcz29_2 : w27.cell? ⟨gb1223, 2, none⟩ = some (u1224002) := (blk_cell BK1223.out 2).trans rfl; have hfz29_0 := blk_frozen BK1223.out 0; have hfz29_1 := blk_frozen BK1223.out 1; have hfz29_2 := blk_frozen BK1223.out 2))
                go_roundg k1
                case measure => have := HK1.out; omega
                case rel => exact ⟨(wrap64 (x16_1 + 1)), (y1228), (.slice Ao28 y1228.length co28), (by first | rfl | (simp; done) | (simp [*]; done)), H', ⟨by have := HK1.out; omega⟩, ⟨by (with_reducible repeat (first | apply Kd.R_alloc | apply Kd.R_drewN | apply Kd.R_drew)); exact Kd.R_mono (Kd.R_far (p := ⟨gb1223, 2, none⟩) (Kd.R_types HO1230.out BK1223.out (by decide)) (fun _ hk => hk.2) (.slice Ao28 y1228.length co28)) (fun _ hk => trivial)⟩, ⟨by (with_reducible repeat (first | refine blk_drewN ?_ _ | refine blk_drew ?_ | refine blk_alloc ?_ _)); refine blk_far ?_ NB1221_1223.out _; (with_reducible repeat (first | refine blk_drewN ?_ _ | refine blk_drew ?_ | refine blk_alloc ?_ _)); exact BK1221.out⟩, ⟨by (with_reducible repeat (first | refine blk_drewN ?_ _ | refine blk_drew ?_ | refine blk_alloc ?_ _)); refine blk_far ?_ NB1222_1223.out _; (with_reducible repeat (first | refine blk_drewN ?_ _ | refine blk_drew ?_ | refine blk_alloc ?_ _)); exact BK1222.out⟩, ⟨by (with_reducible repeat (first | refine blk_drewN ?_ _ | refine blk_drew ?_ | refine blk_alloc ?_ _)); refine blk_put (cs := #[.int .i64 a0_0, .int .i64 a0_1, u1224002]) ?_ 2 _ rfl; (with_reducible repeat (first | refine blk_drewN ?_ _ | refine blk_drew ?_ | refine blk_alloc ?_ _)); exact BK1223.out⟩, ⟨by repeat (first | (with_reducible first | exact HB.out | apply below_alloc | apply pw_below_drewN | apply below_drew1 | refine below_set ?_ GE1221.out | refine below_set ?_ GE1222.out | refine below_set ?_ GE1223.out) | exact HB.out)⟩⟩
              · rw [if_neg c23] at H
                exact absurd H (by simp)
          · rw [if_neg c14] at H
            exact absurd H (by simp)
        · rw [if_neg c13] at H
          exact absurd H (by simp)
      · rw [if_neg c12] at H
        have c12b0 : decide (x16_1 < (l0_2.length : Int)) = false := decide_eq_false c12
        clear c12
        simp only [Option.some.injEq, Prod.mk.injEq] at H
        obtain ⟨rfl, rfl, rfl⟩ := H
        have hnb30 := NB1223_1221.out
        have hnc30 := NB1221_1223.out
        have hnb31 := NB1223_1222.out
        have hnc31 := NB1222_1223.out
        have hcz32_0 : wr.cell? ⟨gb1223, 0, none⟩ = some (.int .i64 a0_0) := (blk_cell BK1223.out 0).trans rfl
        have hcz32_1 : wr.cell? ⟨gb1223, 1, none⟩ = some (.int .i64 a0_1) := (blk_cell BK1223.out 1).trans rfl
        have hcz32_2 : wr.cell? ⟨gb1223, 2, none⟩ = some (u1224002) := (blk_cell BK1223.out 2).trans rfl
        have hfz32_0 := blk_frozen BK1223.out 0
        have hfz32_1 := blk_frozen BK1223.out 1
        have hfz32_2 := blk_frozen BK1223.out 2
        have hnb33 := NB1222_1221.out
        have hnc33 := NB1221_1222.out
        have hcz34_0 : wr.cell? ⟨gb1222, 0, none⟩ = some (.int .i64 0) := (blk_cell BK1222.out 0).trans rfl
        have hcz34_1 : wr.cell? ⟨gb1222, 1, none⟩ = some (.int .i64 0) := (blk_cell BK1222.out 1).trans rfl
        have hcz34_2 : wr.cell? ⟨gb1222, 2, none⟩ = some (.slice none 0 0) := (blk_cell BK1222.out 2).trans rfl
        have hfz34_0 := blk_frozen BK1222.out 0
        have hfz34_1 := blk_frozen BK1222.out 1
        have hfz34_2 := blk_frozen BK1222.out 2
        obtain ⟨Ao35, co35, eo35⟩ := Kd.R_slice HO_1224002.out
        subst eo35
        go_wp2
        refine bodyPost_ret (results_cell_row rfl _ _ gb1222 41 #[.int .i64 a0_0, .int .i64 a0_1, .slice Ao35 x1224002_1.length co35] (0, 0) _ rfl (by (with_reducible repeat (first | refine blk_drewN ?_ _ | refine blk_drew ?_ | refine blk_alloc ?_ _)); refine blk_put (cs := #[.int .i64 a0_0, .int .i64 a0_1, .slice none 0 0]) ?_ 2 _ rfl; (with_reducible repeat (first | refine blk_drewN ?_ _ | refine blk_drew ?_ | refine blk_alloc ?_ _)); refine blk_put (cs := #[.int .i64 a0_0, .int .i64 0, .slice none 0 0]) ?_ 1 _ rfl; (with_reducible repeat (first | refine blk_drewN ?_ _ | refine blk_drew ?_ | refine blk_alloc ?_ _)); refine blk_put (cs := #[.int .i64 0, .int .i64 0, .slice none 0 0]) ?_ 0 _ rfl; (with_reducible repeat (first | refine blk_drewN ?_ _ | refine blk_drew ?_ | refine blk_alloc ?_ _)); exact BK1222.out) Try.underlying41 rfl (by kernel_rfl)) rfl ?_
        exact ⟨_, by first | rfl | (simp [errW_none, errW_some] <;> rfl) | (simp [*, errW_none, errW_some] <;> rfl), by (with_reducible repeat (first | apply Kd.R_alloc | apply Kd.R_drewN | apply Kd.R_drew)); exact Kd.R_mono (Kd.R_far (p := ⟨gb1222, 2, none⟩) (Kd.R_far (p := ⟨gb1222, 1, none⟩) (Kd.R_far (p := ⟨gb1222, 0, none⟩) (Kd.R_types HO_1224002.out BK1222.out (by decide)) (fun _ hk => hk.2) (.int .i64 a0_0)) (fun _ hk => hk.2) (.int .i64 a0_1)) (fun _ hk => hk.2) (.slice Ao35 x1224002_1.length co35)) (fun _ hk => trivial), by repeat (first | (with_reducible first | exact HB.out | apply below_alloc | apply pw_below_drewN | apply below_drew1 | refine below_set ?_ GE1221.out | refine below_set ?_ GE1222.out | refine below_set ?_ GE1223.out) | exact HB.out)⟩

end Go.Proofs.Ytdlehfnlibddcaa.P
