-- Written by tools/seatprint.py (over the kit's print, changed in memory). Not trusted: Lean checks it.
import Derived.Test.YtdlehfnlibddcaaP0
import Derived.Test.YtdlehfnlibddcaaFspecIsMatrix
import Derived.Test.YtdlehfnlibddcaaFspecl2Rank
import Derived.Test.YtdlehfnlibddcaaFspecl1Empty
import Derived.Test.YtdlehfnlibddcaaFspecIsPicture
import Derived.Test.YtdlehfnlibddcaaFspecl3Level
namespace Go.Proofs.Ytdlehfnlibddcaa.P
open Go.RowKit Go.Proofs.YtdlehfnlibddcaaW.PrintWords Go.Proofs.YtdlehfnlibddcaaW.PrintLast Go.Proofs.YtdlehfnlibddcaaW.PrintMore
attribute [local go_sem] max2_int min2_int max_two min_two max_three min_three max_four min_four   -- for this text's walks alone
set_option linter.unusedVariables false
set_option linter.unusedSimpArgs false

/-! ### spec_ScreenPicture: function 71 -/
mutual
def spec_ScreenPicture.j0 : Nat → Bool → Int → Int → List Int → Int → Int → List Int → Option (Int × Int × List Int)
  | 0, _, _, _, _, _, _, _ => none
  | k + 1, x15, x1115000, x1115001, x1115002, x1116000, x1116001, x1116002 => if x15 = true then (some (0, 0, ([] : List Int))) else ((spec_l1Empty.f x1116000 x1116001).bind fun bt1119 => (spec_ScreenPicture.l0 k x1116002 (x1116002.length : Int) 0 x1115000 x1115001 x1115002 x1116000 x1116001 x1116002 bt1119.1 bt1119.2.1 bt1119.2.2))
def spec_ScreenPicture.l0 : Nat → List Int → Int → Int → Int → Int → List Int → Int → Int → List Int → Int → Int → List Int → Option (Int × Int × List Int)
  | 0, _, _, _, _, _, _, _, _, _, _, _, _ => none
  | k + 1, x23, x24, x25, x1115000, x1115001, x1115002, x1116000, x1116001, x1116002, x1125000, x1125001, x1125002 => if x25 < x24 then (if 0 ≤ x25 then (if x25 < (x23.length : Int) then (if x1116000 = 0 then (none) else ((spec_l2Rank.f x1115000 x1115001 x1115002 (Int.tmod x25 x1116000) (wrap64 (Int.tdiv x25 x1116000))).bind fun t1126 => ((spec_l3Level.f (x1115002.length : Int) (rd x23 x25)).bind fun t1127 => (if t1126 < t1127 then (if x25 < (x1125002.length : Int) then (spec_ScreenPicture.l0 k x23 x24 (wrap64 (x25 + 1)) x1115000 x1115001 x1115002 x1116000 x1116001 x1116002 x1125000 x1125001 (x1125002.set (x25 : Int).toNat 1)) else (none)) else (spec_ScreenPicture.l0 k x23 x24 (wrap64 (x25 + 1)) x1115000 x1115001 x1115002 x1116000 x1116001 x1116002 x1125000 x1125001 x1125002))))) else (none)) else (none)) else (some (x1125000, x1125001, x1125002))
end
def spec_ScreenPicture.f (k : Nat) (a0_0 : Int) (a0_1 : Int) (l0_2 : List Int) (a1_0 : Int) (a1_1 : Int) (l1_2 : List Int) : Option (Int × Int × List Int) := (spec_IsMatrix.f k a0_0 a0_1 l0_2).bind fun t1117 => (if t1117 = true then ((spec_IsPicture.f k a1_0 a1_1 l1_2).bind fun t1118 => (spec_ScreenPicture.j0 k (!t1118) a0_0 a0_1 l0_2 a1_0 a1_1 l1_2)) else (spec_ScreenPicture.j0 k true a0_0 a0_1 l0_2 a1_0 a1_1 l1_2))
theorem spec_ScreenPicture.mono_l : ∀ k, (∀ y0 y1 y2 y3 y4 y5 y6, LeO (spec_ScreenPicture.j0 k y0 y1 y2 y3 y4 y5 y6) (spec_ScreenPicture.j0 (k + 1) y0 y1 y2 y3 y4 y5 y6)) ∧ (∀ y0 y1 y2 y3 y4 y5 y6 y7 y8 y9 y10 y11, LeO (spec_ScreenPicture.l0 k y0 y1 y2 y3 y4 y5 y6 y7 y8 y9 y10 y11) (spec_ScreenPicture.l0 (k + 1) y0 y1 y2 y3 y4 y5 y6 y7 y8 y9 y10 y11))
  | 0 => ⟨fun _ _ _ _ _ _ _ r h => by simp [spec_ScreenPicture.j0] at h, fun _ _ _ _ _ _ _ _ _ _ _ _ r h => by simp [spec_ScreenPicture.l0] at h⟩
  | k + 1 => by
    obtain ⟨ih0, ih1⟩ := spec_ScreenPicture.mono_l k
    refine ⟨?_, ?_⟩
    · intro y0 y1 y2 y3 y4 y5 y6
      unfold spec_ScreenPicture.j0
      repeat' first
      | (with_reducible exact ih0 _ _ _ _ _ _ _)
      | (with_reducible exact ih1 _ _ _ _ _ _ _ _ _ _ _ _)
      | (with_reducible exact spec_IsMatrix.mono _ _ _ _)
      | (with_reducible exact spec_IsPicture.mono _ _ _ _)
      | (with_reducible exact LeO.refl _)
      | (with_reducible exact LeO.none _)
      | (with_reducible refine LeO.ite ?_ ?_)
      | (with_reducible refine LeO.bind ?_ (fun _ => ?_))
      | exact ih0 _ _ _ _ _ _ _
      | exact ih1 _ _ _ _ _ _ _ _ _ _ _ _
      | exact spec_IsMatrix.mono _ _ _ _
      | exact spec_IsPicture.mono _ _ _ _
      | exact LeO.none _
      | refine LeO.ite ?_ ?_
      | refine LeO.bind ?_ (fun _ => ?_)
    · intro y0 y1 y2 y3 y4 y5 y6 y7 y8 y9 y10 y11
      unfold spec_ScreenPicture.l0
      repeat' first
      | (with_reducible exact ih0 _ _ _ _ _ _ _)
      | (with_reducible exact ih1 _ _ _ _ _ _ _ _ _ _ _ _)
      | (with_reducible exact spec_IsMatrix.mono _ _ _ _)
      | (with_reducible exact spec_IsPicture.mono _ _ _ _)
      | (with_reducible exact LeO.refl _)
      | (with_reducible exact LeO.none _)
      | (with_reducible refine LeO.ite ?_ ?_)
      | (with_reducible refine LeO.bind ?_ (fun _ => ?_))
      | exact ih0 _ _ _ _ _ _ _
      | exact ih1 _ _ _ _ _ _ _ _ _ _ _ _
      | exact spec_IsMatrix.mono _ _ _ _
      | exact spec_IsPicture.mono _ _ _ _
      | exact LeO.none _
      | refine LeO.ite ?_ ?_
      | refine LeO.bind ?_ (fun _ => ?_)
theorem spec_ScreenPicture.mono : ∀ a0 a1 a2 a3 a4 a5 k, LeO (spec_ScreenPicture.f k a0 a1 a2 a3 a4 a5) (spec_ScreenPicture.f (k + 1) a0 a1 a2 a3 a4 a5) := by
  intro a0 a1 a2 a3 a4 a5 k
  obtain ⟨ih0, ih1⟩ := spec_ScreenPicture.mono_l k
  unfold spec_ScreenPicture.f
  repeat' first
      | (with_reducible exact ih0 _ _ _ _ _ _ _)
      | (with_reducible exact ih1 _ _ _ _ _ _ _ _ _ _ _ _)
      | (with_reducible exact spec_IsMatrix.mono _ _ _ _)
      | (with_reducible exact spec_IsPicture.mono _ _ _ _)
      | (with_reducible exact LeO.refl _)
      | (with_reducible exact LeO.none _)
      | (with_reducible refine LeO.ite ?_ ?_)
      | (with_reducible refine LeO.bind ?_ (fun _ => ?_))
      | exact ih0 _ _ _ _ _ _ _
      | exact ih1 _ _ _ _ _ _ _ _ _ _ _ _
      | exact spec_IsMatrix.mono _ _ _ _
      | exact spec_IsPicture.mono _ _ _ _
      | exact LeO.none _
      | refine LeO.ite ?_ ?_
      | refine LeO.bind ?_ (fun _ => ?_)
def spec_ScreenPicture.T7 : Bool × List (List Nat × List Nat) := (true, [([], []), ([], []), ([], []), ([2], [2]), ([1, 3], [1, 3]), ([], []), ([], []), ([6], [6]), ([5, 7], [5, 7]), ([0, 4, 8], [0, 4, 8]), ([], []), ([10], [10]), ([11], [11]), ([], []), ([12, 13, 9], [12, 13]), ([9, 14], [9, 14])])
def spec_ScreenPicture.B7 : List Nat := [0, 0, 0, 4, 14, 0, 0, 64, 224, 511, 0, 1024, 3072, 0, 16383, 32767]
theorem spec_ScreenPicture.tab7 : rtab .any (opsOf Try.f71 7) = spec_ScreenPicture.T7 := by kernel_rfl
theorem spec_ScreenPicture.bits7 : waitsOk spec_ScreenPicture.T7.2 spec_ScreenPicture.B7 = true := by kernel_rfl
set_option maxHeartbeats 8000000 in
set_option maxRecDepth 100000 in
theorem spec_ScreenPicture.calls (k : Nat) (a0_0 : Int) (a0_1 : Int) (A0_2 : Option Addr) (c0_2 : Nat) (l0_2 : List Int) (a1_0 : Int) (a1_1 : Int) (A1_2 : Option Addr) (c1_2 : Nat) (l1_2 : List Int) (r1 : Int) (r2 : Int) (r3 : List Int) (w : World) (hr0_2 : Kd.C (Kd.int .i64) w A0_2 l0_2.length l0_2) (hc0_2 : l0_2.length ≤ c0_2) (hr1_2 : Kd.C (Kd.int .i64) w A1_2 l1_2.length l1_2) (hc1_2 : l1_2.length ≤ c1_2) (h : spec_ScreenPicture.f k a0_0 a0_1 l0_2 a1_0 a1_1 l1_2 = some (r1, r2, r3)) :
    Calls Try.prog 71 #[.agg #[.int .i64 a0_0, .int .i64 a0_1, .slice A0_2 l0_2.length c0_2], .agg #[.int .i64 a1_0, .int .i64 a1_1, .slice A1_2 l1_2.length c1_2]] w fun e w' => ∃ v2_ : Value, e = .returned (.agg #[.int .i64 r1, .int .i64 r2, v2_]) ∧ Kd.R (Kd.int .i64) 3 w' w.heap.size (fun _ => True) v2_ r3 ∧ Below w.heap.size w w' := by
  have hu26 := Try.underlying26
  have hu41 := Try.underlying41
  have HR0_2 := Aside0.mk hr0_2
  have HC0_2 := Aside0.mk hc0_2
  clear hr0_2 hc0_2
  have HR1_2 := Aside0.mk hr1_2
  have HC1_2 := Aside0.mk hc1_2
  clear hr1_2 hc1_2
  have HB := Aside0.mk (Below.refl w.heap.size w)
  have H : ((spec_IsMatrix.f k a0_0 a0_1 l0_2).bind fun t1117 => (if t1117 = true then ((spec_IsPicture.f k a1_0 a1_1 l1_2).bind fun t1118 => (spec_ScreenPicture.j0 k (!t1118) a0_0 a0_1 l0_2 a1_0 a1_1 l1_2)) else (spec_ScreenPicture.j0 k true a0_0 a0_1 l0_2 a1_0 a1_1 l1_2))) = some (r1, r2, r3) := h
  clear h
  have HC3 := Aside0.mk H
  clear H
  go_enter Try.func71, Try.ntmps71
  go_upto_region 1 with (first | ((with_reducible refine gate_dst (N := 2) rfl ?_); refine box_event ?hg (N := 2) ?hd (cs := #[.int .i64 a0_0, .int .i64 a0_1, .slice A0_2 l0_2.length c0_2]) (t := 26) ?hr ?_; (case hd => rfl); (case hg => rfl); (case hr => first | (go_simp; done) | (go_simp; rfl)); intro gb1114 hg w4 hbox hb; have n0_ := Aside0.mk (below_step (by repeat (first | (with_reducible first | exact HB.out | apply below_alloc | apply pw_below_drewN | apply below_drew1) | exact HB.out)) hb); have n1_ := Aside0.mk (hbox); have n2_ := Aside0.mk ((by rw [hg]; exact (below_size (by repeat (first | (with_reducible first | exact HB.out | apply below_alloc | apply pw_below_drewN | apply below_drew1) | exact HB.out))) : w.heap.size ≤ gb1114)); have n3_ := Aside0.mk ((by rw [hg]; exact (below_size (by repeat (first | (with_reducible first | exact HB.out | apply below_alloc | apply pw_below_drewN | apply below_drew1) | exact HB.out))) : w.heap.size ≤ gb1114)); clear HB; have HB := n0_; have BK1114 := n1_; have GW1114 := n2_; have GE1114 := n3_; clear n0_ n1_ n2_ n3_; clear hb hbox hg) | ((with_reducible refine gate_dst (N := 3) rfl ?_); refine box_event ?hg (N := 3) ?hd (cs := #[.int .i64 a1_0, .int .i64 a1_1, .slice A1_2 l1_2.length c1_2]) (t := 41) ?hr ?_; (case hd => rfl); (case hg => rfl); (case hr => first | (go_simp; done) | (go_simp; rfl)); intro gb1115 hg w5 hbox hb; have n0_ := Aside0.mk (blk_below (g := gb1114) (o := .cells #[.int .i64 a0_0, .int .i64 a0_1, .slice A0_2 l0_2.length c0_2] 26 (0, 0)) (by (with_reducible repeat (first | refine blk_drewN ?_ _ | refine blk_drew ?_ | refine blk_alloc ?_ _)); exact BK1114.out) hb); have n1_ := Aside0.mk (below_step (by repeat (first | (with_reducible first | exact HB.out | apply below_alloc | apply pw_below_drewN | apply below_drew1 | refine below_set ?_ GE1114.out) | exact HB.out)) hb); have n2_ := Aside0.mk (hbox); have n3_ := Aside0.mk ((by rw [hg]; exact (below_size (by repeat (first | (with_reducible first | exact HB.out | apply below_alloc | apply pw_below_drewN | apply below_drew1 | refine below_set ?_ GE1114.out) | exact HB.out))) : w.heap.size ≤ gb1115)); have n4_ := Aside0.mk ((by rw [hg]; exact (below_size (by repeat (first | (with_reducible first | exact HB.out | apply below_alloc | apply pw_below_drewN | apply below_drew1 | refine below_set ?_ GE1114.out) | exact HB.out))) : w.heap.size ≤ gb1115)); have n5_ := Aside0.mk ((by rw [hg]; exact Nat.ne_of_lt (blk_lt (g := gb1114) (o := .cells #[.int .i64 a0_0, .int .i64 a0_1, .slice A0_2 l0_2.length c0_2] 26 (0, 0)) (by (with_reducible repeat (first | refine blk_drewN ?_ _ | refine blk_drew ?_ | refine blk_alloc ?_ _)); exact BK1114.out)) : gb1114 ≠ gb1115)); have n6_ := Aside0.mk ((by rw [hg]; exact Nat.ne_of_gt (blk_lt (g := gb1114) (o := .cells #[.int .i64 a0_0, .int .i64 a0_1, .slice A0_2 l0_2.length c0_2] 26 (0, 0)) (by (with_reducible repeat (first | refine blk_drewN ?_ _ | refine blk_drew ?_ | refine blk_alloc ?_ _)); exact BK1114.out)) : gb1115 ≠ gb1114)); clear BK1114; clear HB; have BK1114 := n0_; have HB := n1_; have BK1115 := n2_; have GW1115 := n3_; have GE1115 := n4_; have NB1114_1115 := n5_; have NB1115_1114 := n6_; clear n0_ n1_ n2_ n3_ n4_ n5_ n6_; clear hb hbox hg) | ((with_reducible refine gate_dst (N := 4) rfl ?_); refine box_event ?hg (N := 4) ?hd (cs := #[.int .i64 0, .int .i64 0, .slice none 0 0]) (t := 41) ?hr ?_; (case hd => rfl); (case hg => rfl); (case hr => first | (go_simp; done) | (go_simp; rfl)); intro gb1116 hg w6 hbox hb; have n0_ := Aside0.mk (blk_below (g := gb1114) (o := .cells #[.int .i64 a0_0, .int .i64 a0_1, .slice A0_2 l0_2.length c0_2] 26 (0, 0)) (by (with_reducible repeat (first | refine blk_drewN ?_ _ | refine blk_drew ?_ | refine blk_alloc ?_ _)); exact BK1114.out) hb); have n1_ := Aside0.mk (blk_below (g := gb1115) (o := .cells #[.int .i64 a1_0, .int .i64 a1_1, .slice A1_2 l1_2.length c1_2] 41 (0, 0)) (by (with_reducible repeat (first | refine blk_drewN ?_ _ | refine blk_drew ?_ | refine blk_alloc ?_ _)); exact BK1115.out) hb); have n2_ := Aside0.mk (below_step (by repeat (first | (with_reducible first | exact HB.out | apply below_alloc | apply pw_below_drewN | apply below_drew1 | refine below_set ?_ GE1114.out | refine below_set ?_ GE1115.out) | exact HB.out)) hb); have n3_ := Aside0.mk (hbox); have n4_ := Aside0.mk ((by rw [hg]; exact (below_size (by repeat (first | (with_reducible first | exact HB.out | apply below_alloc | apply pw_below_drewN | apply below_drew1 | refine below_set ?_ GE1114.out | refine below_set ?_ GE1115.out) | exact HB.out))) : w.heap.size ≤ gb1116)); have n5_ := Aside0.mk ((by rw [hg]; exact (below_size (by repeat (first | (with_reducible first | exact HB.out | apply below_alloc | apply pw_below_drewN | apply below_drew1 | refine below_set ?_ GE1114.out | refine below_set ?_ GE1115.out) | exact HB.out))) : w.heap.size ≤ gb1116)); have n6_ := Aside0.mk ((by rw [hg]; exact Nat.ne_of_lt (blk_lt (g := gb1114) (o := .cells #[.int .i64 a0_0, .int .i64 a0_1, .slice A0_2 l0_2.length c0_2] 26 (0, 0)) (by (with_reducible repeat (first | refine blk_drewN ?_ _ | refine blk_drew ?_ | refine blk_alloc ?_ _)); exact BK1114.out)) : gb1114 ≠ gb1116)); have n7_ := Aside0.mk ((by rw [hg]; exact Nat.ne_of_gt (blk_lt (g := gb1114) (o := .cells #[.int .i64 a0_0, .int .i64 a0_1, .slice A0_2 l0_2.length c0_2] 26 (0, 0)) (by (with_reducible repeat (first | refine blk_drewN ?_ _ | refine blk_drew ?_ | refine blk_alloc ?_ _)); exact BK1114.out)) : gb1116 ≠ gb1114)); have n8_ := Aside0.mk ((by rw [hg]; exact Nat.ne_of_lt (blk_lt (g := gb1115) (o := .cells #[.int .i64 a1_0, .int .i64 a1_1, .slice A1_2 l1_2.length c1_2] 41 (0, 0)) (by (with_reducible repeat (first | refine blk_drewN ?_ _ | refine blk_drew ?_ | refine blk_alloc ?_ _)); exact BK1115.out)) : gb1115 ≠ gb1116)); have n9_ := Aside0.mk ((by rw [hg]; exact Nat.ne_of_gt (blk_lt (g := gb1115) (o := .cells #[.int .i64 a1_0, .int .i64 a1_1, .slice A1_2 l1_2.length c1_2] 41 (0, 0)) (by (with_reducible repeat (first | refine blk_drewN ?_ _ | refine blk_drew ?_ | refine blk_alloc ?_ _)); exact BK1115.out)) : gb1116 ≠ gb1115)); clear BK1114; clear BK1115; clear HB; have BK1114 := n0_; have BK1115 := n1_; have HB := n2_; have BK1116 := n3_; have GW1116 := n4_; have GE1116 := n5_; have NB1114_1116 := n6_; have NB1116_1114 := n7_; have NB1115_1116 := n8_; have NB1116_1115 := n9_; clear n0_ n1_ n2_ n3_ n4_ n5_ n6_ n7_ n8_ n9_; clear hb hbox hg))
  (try simp only [Act.put, List.setIfInBounds_toArray, List.set_cons_zero, List.set_cons_succ])
  go_cut [15] (fun v15 wc => ∃ (kq : Nat) (x15_2 : Bool), v15 = .bool x15_2 ∧ Aside0 (spec_ScreenPicture.j0 kq x15_2 a0_0 a0_1 l0_2 a1_0 a1_1 l1_2 = some (r1, r2, r3)) ∧ Aside0 (kq ≤ k) ∧ Aside0 (wc.heap[gb1114]? = some (.cells #[.int .i64 a0_0, .int .i64 a0_1, (.slice A0_2 l0_2.length c0_2)] 26 (0, 0))) ∧ Aside0 (wc.heap[gb1115]? = some (.cells #[.int .i64 a1_0, .int .i64 a1_1, (.slice A1_2 l1_2.length c1_2)] 41 (0, 0))) ∧ Aside0 (wc.heap[gb1116]? = some (.cells #[.int .i64 0, .int .i64 0, (.slice none 0 0)] 41 (0, 0))) ∧ Aside0 (Below w.heap.size w wc))
  case first =>
    have H := HC3.out
    clear HC3
    replace H := Option.bind_eq_some_iff.mp H
    obtain ⟨t1117, A70, H⟩ := H
    replace H : (if t1117 = true then ((spec_IsPicture.f k a1_0 a1_1 l1_2).bind fun t1118 => (spec_ScreenPicture.j0 k (!t1118) a0_0 a0_1 l0_2 a1_0 a1_1 l1_2)) else (spec_ScreenPicture.j0 k true a0_0 a0_1 l0_2 a1_0 a1_1 l1_2)) = some (r1, r2, r3) := H
    have A7 := Aside0.mk A70
    clear A70
    by_cases c8 : t1117 = true
    · subst c8
      have H1 : ((spec_IsPicture.f k a1_0 a1_1 l1_2).bind fun t1118 => (spec_ScreenPicture.j0 k (!t1118) a0_0 a0_1 l0_2 a1_0 a1_1 l1_2)) = some (r1, r2, r3) := by rw [if_pos rfl] at H; exact H
      clear H
      have H := H1
      clear H1
      replace H := Option.bind_eq_some_iff.mp H
      obtain ⟨t1118, A90, H⟩ := H
      replace H : (spec_ScreenPicture.j0 k (!t1118) a0_0 a0_1 l0_2 a1_0 a1_1 l1_2) = some (r1, r2, r3) := H
      have A9 := Aside0.mk A90
      clear A90
      have H' := Aside0.mk H
      clear H
      have hnb10 := NB1114_1115.out
      have hnc10 := NB1115_1114.out
      have hnb11 := NB1114_1116.out
      have hnc11 := NB1116_1114.out
      have hcz12_0 : w6.cell? ⟨gb1114, 0, none⟩ = some (.int .i64 a0_0) := (blk_cell BK1114.out 0).trans rfl
      have hcz12_1 : w6.cell? ⟨gb1114, 1, none⟩ = some (.int .i64 a0_1) := (blk_cell BK1114.out 1).trans rfl
      have hcz12_2 : w6.cell? ⟨gb1114, 2, none⟩ = some (.slice A0_2 l0_2.length c0_2) := (blk_cell BK1114.out 2).trans rfl
      have hfz12_0 := blk_frozen BK1114.out 0
      have hfz12_1 := blk_frozen BK1114.out 1
      have hfz12_2 := blk_frozen BK1114.out 2
      go_wp2_with (first | ((with_reducible refine gate_callee (f := 25) rfl ?_); refine goesL_ (some 9) rfl rfl Try.func25 (by kernel_rfl) rfl #[.agg #[.int .i64 a0_0, .int .i64 a0_1, .slice A0_2 l0_2.length c0_2]] rfl (by (try simp only [List.map_toArray, List.map_cons, List.map_nil]); first | done | rfl | (simp only [List.length_drop, List.length_take]; rfl)) ?_; (with_reducible refine (spec_IsMatrix.calls k a0_0 a0_1 _ _ l0_2 true _ ?side1 ?side2 A7.out).mono ?_); (case side1 => repeat (first | exact (Kd.C_below HR0_2.out HB.out) | (with_reducible refine Kd.C_alloc ?_ _) | (with_reducible refine Kd.C_drewN ?_ _) | (with_reducible refine Kd.C_drew ?_))); (case side2 => exact HC0_2.out); rintro e w13 ⟨rfl, hb⟩; refine ⟨_, rfl, ?_⟩; have n0_ := Aside0.mk (blk_below (g := gb1114) (o := .cells #[.int .i64 a0_0, .int .i64 a0_1, .slice A0_2 l0_2.length c0_2] 26 (0, 0)) (by (with_reducible repeat (first | refine blk_drewN ?_ _ | refine blk_drew ?_ | refine blk_alloc ?_ _)); exact BK1114.out) hb); have n1_ := Aside0.mk (blk_below (g := gb1115) (o := .cells #[.int .i64 a1_0, .int .i64 a1_1, .slice A1_2 l1_2.length c1_2] 41 (0, 0)) (by (with_reducible repeat (first | refine blk_drewN ?_ _ | refine blk_drew ?_ | refine blk_alloc ?_ _)); exact BK1115.out) hb); have n2_ := Aside0.mk (blk_below (g := gb1116) (o := .cells #[.int .i64 0, .int .i64 0, .slice none 0 0] 41 (0, 0)) (by (with_reducible repeat (first | refine blk_drewN ?_ _ | refine blk_drew ?_ | refine blk_alloc ?_ _)); exact BK1116.out) hb); have n3_ := Aside0.mk (below_step (by repeat (first | (with_reducible first | exact HB.out | apply below_alloc | apply pw_below_drewN | apply below_drew1 | refine below_set ?_ GE1114.out | refine below_set ?_ GE1115.out | refine below_set ?_ GE1116.out) | exact HB.out)) hb); clear BK1114; clear BK1115; clear BK1116; clear HB; have BK1114 := n0_; have BK1115 := n1_; have BK1116 := n2_; have HB := n3_; clear n0_ n1_ n2_ n3_; (try clear hb); (try clear hb2); (try clear hk); (try clear hi); have hnb14 := NB1115_1116.out; have hnc14 := NB1116_1115.out; have hcz15_0 : w13.cell? ⟨gb1115, 0, none⟩ = some (.int .i64 a1_0) := (blk_cell BK1115.out 0).trans rfl; have hcz15_1 : w13.cell? ⟨gb1115, 1, none⟩ = some (.int .i64 a1_1) := (blk_cell BK1115.out 1).trans rfl; have hcz15_2 : w13.cell? ⟨gb1115, 2, none⟩ = some (.slice A1_2 l1_2.length c1_2) := (blk_cell BK1115.out 2).trans rfl; have hfz15_0 := blk_frozen BK1115.out 0; have hfz15_1 := blk_frozen BK1115.out 1; have hfz15_2 := blk_frozen BK1115.out 2) | (go_at_call 106; (with_reducible refine (spec_IsPicture.calls k a1_0 a1_1 _ _ l1_2 t1118 _ ?side1 ?side2 A9.out).mono ?_); (case side1 => repeat (first | exact (Kd.C_below HR1_2.out HB.out) | (with_reducible refine Kd.C_alloc ?_ _) | (with_reducible refine Kd.C_drewN ?_ _) | (with_reducible refine Kd.C_drew ?_))); (case side2 => exact HC1_2.out); rintro e w16 ⟨rfl, hb⟩; have n0_ := Aside0.mk (blk_below (g := gb1114) (o := .cells #[.int .i64 a0_0, .int .i64 a0_1, .slice A0_2 l0_2.length c0_2] 26 (0, 0)) (by (with_reducible repeat (first | refine blk_drewN ?_ _ | refine blk_drew ?_ | refine blk_alloc ?_ _)); exact BK1114.out) hb); have n1_ := Aside0.mk (blk_below (g := gb1115) (o := .cells #[.int .i64 a1_0, .int .i64 a1_1, .slice A1_2 l1_2.length c1_2] 41 (0, 0)) (by (with_reducible repeat (first | refine blk_drewN ?_ _ | refine blk_drew ?_ | refine blk_alloc ?_ _)); exact BK1115.out) hb); have n2_ := Aside0.mk (blk_below (g := gb1116) (o := .cells #[.int .i64 0, .int .i64 0, .slice none 0 0] 41 (0, 0)) (by (with_reducible repeat (first | refine blk_drewN ?_ _ | refine blk_drew ?_ | refine blk_alloc ?_ _)); exact BK1116.out) hb); have n3_ := Aside0.mk (below_step (by repeat (first | (with_reducible first | exact HB.out | apply below_alloc | apply pw_below_drewN | apply below_drew1 | refine below_set ?_ GE1114.out | refine below_set ?_ GE1115.out | refine below_set ?_ GE1116.out) | exact HB.out)) hb); clear BK1114; clear BK1115; clear BK1116; clear HB; have BK1114 := n0_; have BK1115 := n1_; have BK1116 := n2_; have HB := n3_; clear n0_ n1_ n2_ n3_; (try clear hb); (try clear hb2); (try clear hk); (try clear hi)))
      go_meet
      case rel => exact ⟨_, (!t1118), (by first | rfl | (simp; done) | (simp [*]; done)), H', ⟨by first | omega | exact Nat.le_refl _⟩, ⟨by (with_reducible repeat (first | refine blk_drewN ?_ _ | refine blk_drew ?_ | refine blk_alloc ?_ _)); exact BK1114.out⟩, ⟨by (with_reducible repeat (first | refine blk_drewN ?_ _ | refine blk_drew ?_ | refine blk_alloc ?_ _)); exact BK1115.out⟩, ⟨by (with_reducible repeat (first | refine blk_drewN ?_ _ | refine blk_drew ?_ | refine blk_alloc ?_ _)); exact BK1116.out⟩, ⟨by repeat (first | (with_reducible first | exact HB.out | apply below_alloc | apply pw_below_drewN | apply below_drew1 | refine below_set ?_ GE1114.out | refine below_set ?_ GE1115.out | refine below_set ?_ GE1116.out) | exact HB.out)⟩⟩
    · replace c8 := Bool.eq_false_iff.mpr c8
      subst c8
      have H1 : (spec_ScreenPicture.j0 k true a0_0 a0_1 l0_2 a1_0 a1_1 l1_2) = some (r1, r2, r3) := by rw [if_neg (show ¬ (false = true) by decide)] at H; exact H
      clear H
      have H := H1
      clear H1
      have H' := Aside0.mk H
      clear H
      have hnb17 := NB1114_1115.out
      have hnc17 := NB1115_1114.out
      have hnb18 := NB1114_1116.out
      have hnc18 := NB1116_1114.out
      have hcz19_0 : w6.cell? ⟨gb1114, 0, none⟩ = some (.int .i64 a0_0) := (blk_cell BK1114.out 0).trans rfl
      have hcz19_1 : w6.cell? ⟨gb1114, 1, none⟩ = some (.int .i64 a0_1) := (blk_cell BK1114.out 1).trans rfl
      have hcz19_2 : w6.cell? ⟨gb1114, 2, none⟩ = some (.slice A0_2 l0_2.length c0_2) := (blk_cell BK1114.out 2).trans rfl
      have hfz19_0 := blk_frozen BK1114.out 0
      have hfz19_1 := blk_frozen BK1114.out 1
      have hfz19_2 := blk_frozen BK1114.out 2
      go_wp2_with (first | ((with_reducible refine gate_callee (f := 25) rfl ?_); refine goesL_ (some 9) rfl rfl Try.func25 (by kernel_rfl) rfl #[.agg #[.int .i64 a0_0, .int .i64 a0_1, .slice A0_2 l0_2.length c0_2]] rfl (by (try simp only [List.map_toArray, List.map_cons, List.map_nil]); first | done | rfl | (simp only [List.length_drop, List.length_take]; rfl)) ?_; (with_reducible refine (spec_IsMatrix.calls k a0_0 a0_1 _ _ l0_2 false _ ?side1 ?side2 A7.out).mono ?_); (case side1 => repeat (first | exact (Kd.C_below HR0_2.out HB.out) | (with_reducible refine Kd.C_alloc ?_ _) | (with_reducible refine Kd.C_drewN ?_ _) | (with_reducible refine Kd.C_drew ?_))); (case side2 => exact HC0_2.out); rintro e w20 ⟨rfl, hb⟩; refine ⟨_, rfl, ?_⟩; have n0_ := Aside0.mk (blk_below (g := gb1114) (o := .cells #[.int .i64 a0_0, .int .i64 a0_1, .slice A0_2 l0_2.length c0_2] 26 (0, 0)) (by (with_reducible repeat (first | refine blk_drewN ?_ _ | refine blk_drew ?_ | refine blk_alloc ?_ _)); exact BK1114.out) hb); have n1_ := Aside0.mk (blk_below (g := gb1115) (o := .cells #[.int .i64 a1_0, .int .i64 a1_1, .slice A1_2 l1_2.length c1_2] 41 (0, 0)) (by (with_reducible repeat (first | refine blk_drewN ?_ _ | refine blk_drew ?_ | refine blk_alloc ?_ _)); exact BK1115.out) hb); have n2_ := Aside0.mk (blk_below (g := gb1116) (o := .cells #[.int .i64 0, .int .i64 0, .slice none 0 0] 41 (0, 0)) (by (with_reducible repeat (first | refine blk_drewN ?_ _ | refine blk_drew ?_ | refine blk_alloc ?_ _)); exact BK1116.out) hb); have n3_ := Aside0.mk (below_step (by repeat (first | (with_reducible first | exact HB.out | apply below_alloc | apply pw_below_drewN | apply below_drew1 | refine below_set ?_ GE1114.out | refine below_set ?_ GE1115.out | refine below_set ?_ GE1116.out) | exact HB.out)) hb); clear BK1114; clear BK1115; clear BK1116; clear HB; have BK1114 := n0_; have BK1115 := n1_; have BK1116 := n2_; have HB := n3_; clear n0_ n1_ n2_ n3_; (try clear hb); (try clear hb2); (try clear hk); (try clear hi)))
      go_meet
      case rel => exact ⟨_, (true), (by first | rfl | (simp; done) | (simp [*]; done)), H', ⟨by first | omega | exact Nat.le_refl _⟩, ⟨by (with_reducible repeat (first | refine blk_drewN ?_ _ | refine blk_drew ?_ | refine blk_alloc ?_ _)); exact BK1114.out⟩, ⟨by (with_reducible repeat (first | refine blk_drewN ?_ _ | refine blk_drew ?_ | refine blk_alloc ?_ _)); exact BK1115.out⟩, ⟨by (with_reducible repeat (first | refine blk_drewN ?_ _ | refine blk_drew ?_ | refine blk_alloc ?_ _)); exact BK1116.out⟩, ⟨by repeat (first | (with_reducible first | exact HB.out | apply below_alloc | apply pw_below_drewN | apply below_drew1 | refine below_set ?_ GE1114.out | refine below_set ?_ GE1115.out | refine below_set ?_ GE1116.out) | exact HB.out)⟩⟩
  case rest =>
    clear HC3
    try clear c1
    try clear c2
    try clear p2
    try clear c7
    try clear c8
    try clear c10
    try clear c11
    try clear c14
    try clear c17
    try clear c18
    try clear hcz12_0
    try clear hcz12_1
    try clear hcz12_2
    try clear hcz15_0
    try clear hcz15_1
    try clear hcz15_2
    try clear hcz19_0
    try clear hcz19_1
    try clear hcz19_2
    try clear hfz12_0
    try clear hfz12_1
    try clear hfz12_2
    try clear hfz15_0
    try clear hfz15_1
    try clear hfz15_2
    try clear hfz19_0
    try clear hfz19_1
    try clear hfz19_2
    obtain ⟨kq, x15_2, rfl, HA, HJ2, BK1114, BK1115, BK1116, HB⟩ := hcut
    cases kq with
    | zero => exact absurd HA.out (by simp [spec_ScreenPicture.j0])
    | succ kj2 =>
      have H := HA.out
      clear HA
      simp only [spec_ScreenPicture.j0] at H
      by_cases c21 : x15_2 = true
      · subst c21
        have H1 : (some (0, 0, ([] : List Int))) = some (r1, r2, r3) := by rw [if_pos rfl] at H; exact H
        clear H
        have H := H1
        clear H1
        simp only [Option.some.injEq, Prod.mk.injEq] at H
        obtain ⟨rfl, rfl, rfl⟩ := H
        have hnb22 := NB1116_1114.out
        have hnc22 := NB1114_1116.out
        have hnb23 := NB1116_1115.out
        have hnc23 := NB1115_1116.out
        have hcz24_0 : wc.cell? ⟨gb1116, 0, none⟩ = some (.int .i64 0) := (blk_cell BK1116.out 0).trans rfl
        have hcz24_1 : wc.cell? ⟨gb1116, 1, none⟩ = some (.int .i64 0) := (blk_cell BK1116.out 1).trans rfl
        have hcz24_2 : wc.cell? ⟨gb1116, 2, none⟩ = some (.slice none 0 0) := (blk_cell BK1116.out 2).trans rfl
        have hfz24_0 := blk_frozen BK1116.out 0
        have hfz24_1 := blk_frozen BK1116.out 1
        have hfz24_2 := blk_frozen BK1116.out 2
        go_wp2
        refine bodyPost_ret (results_cell_row rfl _ _ gb1116 41 #[.int .i64 0, .int .i64 0, .slice none 0 0] (0, 0) _ rfl (by (with_reducible repeat (first | refine blk_drewN ?_ _ | refine blk_drew ?_ | refine blk_alloc ?_ _)); refine blk_put (cs := #[.int .i64 0, .int .i64 0, .slice none 0 0]) ?_ 2 _ rfl; (with_reducible repeat (first | refine blk_drewN ?_ _ | refine blk_drew ?_ | refine blk_alloc ?_ _)); refine blk_put (cs := #[.int .i64 0, .int .i64 0, .slice none 0 0]) ?_ 1 _ rfl; (with_reducible repeat (first | refine blk_drewN ?_ _ | refine blk_drew ?_ | refine blk_alloc ?_ _)); refine blk_put (cs := #[.int .i64 0, .int .i64 0, .slice none 0 0]) ?_ 0 _ rfl; (with_reducible repeat (first | refine blk_drewN ?_ _ | refine blk_drew ?_ | refine blk_alloc ?_ _)); exact BK1116.out) Try.underlying41 rfl (by kernel_rfl)) rfl ?_
        exact ⟨_, by first | rfl | (simp [errW_none, errW_some] <;> rfl) | (simp [*, errW_none, errW_some] <;> rfl), by first | exact Kd.R_nil _ _ _ _ _ | exact Kd.N_nil _ _ _ _ _ | exact Kd.V_nil _ _ _ _ _ | exact Kd.Q_nil _ _ _ _ _ | exact Kd.S_nil _ _ _ _ _, by repeat (first | (with_reducible first | exact HB.out | apply below_alloc | apply pw_below_drewN | apply below_drew1 | refine below_set ?_ GE1114.out | refine below_set ?_ GE1115.out | refine below_set ?_ GE1116.out) | exact HB.out)⟩
      · replace c21 := Bool.eq_false_iff.mpr c21
        subst c21
        have H1 : ((spec_l1Empty.f a1_0 a1_1).bind fun bt1119 => (spec_ScreenPicture.l0 kj2 l1_2 (l1_2.length : Int) 0 a0_0 a0_1 l0_2 a1_0 a1_1 l1_2 bt1119.1 bt1119.2.1 bt1119.2.2)) = some (r1, r2, r3) := by rw [if_neg (show ¬ (false = true) by decide)] at H; exact H
        clear H
        have H := H1
        clear H1
        replace H := Option.bind_eq_some_iff.mp H
        obtain ⟨⟨t1119, t1120, t1121⟩, A250, H⟩ := H
        replace H : (spec_ScreenPicture.l0 kj2 l1_2 (l1_2.length : Int) 0 a0_0 a0_1 l0_2 a1_0 a1_1 l1_2 t1119 t1120 t1121) = some (r1, r2, r3) := H
        have A25 := Aside0.mk A250
        clear A250
        have H' := Aside0.mk H
        clear H
        have hnb26 := NB1115_1114.out
        have hnc26 := NB1114_1115.out
        have hnb27 := NB1115_1116.out
        have hnc27 := NB1116_1115.out
        have hcz28_0 : wc.cell? ⟨gb1115, 0, none⟩ = some (.int .i64 a1_0) := (blk_cell BK1115.out 0).trans rfl
        have hcz28_1 : wc.cell? ⟨gb1115, 1, none⟩ = some (.int .i64 a1_1) := (blk_cell BK1115.out 1).trans rfl
        have hcz28_2 : wc.cell? ⟨gb1115, 2, none⟩ = some (.slice A1_2 l1_2.length c1_2) := (blk_cell BK1115.out 2).trans rfl
        have hfz28_0 := blk_frozen BK1115.out 0
        have hfz28_1 := blk_frozen BK1115.out 1
        have hfz28_2 := blk_frozen BK1115.out 2
        go_wp2_with (first | ((with_reducible refine gate_callee (f := 104) rfl ?_); refine goesL_ (some 21) rfl rfl Try.func104 (by kernel_rfl) rfl #[.int .i64 a1_0, .int .i64 a1_1] rfl (by (try simp only [List.map_toArray, List.map_cons, List.map_nil]); first | done | rfl | (simp only [List.length_drop, List.length_take]; rfl)) ?_; (with_reducible refine (spec_l1Empty.calls a1_0 a1_1 t1119 t1120 t1121 _ A25.out).mono ?_); rintro e w29 ⟨v1122, rfl, ho0, hb⟩; refine ⟨_, rfl, ?_⟩; have n0_ := Aside0.mk (Kd.R_lower ho0 (below_size (by repeat (first | (with_reducible first | exact HB.out | apply below_alloc | apply pw_below_drewN | apply below_drew1 | refine below_set ?_ GE1114.out | refine below_set ?_ GE1115.out | refine below_set ?_ GE1116.out) | exact HB.out)))); have n1_ := Aside0.mk (blk_below (g := gb1114) (o := .cells #[.int .i64 a0_0, .int .i64 a0_1, .slice A0_2 l0_2.length c0_2] 26 (0, 0)) (by (with_reducible repeat (first | refine blk_drewN ?_ _ | refine blk_drew ?_ | refine blk_alloc ?_ _)); exact BK1114.out) hb); have n2_ := Aside0.mk (blk_below (g := gb1115) (o := .cells #[.int .i64 a1_0, .int .i64 a1_1, .slice A1_2 l1_2.length c1_2] 41 (0, 0)) (by (with_reducible repeat (first | refine blk_drewN ?_ _ | refine blk_drew ?_ | refine blk_alloc ?_ _)); exact BK1115.out) hb); have n3_ := Aside0.mk (blk_below (g := gb1116) (o := .cells #[.int .i64 0, .int .i64 0, .slice none 0 0] 41 (0, 0)) (by (with_reducible repeat (first | refine blk_drewN ?_ _ | refine blk_drew ?_ | refine blk_alloc ?_ _)); exact BK1116.out) hb); have n4_ := Aside0.mk (below_step (by repeat (first | (with_reducible first | exact HB.out | apply below_alloc | apply pw_below_drewN | apply below_drew1 | refine below_set ?_ GE1114.out | refine below_set ?_ GE1115.out | refine below_set ?_ GE1116.out) | exact HB.out)) hb); clear BK1114; clear BK1115; clear BK1116; clear HB; have HO1123 := n0_; have BK1114 := n1_; have BK1115 := n2_; have BK1116 := n3_; have HB := n4_; clear n0_ n1_ n2_ n3_ n4_; (try clear hb); (try clear hb2); (try clear hk); (try clear hi); (try clear ho0)) | ((with_reducible refine gate_dst (N := 5) rfl ?_); refine box_event ?hg (N := 5) ?hd (cs := #[.int .i64 0, .int .i64 0, .slice none 0 0]) (t := 41) ?hr ?_; (case hd => rfl); (case hg => rfl); (case hr => first | (go_simp; done) | (go_simp; rfl)); intro gb1124 hg w30 hbox hb; have n0_ := Aside0.mk (Kd.R_below (by (with_reducible repeat (first | apply Kd.R_alloc | apply Kd.R_drewN | apply Kd.R_drew)); exact HO1123.out) hb); have n1_ := Aside0.mk (blk_below (g := gb1114) (o := .cells #[.int .i64 a0_0, .int .i64 a0_1, .slice A0_2 l0_2.length c0_2] 26 (0, 0)) (by (with_reducible repeat (first | refine blk_drewN ?_ _ | refine blk_drew ?_ | refine blk_alloc ?_ _)); exact BK1114.out) hb); have n2_ := Aside0.mk (blk_below (g := gb1115) (o := .cells #[.int .i64 a1_0, .int .i64 a1_1, .slice A1_2 l1_2.length c1_2] 41 (0, 0)) (by (with_reducible repeat (first | refine blk_drewN ?_ _ | refine blk_drew ?_ | refine blk_alloc ?_ _)); exact BK1115.out) hb); have n3_ := Aside0.mk (blk_below (g := gb1116) (o := .cells #[.int .i64 0, .int .i64 0, .slice none 0 0] 41 (0, 0)) (by (with_reducible repeat (first | refine blk_drewN ?_ _ | refine blk_drew ?_ | refine blk_alloc ?_ _)); exact BK1116.out) hb); have n4_ := Aside0.mk (below_step (by repeat (first | (with_reducible first | exact HB.out | apply below_alloc | apply pw_below_drewN | apply below_drew1 | refine below_set ?_ GE1114.out | refine below_set ?_ GE1115.out | refine below_set ?_ GE1116.out) | exact HB.out)) hb); have n5_ := Aside0.mk (hbox); have n6_ := Aside0.mk ((by rw [hg]; exact (below_size (by repeat (first | (with_reducible first | exact HB.out | apply below_alloc | apply pw_below_drewN | apply below_drew1 | refine below_set ?_ GE1114.out | refine below_set ?_ GE1115.out | refine below_set ?_ GE1116.out) | exact HB.out))) : w.heap.size ≤ gb1124)); have n7_ := Aside0.mk ((by rw [hg]; exact (below_size (by repeat (first | (with_reducible first | exact HB.out | apply below_alloc | apply pw_below_drewN | apply below_drew1 | refine below_set ?_ GE1114.out | refine below_set ?_ GE1115.out | refine below_set ?_ GE1116.out) | exact HB.out))) : w.heap.size ≤ gb1124)); have n8_ := Aside0.mk ((by rw [hg]; exact Nat.ne_of_lt (blk_lt (g := gb1114) (o := .cells #[.int .i64 a0_0, .int .i64 a0_1, .slice A0_2 l0_2.length c0_2] 26 (0, 0)) (by (with_reducible repeat (first | refine blk_drewN ?_ _ | refine blk_drew ?_ | refine blk_alloc ?_ _)); exact BK1114.out)) : gb1114 ≠ gb1124)); have n9_ := Aside0.mk ((by rw [hg]; exact Nat.ne_of_gt (blk_lt (g := gb1114) (o := .cells #[.int .i64 a0_0, .int .i64 a0_1, .slice A0_2 l0_2.length c0_2] 26 (0, 0)) (by (with_reducible repeat (first | refine blk_drewN ?_ _ | refine blk_drew ?_ | refine blk_alloc ?_ _)); exact BK1114.out)) : gb1124 ≠ gb1114)); have n10_ := Aside0.mk ((by rw [hg]; exact Nat.ne_of_lt (blk_lt (g := gb1115) (o := .cells #[.int .i64 a1_0, .int .i64 a1_1, .slice A1_2 l1_2.length c1_2] 41 (0, 0)) (by (with_reducible repeat (first | refine blk_drewN ?_ _ | refine blk_drew ?_ | refine blk_alloc ?_ _)); exact BK1115.out)) : gb1115 ≠ gb1124)); have n11_ := Aside0.mk ((by rw [hg]; exact Nat.ne_of_gt (blk_lt (g := gb1115) (o := .cells #[.int .i64 a1_0, .int .i64 a1_1, .slice A1_2 l1_2.length c1_2] 41 (0, 0)) (by (with_reducible repeat (first | refine blk_drewN ?_ _ | refine blk_drew ?_ | refine blk_alloc ?_ _)); exact BK1115.out)) : gb1124 ≠ gb1115)); have n12_ := Aside0.mk ((by rw [hg]; exact Nat.ne_of_lt (blk_lt (g := gb1116) (o := .cells #[.int .i64 0, .int .i64 0, .slice none 0 0] 41 (0, 0)) (by (with_reducible repeat (first | refine blk_drewN ?_ _ | refine blk_drew ?_ | refine blk_alloc ?_ _)); exact BK1116.out)) : gb1116 ≠ gb1124)); have n13_ := Aside0.mk ((by rw [hg]; exact Nat.ne_of_gt (blk_lt (g := gb1116) (o := .cells #[.int .i64 0, .int .i64 0, .slice none 0 0] 41 (0, 0)) (by (with_reducible repeat (first | refine blk_drewN ?_ _ | refine blk_drew ?_ | refine blk_alloc ?_ _)); exact BK1116.out)) : gb1124 ≠ gb1116)); clear HO1123; clear BK1114; clear BK1115; clear BK1116; clear HB; have HO1123 := n0_; have BK1114 := n1_; have BK1115 := n2_; have BK1116 := n3_; have HB := n4_; have BK1124 := n5_; have GW1124 := n6_; have GE1124 := n7_; have NB1114_1124 := n8_; have NB1124_1114 := n9_; have NB1115_1124 := n10_; have NB1124_1115 := n11_; have NB1116_1124 := n12_; have NB1124_1116 := n13_; clear n0_ n1_ n2_ n3_ n4_ n5_ n6_ n7_ n8_ n9_ n10_ n11_ n12_ n13_; clear hb hbox hg; have hnb31 := NB1124_1114.out; have hnc31 := NB1114_1124.out; have hnb32 := NB1124_1115.out; have hnc32 := NB1115_1124.out; have hnb33 := NB1124_1116.out; have hnc33 := NB1116_1124.out; have hcz34_0 : w30.cell? ⟨gb1124, 0, none⟩ = some (.int .i64 0) := (blk_cell BK1124.out 0).trans rfl; have hcz34_1 : w30.cell? ⟨gb1124, 1, none⟩ = some (.int .i64 0) := (blk_cell BK1124.out 1).trans rfl; have hcz34_2 : w30.cell? ⟨gb1124, 2, none⟩ = some (.slice none 0 0) := (blk_cell BK1124.out 2).trans rfl; have hfz34_0 := blk_frozen BK1124.out 0; have hfz34_1 := blk_frozen BK1124.out 1; have hfz34_2 := blk_frozen BK1124.out 2; obtain ⟨Ao35, co35, eo35⟩ := Kd.R_slice HO1123.out; subst eo35; have hcz36_0 : w30.cell? ⟨gb1115, 0, none⟩ = some (.int .i64 a1_0) := (blk_cell BK1115.out 0).trans rfl; have hcz36_1 : w30.cell? ⟨gb1115, 1, none⟩ = some (.int .i64 a1_1) := (blk_cell BK1115.out 1).trans rfl; have hcz36_2 : w30.cell? ⟨gb1115, 2, none⟩ = some (.slice A1_2 l1_2.length c1_2) := (blk_cell BK1115.out 2).trans rfl; have hfz36_0 := blk_frozen BK1115.out 0; have hfz36_1 := blk_frozen BK1115.out 1; have hfz36_2 := blk_frozen BK1115.out 2))
        go_loopg [25] kj2 (fun kq v25 w' => ∃ (x25_2 : Int) (x1125002_2 : List Int) (u1125002 : Value), v25 = .int .i64 x25_2 ∧ Aside0 (spec_ScreenPicture.l0 kq l1_2 (l1_2.length : Int) x25_2 a0_0 a0_1 l0_2 a1_0 a1_1 l1_2 t1119 t1120 x1125002_2 = some (r1, r2, r3)) ∧ Aside0 (kq ≤ kj2) ∧ Aside0 (Kd.R (Kd.int .i64) 3 w' w.heap.size (fun _ => True) u1125002 x1125002_2) ∧ Aside0 (w'.heap[gb1114]? = some (.cells #[.int .i64 a0_0, .int .i64 a0_1, (.slice A0_2 l0_2.length c0_2)] 26 (0, 0))) ∧ Aside0 (w'.heap[gb1115]? = some (.cells #[.int .i64 a1_0, .int .i64 a1_1, (.slice A1_2 l1_2.length c1_2)] 41 (0, 0))) ∧ Aside0 (w'.heap[gb1116]? = some (.cells #[.int .i64 0, .int .i64 0, (.slice none 0 0)] 41 (0, 0))) ∧ Aside0 (w'.heap[gb1124]? = some (.cells #[.int .i64 t1119, .int .i64 t1120, u1125002] 41 (0, 0))) ∧ Aside0 (Below w.heap.size w w'))
        case atStart => exact ⟨(0), (t1121), (.slice Ao35 t1121.length co35), (by first | rfl | (simp; done) | (simp [*]; done)), H', ⟨Nat.le_refl _⟩, ⟨by (with_reducible repeat (first | apply Kd.R_alloc | apply Kd.R_drewN | apply Kd.R_drew)); exact Kd.R_mono (Kd.R_far (p := ⟨gb1124, 2, none⟩) (Kd.R_far (p := ⟨gb1124, 1, none⟩) (Kd.R_far (p := ⟨gb1124, 0, none⟩) (Kd.R_types HO1123.out BK1124.out (by decide)) (fun _ hk => hk.2) (.int .i64 t1119)) (fun _ hk => hk.2) (.int .i64 t1120)) (fun _ hk => hk.2) (.slice Ao35 t1121.length co35)) (fun _ hk => trivial)⟩, ⟨by (with_reducible repeat (first | refine blk_drewN ?_ _ | refine blk_drew ?_ | refine blk_alloc ?_ _)); refine blk_far ?_ NB1114_1124.out _; (with_reducible repeat (first | refine blk_drewN ?_ _ | refine blk_drew ?_ | refine blk_alloc ?_ _)); refine blk_far ?_ NB1114_1124.out _; (with_reducible repeat (first | refine blk_drewN ?_ _ | refine blk_drew ?_ | refine blk_alloc ?_ _)); refine blk_far ?_ NB1114_1124.out _; (with_reducible repeat (first | refine blk_drewN ?_ _ | refine blk_drew ?_ | refine blk_alloc ?_ _)); exact BK1114.out⟩, ⟨by (with_reducible repeat (first | refine blk_drewN ?_ _ | refine blk_drew ?_ | refine blk_alloc ?_ _)); refine blk_far ?_ NB1115_1124.out _; (with_reducible repeat (first | refine blk_drewN ?_ _ | refine blk_drew ?_ | refine blk_alloc ?_ _)); refine blk_far ?_ NB1115_1124.out _; (with_reducible repeat (first | refine blk_drewN ?_ _ | refine blk_drew ?_ | refine blk_alloc ?_ _)); refine blk_far ?_ NB1115_1124.out _; (with_reducible repeat (first | refine blk_drewN ?_ _ | refine blk_drew ?_ | refine blk_alloc ?_ _)); exact BK1115.out⟩, ⟨by (with_reducible repeat (first | refine blk_drewN ?_ _ | refine blk_drew ?_ | refine blk_alloc ?_ _)); refine blk_far ?_ NB1116_1124.out _; (with_reducible repeat (first | refine blk_drewN ?_ _ | refine blk_drew ?_ | refine blk_alloc ?_ _)); refine blk_far ?_ NB1116_1124.out _; (with_reducible repeat (first | refine blk_drewN ?_ _ | refine blk_drew ?_ | refine blk_alloc ?_ _)); refine blk_far ?_ NB1116_1124.out _; (with_reducible repeat (first | refine blk_drewN ?_ _ | refine blk_drew ?_ | refine blk_alloc ?_ _)); exact BK1116.out⟩, ⟨by (with_reducible repeat (first | refine blk_drewN ?_ _ | refine blk_drew ?_ | refine blk_alloc ?_ _)); refine blk_put (cs := #[.int .i64 t1119, .int .i64 t1120, .slice none 0 0]) ?_ 2 _ rfl; (with_reducible repeat (first | refine blk_drewN ?_ _ | refine blk_drew ?_ | refine blk_alloc ?_ _)); refine blk_put (cs := #[.int .i64 t1119, .int .i64 0, .slice none 0 0]) ?_ 1 _ rfl; (with_reducible repeat (first | refine blk_drewN ?_ _ | refine blk_drew ?_ | refine blk_alloc ?_ _)); refine blk_put (cs := #[.int .i64 0, .int .i64 0, .slice none 0 0]) ?_ 0 _ rfl; (with_reducible repeat (first | refine blk_drewN ?_ _ | refine blk_drew ?_ | refine blk_alloc ?_ _)); exact BK1124.out⟩, ⟨by repeat (first | (with_reducible first | exact HB.out | apply below_alloc | apply pw_below_drewN | apply below_drew1 | refine below_set ?_ GE1114.out | refine below_set ?_ GE1115.out | refine below_set ?_ GE1116.out | refine below_set ?_ GE1124.out) | exact HB.out)⟩⟩
        case round =>
          clear H'
          try clear c1
          try clear c2
          try clear p2
          try clear c3
          try clear c7
          try clear c8
          try clear c10
          try clear c11
          try clear c14
          try clear c17
          try clear c18
          try clear c21
          try clear c22
          try clear c23
          try clear c25
          try clear c26
          try clear c27
          try clear c31
          try clear c32
          try clear c33
          try clear hcz12_0
          try clear hcz12_1
          try clear hcz12_2
          try clear hcz15_0
          try clear hcz15_1
          try clear hcz15_2
          try clear hcz19_0
          try clear hcz19_1
          try clear hcz19_2
          try clear hcz24_0
          try clear hcz24_1
          try clear hcz24_2
          try clear hcz28_0
          try clear hcz28_1
          try clear hcz28_2
          try clear hcz34_0
          try clear hcz34_1
          try clear hcz34_2
          try clear hcz36_0
          try clear hcz36_1
          try clear hcz36_2
          try clear hfz12_0
          try clear hfz12_1
          try clear hfz12_2
          try clear hfz15_0
          try clear hfz15_1
          try clear hfz15_2
          try clear hfz19_0
          try clear hfz19_1
          try clear hfz19_2
          try clear hfz24_0
          try clear hfz24_1
          try clear hfz24_2
          try clear hfz28_0
          try clear hfz28_1
          try clear hfz28_2
          try clear hfz34_0
          try clear hfz34_1
          try clear hfz34_2
          try clear hfz36_0
          try clear hfz36_1
          try clear hfz36_2
          try clear p2
          obtain ⟨x25_2, x1125002_2, u1125002, rfl, HA, HK2, HO_1125002, BK1114, BK1115, BK1116, BK1124, HB⟩ := hrel
          cases gk with
          | zero => exact absurd HA.out (by simp [spec_ScreenPicture.l0])
          | succ k2 =>
            have H := HA.out
            clear HA
            simp only [spec_ScreenPicture.l0] at H
            by_cases c37 : x25_2 < (l1_2.length : Int)
            · rw [if_pos c37] at H
              have c37b0 : decide (x25_2 < (l1_2.length : Int)) = true := decide_eq_true c37
              clear c37
              by_cases c38 : 0 ≤ x25_2
              · rw [if_pos c38] at H
                have c38b0 : decide (0 ≤ x25_2) = true := decide_eq_true c38
                clear c38
                by_cases c39 : x25_2 < (l1_2.length : Int)
                · rw [if_pos c39] at H
                  have c39b0 : decide (x25_2 < (l1_2.length : Int)) = true := decide_eq_true c39
                  clear c39
                  by_cases c40 : a1_0 = 0
                  · rw [if_pos c40] at H
                    exact absurd H (by simp)
                  · rw [if_neg c40] at H
                    have c40b0 : (a1_0 == 0) = false := beq_eq_false_iff_ne.mpr c40
                    have c40b1 : (a1_0 != 0) = true := bne_iff_ne.mpr c40
                    replace H := Option.bind_eq_some_iff.mp H
                    obtain ⟨t1126, A410, H⟩ := H
                    replace H : ((spec_l3Level.f (l0_2.length : Int) (rd l1_2 x25_2)).bind fun t1127 => (if t1126 < t1127 then (if x25_2 < (x1125002_2.length : Int) then (spec_ScreenPicture.l0 k2 l1_2 (l1_2.length : Int) (wrap64 (x25_2 + 1)) a0_0 a0_1 l0_2 a1_0 a1_1 l1_2 t1119 t1120 (x1125002_2.set (x25_2 : Int).toNat 1)) else (none)) else (spec_ScreenPicture.l0 k2 l1_2 (l1_2.length : Int) (wrap64 (x25_2 + 1)) a0_0 a0_1 l0_2 a1_0 a1_1 l1_2 t1119 t1120 x1125002_2))) = some (r1, r2, r3) := H
                    have A41 := Aside0.mk A410
                    clear A410
                    replace H := Option.bind_eq_some_iff.mp H
                    obtain ⟨t1127, A420, H⟩ := H
                    replace H : (if t1126 < t1127 then (if x25_2 < (x1125002_2.length : Int) then (spec_ScreenPicture.l0 k2 l1_2 (l1_2.length : Int) (wrap64 (x25_2 + 1)) a0_0 a0_1 l0_2 a1_0 a1_1 l1_2 t1119 t1120 (x1125002_2.set (x25_2 : Int).toNat 1)) else (none)) else (spec_ScreenPicture.l0 k2 l1_2 (l1_2.length : Int) (wrap64 (x25_2 + 1)) a0_0 a0_1 l0_2 a1_0 a1_1 l1_2 t1119 t1120 x1125002_2)) = some (r1, r2, r3) := H
                    have A42 := Aside0.mk A420
                    clear A420
                    by_cases c43 : t1126 < t1127
                    · rw [if_pos c43] at H
                      have c43b0 : decide (t1126 < t1127) = true := decide_eq_true c43
                      clear c43
                      by_cases c44 : x25_2 < (x1125002_2.length : Int)
                      · rw [if_pos c44] at H
                        have c44b0 : decide (x25_2 < (x1125002_2.length : Int)) = true := decide_eq_true c44
                        clear c44
                        obtain ⟨y1128, hy1128⟩ : ∃ y_ : List Int, y_ = (x1125002_2.set (x25_2 : Int).toNat 1) := ⟨_, rfl⟩
                        replace H : (spec_ScreenPicture.l0 k2 l1_2 (l1_2.length : Int) (wrap64 (x25_2 + 1)) a0_0 a0_1 l0_2 a1_0 a1_1 l1_2 t1119 t1120 y1128) = some (r1, r2, r3) := by first | (rw [hy1128]; with_reducible exact H) | (have H2_ := (Option.bind_some _ _).symm.trans H; rw [hy1128]; with_reducible exact H2_) | (have H2_ := (Option.bind_some _ _).symm.trans H; with_reducible exact H2_) | with_reducible exact H | (rw [hy1128]; exact H) | exact H
                        have Ny1128 := Aside0.mk hy1128
                        clear hy1128
                        have H' := Aside0.mk H
                        clear H
                        have p1125 : 0 ≤ (x25_2 : Int) := of_decide_eq_true (by first | (with_reducible assumption) | assumption)
                        have q1125 : x25_2 < (l1_2.length : Int) := of_decide_eq_true (by first | (with_reducible assumption) | assumption)
                        obtain ⟨ad1125, e1125, hx1125_0⟩ := Kd.at_int HR1_2.out x25_2 p1125 q1125
                        cases e1125
                        replace hx1125_0 := (HB.out.cell (World.block_lt_of_cell? w _ hx1125_0)).trans hx1125_0
                        replace p1125 := eq_true p1125
                        replace q1125 := eq_true q1125
                        try go_wp2
                        have n0_ := Aside0.mk (Kd.R_drew HO_1125002.out)
                        have n1_ := Aside0.mk (blk_drew BK1114.out)
                        have n2_ := Aside0.mk (blk_drew BK1115.out)
                        have n3_ := Aside0.mk (blk_drew BK1116.out)
                        have n4_ := Aside0.mk (blk_drew BK1124.out)
                        have n5_ := Aside0.mk (below_drew1 HB.out)
                        clear HO_1125002
                        clear BK1114
                        clear BK1115
                        clear BK1116
                        clear BK1124
                        clear HB
                        have HO_1125002 := n0_
                        have BK1114 := n1_
                        have BK1115 := n2_
                        have BK1116 := n3_
                        have BK1124 := n4_
                        have HB := n5_
                        clear n0_ n1_ n2_ n3_ n4_ n5_
                        refine start_ (n := 16) (S := fun w' => w'.cell? ⟨gb1114, 0, none⟩ = some (.int .i64 a0_0) ∧ w'.cell? ⟨gb1114, 1, none⟩ = some (.int .i64 a0_1) ∧ w'.cell? ⟨gb1114, 2, none⟩ = some (.slice A0_2 l0_2.length c0_2) ∧ w'.cell? ⟨gb1115, 0, none⟩ = some (.int .i64 a1_0) ∧ w'.cell? ⟨gb1115, 1, none⟩ = some (.int .i64 a1_1) ∧ w'.cell? ⟨gb1115, 2, none⟩ = some (.slice (some ad1125) l1_2.length c1_2)) (ds := []) #[false, false, false, false, false, false, false, false, false, false, false, false, false, false, false, false] (by kernel_rfl) rfl rfl ⟨(blk_cell BK1114.out 0).trans rfl, (blk_cell BK1114.out 1).trans rfl, (blk_cell BK1114.out 2).trans rfl, (blk_cell BK1115.out 0).trans rfl, (blk_cell BK1115.out 1).trans rfl, (blk_cell BK1115.out 2).trans rfl⟩ (fun hHeld => ?_); refine with_tabW spec_ScreenPicture.tab7 spec_ScreenPicture.bits7 (fun HT_ HW_ => ?_)
                        generalize wr.drew = w46 at HO_1125002 BK1114 BK1115 BK1116 BK1124 HB hHeld ⊢
                        refine pure_ (i := 1) (N := some 31) (v := ?_) (a' := ?_) #[false, true, false, false, false, false, false, false, false, false, false, false, false, false, false, false] rfl rfl (any_of HT_.out (by kernel_rfl)) (fun _ _ _ h => h) (Or.inl ⟨by rfl, ?_⟩) ?_ ?_
                        rotate_left
                        · intro w'
                          go_simp
                          with_reducible rfl
                        rotate_left
                        · simp only [Act.put, List.setIfInBounds_toArray, List.set_cons_zero, List.set_cons_succ, i64_w, i32_w]
                          rfl
                        refine pure_ (i := 2) (N := some 32) (v := ?_) (a' := ?_) #[false, true, true, false, false, false, false, false, false, false, false, false, false, false, false, false] rfl rfl (any_of HT_.out (by kernel_rfl)) (fun _ _ _ h => h) (Or.inl ⟨by rfl, ?_⟩) ?_ ?_
                        rotate_left
                        · intro w'
                          go_simp
                          with_reducible rfl
                        rotate_left
                        · simp only [Act.put, List.setIfInBounds_toArray, List.set_cons_zero, List.set_cons_succ, i64_w, i32_w]
                          rfl
                        refine pure_ (i := 5) (N := some 35) (v := ?_) (a' := ?_) #[false, true, true, false, false, true, false, false, false, false, false, false, false, false, false, false] rfl rfl (any_of HT_.out (by kernel_rfl)) (fun _ _ _ h => h) (Or.inl ⟨by rfl, ?_⟩) ?_ ?_
                        rotate_left
                        · intro w'
                          go_simp
                          with_reducible rfl
                        rotate_left
                        · simp only [Act.put, List.setIfInBounds_toArray, List.set_cons_zero, List.set_cons_succ, i64_w, i32_w]
                          rfl
                        refine pure_ (i := 6) (N := some 36) (v := ?_) (a' := ?_) #[false, true, true, false, false, true, true, false, false, false, false, false, false, false, false, false] rfl rfl (any_of HT_.out (by kernel_rfl)) (fun _ _ _ h => h) (Or.inl ⟨by rfl, ?_⟩) ?_ ?_
                        rotate_left
                        · intro w'
                          go_simp
                          with_reducible rfl
                        rotate_left
                        · simp only [Act.put, List.setIfInBounds_toArray, List.set_cons_zero, List.set_cons_succ, i64_w, i32_w]
                          rfl
                        refine pure_ (i := 10) (N := some 40) (v := ?_) (a' := ?_) #[false, true, true, false, false, true, true, false, false, false, true, false, false, false, false, false] rfl rfl (any_of HT_.out (by kernel_rfl)) (fun _ _ _ h => h) (Or.inl ⟨by rfl, ?_⟩) ?_ ?_
                        rotate_left
                        · intro w'
                          go_simp
                          with_reducible rfl
                        rotate_left
                        · simp only [Act.put, List.setIfInBounds_toArray, List.set_cons_zero, List.set_cons_succ, i64_w, i32_w]
                          rfl
                        refine pure_ (i := 13) (N := some 43) (v := ?_) (a' := ?_) #[false, true, true, false, false, true, true, false, false, false, true, false, false, true, false, false] rfl rfl (any_of HT_.out (by kernel_rfl)) (fun _ _ _ h => h) (Or.inl ⟨by rfl, ?_⟩) ?_ ?_
                        rotate_left
                        · intro w'
                          go_simp
                          with_reducible rfl
                        rotate_left
                        · simp only [Act.put, List.setIfInBounds_toArray, List.set_cons_zero, List.set_cons_succ, i64_w, i32_w]
                          rfl
                        refine take_ (i := 0) (N := some 30) (v := ?_) (a' := ?_) #[true, true, true, false, false, true, true, false, false, false, true, false, false, true, false, false] rfl rfl (take_ofW HT_.out HW_.out (by kernel_rfl)) (fun _ _ _ h => h) (Or.inl ⟨by rfl, ?_⟩) hHeld ?_ ?_
                        rotate_left
                        · rintro w' ⟨s0, s1, s2, s3, s4, s5⟩
                          go_simp
                          with_reducible rfl
                        rotate_left
                        · simp only [Act.put, List.setIfInBounds_toArray, List.set_cons_zero, List.set_cons_succ, i64_w, i32_w]
                          rfl
                        refine take_ (i := 3) (N := some 33) (v := ?_) (a' := ?_) #[true, true, true, true, false, true, true, false, false, false, true, false, false, true, false, false] rfl rfl (take_ofW HT_.out HW_.out (by kernel_rfl)) (fun _ _ _ h => h) (Or.inl ⟨by rfl, ?_⟩) hHeld ?_ ?_
                        rotate_left
                        · rintro w' ⟨s0, s1, s2, s3, s4, s5⟩
                          go_simp
                          with_reducible rfl
                        rotate_left
                        · simp only [Act.put, List.setIfInBounds_toArray, List.set_cons_zero, List.set_cons_succ, i64_w, i32_w]
                          rfl
                        refine pure_ (i := 4) (N := some 34) (v := ?_) (a' := ?_) #[true, true, true, true, true, true, true, false, false, false, true, false, false, true, false, false] rfl rfl (any_of HT_.out (by kernel_rfl)) (fun _ _ _ h => h) (Or.inl ⟨by rfl, ?_⟩) ?_ ?_
                        rotate_left
                        · intro w'
                          go_simp
                          with_reducible rfl
                        rotate_left
                        · simp only [Act.put, List.setIfInBounds_toArray, List.set_cons_zero, List.set_cons_succ, i64_w, i32_w]
                          rfl
                        refine take_ (i := 7) (N := some 37) (v := ?_) (a' := ?_) #[true, true, true, true, true, true, true, true, false, false, true, false, false, true, false, false] rfl rfl (take_ofW HT_.out HW_.out (by kernel_rfl)) (fun _ _ _ h => h) (Or.inl ⟨by rfl, ?_⟩) hHeld ?_ ?_
                        rotate_left
                        · rintro w' ⟨s0, s1, s2, s3, s4, s5⟩
                          go_simp
                          with_reducible rfl
                        rotate_left
                        · simp only [Act.put, List.setIfInBounds_toArray, List.set_cons_zero, List.set_cons_succ, i64_w, i32_w]
                          rfl
                        refine pure_ (i := 8) (N := some 38) (v := ?_) (a' := ?_) #[true, true, true, true, true, true, true, true, true, false, true, false, false, true, false, false] rfl rfl (any_of HT_.out (by kernel_rfl)) (fun _ _ _ h => h) (Or.inl ⟨by rfl, ?_⟩) ?_ ?_
                        rotate_left
                        · intro w'
                          go_simp
                          with_reducible rfl
                        rotate_left
                        · simp only [Act.put, List.setIfInBounds_toArray, List.set_cons_zero, List.set_cons_succ, i64_w, i32_w]
                          rfl
                        refine take_ (i := 11) (N := some 41) (v := ?_) (a' := ?_) #[true, true, true, true, true, true, true, true, true, false, true, true, false, true, false, false] rfl rfl (take_ofW HT_.out HW_.out (by kernel_rfl)) (fun _ _ _ h => h) (Or.inl ⟨by rfl, ?_⟩) hHeld ?_ ?_
                        rotate_left
                        · rintro w' ⟨s0, s1, s2, s3, s4, s5⟩
                          go_simp
                          with_reducible rfl
                        rotate_left
                        · simp only [Act.put, List.setIfInBounds_toArray, List.set_cons_zero, List.set_cons_succ, i64_w, i32_w]
                          rfl
                        refine pure_ (i := 12) (N := some 42) (v := ?_) (a' := ?_) #[true, true, true, true, true, true, true, true, true, false, true, true, true, true, false, false] rfl rfl (any_of HT_.out (by kernel_rfl)) (fun _ _ _ h => h) (Or.inl ⟨by rfl, ?_⟩) ?_ ?_
                        rotate_left
                        · intro w'
                          go_simp
                          with_reducible rfl
                        rotate_left
                        · simp only [Act.put, List.setIfInBounds_toArray, List.set_cons_zero, List.set_cons_succ, i64_w, i32_w]
                          rfl
                        refine one_ (i := 9) (N := some 39) #[true, true, true, true, true, true, true, true, true, true, true, true, true, true, false, false] rfl rfl (one_of HT_.out (by kernel_rfl)) (by decide) (fun K hK => ?_)
                        refine goes_ Try.func93 (by kernel_rfl) rfl #[.agg #[.int .i64 a0_0, .int .i64 a0_1, .slice A0_2 l0_2.length c0_2], .int .i64 (Int.tmod x25_2 a1_0), .int .i64 (wrap64 (Int.tdiv x25_2 a1_0))] (by rfl) rfl rfl (by (try simp only [List.map_toArray, List.map_cons, List.map_nil]); first | done | rfl | (simp only [List.length_drop, List.length_take]; rfl)) ?_
                        with_reducible refine (spec_l2Rank.calls a0_0 a0_1 _ _ l0_2 (Int.tmod x25_2 a1_0) (wrap64 (Int.tdiv x25_2 a1_0)) t1126 _ ?side1 ?side2 A41.out).mono ?_
                        (case side1 => repeat (first | exact (Kd.C_below HR0_2.out HB.out) | (with_reducible refine Kd.C_alloc ?_ _) | (with_reducible refine Kd.C_drewN ?_ _) | (with_reducible refine Kd.C_drew ?_)))
                        (case side2 => exact HC0_2.out)
                        rintro e w47 ⟨rfl, hb⟩
                        refine ⟨_, rfl, ?_⟩
                        have n0_ := Aside0.mk (Kd.R_below (by (with_reducible repeat (first | apply Kd.R_alloc | apply Kd.R_drewN | apply Kd.R_drew)); exact HO_1125002.out) hb)
                        have n1_ := Aside0.mk (blk_below (g := gb1114) (o := .cells #[.int .i64 a0_0, .int .i64 a0_1, .slice A0_2 l0_2.length c0_2] 26 (0, 0)) (by (with_reducible repeat (first | refine blk_drewN ?_ _ | refine blk_drew ?_ | refine blk_alloc ?_ _)); exact BK1114.out) hb)
                        have n2_ := Aside0.mk (blk_below (g := gb1115) (o := .cells #[.int .i64 a1_0, .int .i64 a1_1, .slice (some ad1125) l1_2.length c1_2] 41 (0, 0)) (by (with_reducible repeat (first | refine blk_drewN ?_ _ | refine blk_drew ?_ | refine blk_alloc ?_ _)); exact BK1115.out) hb)
                        have n3_ := Aside0.mk (blk_below (g := gb1116) (o := .cells #[.int .i64 0, .int .i64 0, .slice none 0 0] 41 (0, 0)) (by (with_reducible repeat (first | refine blk_drewN ?_ _ | refine blk_drew ?_ | refine blk_alloc ?_ _)); exact BK1116.out) hb)
                        have n4_ := Aside0.mk (blk_below (g := gb1124) (o := .cells #[.int .i64 t1119, .int .i64 t1120, u1125002] 41 (0, 0)) (by (with_reducible repeat (first | refine blk_drewN ?_ _ | refine blk_drew ?_ | refine blk_alloc ?_ _)); exact BK1124.out) hb)
                        have n5_ := Aside0.mk (below_step (by repeat (first | (with_reducible first | exact HB.out | apply below_alloc | apply pw_below_drewN | apply below_drew1 | refine below_set ?_ GE1114.out | refine below_set ?_ GE1115.out | refine below_set ?_ GE1116.out | refine below_set ?_ GE1124.out) | exact HB.out)) hb)
                        clear HO_1125002
                        clear BK1114
                        clear BK1115
                        clear BK1116
                        clear BK1124
                        clear HB
                        have HO_1125002 := n0_
                        have BK1114 := n1_
                        have BK1115 := n2_
                        have BK1116 := n3_
                        have BK1124 := n4_
                        have HB := n5_
                        clear n0_ n1_ n2_ n3_ n4_ n5_
                        (try clear hb)
                        (try clear hb2)
                        (try clear hk)
                        (try clear hi)
                        refine hK.out _ _ ⟨(blk_cell BK1114.out 0).trans rfl, (blk_cell BK1114.out 1).trans rfl, (blk_cell BK1114.out 2).trans rfl, (blk_cell BK1115.out 0).trans rfl, (blk_cell BK1115.out 1).trans rfl, (blk_cell BK1115.out 2).trans rfl⟩ (fun hHeld => ?_)
                        clear hK K
                        refine norm_ (a' := ?_) ?_ ?_
                        rotate_left
                        · show Act.put _ (some 39) _ = _
                          simp only [Act.put, List.setIfInBounds_toArray, List.set_cons_zero, List.set_cons_succ, i64_w, i32_w]
                          rfl
                        refine one_ (i := 14) (N := some 44) #[true, true, true, true, true, true, true, true, true, true, true, true, true, true, true, false] rfl rfl (one_of HT_.out (by kernel_rfl)) (by decide) (fun K hK => ?_)
                        refine goes_ Try.func113 (by kernel_rfl) rfl #[.int .i64 (l0_2.length : Int), .int .i64 (rd l1_2 x25_2)] (by rfl) rfl rfl (by (try simp only [List.map_toArray, List.map_cons, List.map_nil]); first | done | rfl | (simp only [List.length_drop, List.length_take]; rfl)) ?_
                        with_reducible refine (spec_l3Level.calls (l0_2.length : Int) (rd l1_2 x25_2) t1127 _ A42.out).mono ?_
                        rintro e w' ⟨rfl, ⟨nd, rfl⟩⟩
                        refine ⟨_, rfl, ?_⟩
                        refine hK.out _ _ ⟨(blk_cell BK1114.out 0).trans rfl, (blk_cell BK1114.out 1).trans rfl, (blk_cell BK1114.out 2).trans rfl, (blk_cell BK1115.out 0).trans rfl, (blk_cell BK1115.out 1).trans rfl, (blk_cell BK1115.out 2).trans rfl⟩ (fun hHeld => ?_)
                        clear hK K
                        refine norm_ (a' := ?_) ?_ ?_
                        rotate_left
                        · show Act.put _ (some 44) _ = _
                          simp only [Act.put, List.setIfInBounds_toArray, List.set_cons_zero, List.set_cons_succ, i64_w, i32_w]
                          rfl
                        refine pure_ (i := 15) (N := some 45) (v := ?_) (a' := ?_) #[true, true, true, true, true, true, true, true, true, true, true, true, true, true, true, true] rfl rfl (any_of HT_.out (by kernel_rfl)) (fun _ _ _ h => h) (Or.inl ⟨by rfl, ?_⟩) ?_ ?_
                        rotate_left
                        · intro w'
                          go_simp
                          with_reducible rfl
                        rotate_left
                        · simp only [Act.put, List.setIfInBounds_toArray, List.set_cons_zero, List.set_cons_succ, i64_w, i32_w]
                          rfl
                        refine done_ (done_of HT_.out (by kernel_rfl)) ?_
                        have hnb48 := NB1124_1114.out
                        have hnc48 := NB1114_1124.out
                        have hnb49 := NB1124_1115.out
                        have hnc49 := NB1115_1124.out
                        have hnb50 := NB1124_1116.out
                        have hnc50 := NB1116_1124.out
                        have hcz51_0 : w47.cell? ⟨gb1124, 0, none⟩ = some (.int .i64 t1119) := (blk_cell BK1124.out 0).trans rfl
                        have hcz51_1 : w47.cell? ⟨gb1124, 1, none⟩ = some (.int .i64 t1120) := (blk_cell BK1124.out 1).trans rfl
                        have hcz51_2 : w47.cell? ⟨gb1124, 2, none⟩ = some (u1125002) := (blk_cell BK1124.out 2).trans rfl
                        have hfz51_0 := blk_frozen BK1124.out 0
                        have hfz51_1 := blk_frozen BK1124.out 1
                        have hfz51_2 := blk_frozen BK1124.out 2
                        have p45 : 0 ≤ (x25_2 : Int) := of_decide_eq_true (by first | (with_reducible assumption) | assumption)
                        have q45 : (x25_2 : Int) < ((x1125002_2.length : Int) : Int) := of_decide_eq_true (by first | (with_reducible assumption) | assumption)
                        obtain ⟨go45, co45, eo45, gb45, gl45, cl45, HG45⟩ := Kd.R_form HO_1125002.out (by omega)
                        (first | cases eo45 | (injection eo45 with ea_ en_ ec_; (first | subst ea_ | (injection ea_ with ea_; subst ea_)); subst ec_; clear en_))
                        have GB45 := Aside0.mk gb45
                        have GG45 := Aside0.mk HG45
                        clear gb45 gl45 HG45
                        obtain ⟨hx45_0, hf45_0⟩ := Kd.R_celln 0 HO_1125002.out (x25_2 : Int) p45 q45
                        replace p45 := eq_true p45
                        replace q45 := eq_true q45
                        obtain ⟨hy52_, hz52_⟩ := Kd.R_celln 0 HO_1125002.out (x25_2 : Int) (of_decide_eq_true (by first | (with_reducible assumption) | assumption)) (of_decide_eq_true (by first | (with_reducible assumption) | assumption))
                        have HP52 := Kd.R_putg (Kd.R_drewN HO_1125002.out nd) (x25_2 : Int) 1
                        try go_wp2_with (first | ((with_reducible refine gate_store (t := 3) (p := 49) rfl ?_); refine store_event (t := 3) (p := 49) (v := ?vo_w53) (w1 := ((w47.drewN nd).setCell ⟨go45, (x25_2 : Int).toNat, none⟩ (.int .i64 1))) ?hg ?ho ?hn ?hr ?_; (case ho => rfl); (case hg => rfl); (case hn => rfl); (case hr => first | (go_simp; done) | (go_simp; rfl)); intro w53 hw; have hg : (w47.drewN nd).grownBy w53 (some go45) := (by rw [hw]; exact HP52.2); have hp_ : Kd.R (Kd.int .i64) 3 w53 w.heap.size (fun _ => True) (.slice (some ⟨go45, 0, none⟩) x1125002_2.length co45) y1128 := (by rw [hw, Ny1128.out]; exact HP52.1); clear HP52; have n0_ := Aside0.mk (hp_); have n1_ := Aside0.mk (blk_grown (g := gb1114) (o := .cells #[.int .i64 a0_0, .int .i64 a0_1, .slice A0_2 l0_2.length c0_2] 26 (0, 0)) (by (with_reducible repeat (first | refine blk_drewN ?_ _ | refine blk_drew ?_ | refine blk_alloc ?_ _)); exact BK1114.out) hg (Kd.R_ne HO_1125002.out BK1114.out (by decide))); have n2_ := Aside0.mk (blk_grown (g := gb1115) (o := .cells #[.int .i64 a1_0, .int .i64 a1_1, .slice (some ad1125) l1_2.length c1_2] 41 (0, 0)) (by (with_reducible repeat (first | refine blk_drewN ?_ _ | refine blk_drew ?_ | refine blk_alloc ?_ _)); exact BK1115.out) hg (Kd.R_ne HO_1125002.out BK1115.out (by decide))); have n3_ := Aside0.mk (blk_grown (g := gb1116) (o := .cells #[.int .i64 0, .int .i64 0, .slice none 0 0] 41 (0, 0)) (by (with_reducible repeat (first | refine blk_drewN ?_ _ | refine blk_drew ?_ | refine blk_alloc ?_ _)); exact BK1116.out) hg (Kd.R_ne HO_1125002.out BK1116.out (by decide))); have n4_ := Aside0.mk (blk_grown (g := gb1124) (o := .cells #[.int .i64 t1119, .int .i64 t1120, .slice (some ⟨go45, 0, none⟩) x1125002_2.length co45] 41 (0, 0)) (by (with_reducible repeat (first | refine blk_drewN ?_ _ | refine blk_drew ?_ | refine blk_alloc ?_ _)); exact BK1124.out) hg (Kd.R_ne HO_1125002.out BK1124.out (by decide))); have n5_ := Aside0.mk ((by rw [hw]; exact below_set (pw_below_drewN HB.out _) GB45.out : Below w.heap.size w w53)); clear HO_1125002; clear BK1114; clear BK1115; clear BK1116; clear BK1124; clear HB; have HO_1125002 := n0_; have BK1114 := n1_; have BK1115 := n2_; have BK1116 := n3_; have BK1124 := n4_; have HB := n5_; clear n0_ n1_ n2_ n3_ n4_ n5_; clear hg hw hp_))
                        go_roundg k2
                        case measure => have := HJ2.out; have := HK2.out; omega
                        case rel => exact ⟨(wrap64 (x25_2 + 1)), (y1128), (.slice (some ⟨go45, 0, none⟩) x1125002_2.length co45), (by first | rfl | (simp; done) | (simp [*]; done)), H', ⟨by have := HJ2.out; have := HK2.out; omega⟩, ⟨by (with_reducible repeat (first | apply Kd.R_alloc | apply Kd.R_drewN | apply Kd.R_drew)); exact HO_1125002.out⟩, ⟨by (with_reducible repeat (first | refine blk_drewN ?_ _ | refine blk_drew ?_ | refine blk_alloc ?_ _)); exact BK1114.out⟩, ⟨by (with_reducible repeat (first | refine blk_drewN ?_ _ | refine blk_drew ?_ | refine blk_alloc ?_ _)); exact BK1115.out⟩, ⟨by (with_reducible repeat (first | refine blk_drewN ?_ _ | refine blk_drew ?_ | refine blk_alloc ?_ _)); exact BK1116.out⟩, ⟨by (with_reducible repeat (first | refine blk_drewN ?_ _ | refine blk_drew ?_ | refine blk_alloc ?_ _)); exact BK1124.out⟩, ⟨by repeat (first | (with_reducible first | exact HB.out | apply below_alloc | apply pw_below_drewN | apply below_drew1 | refine below_set ?_ GE1114.out | refine below_set ?_ GE1115.out | refine below_set ?_ GE1116.out | refine below_set ?_ GE1124.out) | exact HB.out)⟩⟩
                      · rw [if_neg c44] at H
                        exact absurd H (by simp)
                    · rw [if_neg c43] at H
                      have c43b0 : decide (t1126 < t1127) = false := decide_eq_false c43
                      clear c43
                      have H' := Aside0.mk H
                      clear H
                      have p1125 : 0 ≤ (x25_2 : Int) := of_decide_eq_true (by first | (with_reducible assumption) | assumption)
                      have q1125 : x25_2 < (l1_2.length : Int) := of_decide_eq_true (by first | (with_reducible assumption) | assumption)
                      obtain ⟨ad1125, e1125, hx1125_0⟩ := Kd.at_int HR1_2.out x25_2 p1125 q1125
                      cases e1125
                      replace hx1125_0 := (HB.out.cell (World.block_lt_of_cell? w _ hx1125_0)).trans hx1125_0
                      replace p1125 := eq_true p1125
                      replace q1125 := eq_true q1125
                      try go_wp2
                      have n0_ := Aside0.mk (Kd.R_drew HO_1125002.out)
                      have n1_ := Aside0.mk (blk_drew BK1114.out)
                      have n2_ := Aside0.mk (blk_drew BK1115.out)
                      have n3_ := Aside0.mk (blk_drew BK1116.out)
                      have n4_ := Aside0.mk (blk_drew BK1124.out)
                      have n5_ := Aside0.mk (below_drew1 HB.out)
                      clear HO_1125002
                      clear BK1114
                      clear BK1115
                      clear BK1116
                      clear BK1124
                      clear HB
                      have HO_1125002 := n0_
                      have BK1114 := n1_
                      have BK1115 := n2_
                      have BK1116 := n3_
                      have BK1124 := n4_
                      have HB := n5_
                      clear n0_ n1_ n2_ n3_ n4_ n5_
                      refine start_ (n := 16) (S := fun w' => w'.cell? ⟨gb1114, 0, none⟩ = some (.int .i64 a0_0) ∧ w'.cell? ⟨gb1114, 1, none⟩ = some (.int .i64 a0_1) ∧ w'.cell? ⟨gb1114, 2, none⟩ = some (.slice A0_2 l0_2.length c0_2) ∧ w'.cell? ⟨gb1115, 0, none⟩ = some (.int .i64 a1_0) ∧ w'.cell? ⟨gb1115, 1, none⟩ = some (.int .i64 a1_1) ∧ w'.cell? ⟨gb1115, 2, none⟩ = some (.slice (some ad1125) l1_2.length c1_2)) (ds := []) #[false, false, false, false, false, false, false, false, false, false, false, false, false, false, false, false] (by kernel_rfl) rfl rfl ⟨(blk_cell BK1114.out 0).trans rfl, (blk_cell BK1114.out 1).trans rfl, (blk_cell BK1114.out 2).trans rfl, (blk_cell BK1115.out 0).trans rfl, (blk_cell BK1115.out 1).trans rfl, (blk_cell BK1115.out 2).trans rfl⟩ (fun hHeld => ?_); refine with_tabW spec_ScreenPicture.tab7 spec_ScreenPicture.bits7 (fun HT_ HW_ => ?_)
                      generalize wr.drew = w54 at HO_1125002 BK1114 BK1115 BK1116 BK1124 HB hHeld ⊢
                      refine pure_ (i := 1) (N := some 31) (v := ?_) (a' := ?_) #[false, true, false, false, false, false, false, false, false, false, false, false, false, false, false, false] rfl rfl (any_of HT_.out (by kernel_rfl)) (fun _ _ _ h => h) (Or.inl ⟨by rfl, ?_⟩) ?_ ?_
                      rotate_left
                      · intro w'
                        go_simp
                        with_reducible rfl
                      rotate_left
                      · simp only [Act.put, List.setIfInBounds_toArray, List.set_cons_zero, List.set_cons_succ, i64_w, i32_w]
                        rfl
                      refine pure_ (i := 2) (N := some 32) (v := ?_) (a' := ?_) #[false, true, true, false, false, false, false, false, false, false, false, false, false, false, false, false] rfl rfl (any_of HT_.out (by kernel_rfl)) (fun _ _ _ h => h) (Or.inl ⟨by rfl, ?_⟩) ?_ ?_
                      rotate_left
                      · intro w'
                        go_simp
                        with_reducible rfl
                      rotate_left
                      · simp only [Act.put, List.setIfInBounds_toArray, List.set_cons_zero, List.set_cons_succ, i64_w, i32_w]
                        rfl
                      refine pure_ (i := 5) (N := some 35) (v := ?_) (a' := ?_) #[false, true, true, false, false, true, false, false, false, false, false, false, false, false, false, false] rfl rfl (any_of HT_.out (by kernel_rfl)) (fun _ _ _ h => h) (Or.inl ⟨by rfl, ?_⟩) ?_ ?_
                      rotate_left
                      · intro w'
                        go_simp
                        with_reducible rfl
                      rotate_left
                      · simp only [Act.put, List.setIfInBounds_toArray, List.set_cons_zero, List.set_cons_succ, i64_w, i32_w]
                        rfl
                      refine pure_ (i := 6) (N := some 36) (v := ?_) (a' := ?_) #[false, true, true, false, false, true, true, false, false, false, false, false, false, false, false, false] rfl rfl (any_of HT_.out (by kernel_rfl)) (fun _ _ _ h => h) (Or.inl ⟨by rfl, ?_⟩) ?_ ?_
                      rotate_left
                      · intro w'
                        go_simp
                        with_reducible rfl
                      rotate_left
                      · simp only [Act.put, List.setIfInBounds_toArray, List.set_cons_zero, List.set_cons_succ, i64_w, i32_w]
                        rfl
                      refine pure_ (i := 10) (N := some 40) (v := ?_) (a' := ?_) #[false, true, true, false, false, true, true, false, false, false, true, false, false, false, false, false] rfl rfl (any_of HT_.out (by kernel_rfl)) (fun _ _ _ h => h) (Or.inl ⟨by rfl, ?_⟩) ?_ ?_
                      rotate_left
                      · intro w'
                        go_simp
                        with_reducible rfl
                      rotate_left
                      · simp only [Act.put, List.setIfInBounds_toArray, List.set_cons_zero, List.set_cons_succ, i64_w, i32_w]
                        rfl
                      refine pure_ (i := 13) (N := some 43) (v := ?_) (a' := ?_) #[false, true, true, false, false, true, true, false, false, false, true, false, false, true, false, false] rfl rfl (any_of HT_.out (by kernel_rfl)) (fun _ _ _ h => h) (Or.inl ⟨by rfl, ?_⟩) ?_ ?_
                      rotate_left
                      · intro w'
                        go_simp
                        with_reducible rfl
                      rotate_left
                      · simp only [Act.put, List.setIfInBounds_toArray, List.set_cons_zero, List.set_cons_succ, i64_w, i32_w]
                        rfl
                      refine take_ (i := 0) (N := some 30) (v := ?_) (a' := ?_) #[true, true, true, false, false, true, true, false, false, false, true, false, false, true, false, false] rfl rfl (take_ofW HT_.out HW_.out (by kernel_rfl)) (fun _ _ _ h => h) (Or.inl ⟨by rfl, ?_⟩) hHeld ?_ ?_
                      rotate_left
                      · rintro w' ⟨s0, s1, s2, s3, s4, s5⟩
                        go_simp
                        with_reducible rfl
                      rotate_left
                      · simp only [Act.put, List.setIfInBounds_toArray, List.set_cons_zero, List.set_cons_succ, i64_w, i32_w]
                        rfl
                      refine take_ (i := 3) (N := some 33) (v := ?_) (a' := ?_) #[true, true, true, true, false, true, true, false, false, false, true, false, false, true, false, false] rfl rfl (take_ofW HT_.out HW_.out (by kernel_rfl)) (fun _ _ _ h => h) (Or.inl ⟨by rfl, ?_⟩) hHeld ?_ ?_
                      rotate_left
                      · rintro w' ⟨s0, s1, s2, s3, s4, s5⟩
                        go_simp
                        with_reducible rfl
                      rotate_left
                      · simp only [Act.put, List.setIfInBounds_toArray, List.set_cons_zero, List.set_cons_succ, i64_w, i32_w]
                        rfl
                      refine pure_ (i := 4) (N := some 34) (v := ?_) (a' := ?_) #[true, true, true, true, true, true, true, false, false, false, true, false, false, true, false, false] rfl rfl (any_of HT_.out (by kernel_rfl)) (fun _ _ _ h => h) (Or.inl ⟨by rfl, ?_⟩) ?_ ?_
                      rotate_left
                      · intro w'
                        go_simp
                        with_reducible rfl
                      rotate_left
                      · simp only [Act.put, List.setIfInBounds_toArray, List.set_cons_zero, List.set_cons_succ, i64_w, i32_w]
                        rfl
                      refine take_ (i := 7) (N := some 37) (v := ?_) (a' := ?_) #[true, true, true, true, true, true, true, true, false, false, true, false, false, true, false, false] rfl rfl (take_ofW HT_.out HW_.out (by kernel_rfl)) (fun _ _ _ h => h) (Or.inl ⟨by rfl, ?_⟩) hHeld ?_ ?_
                      rotate_left
                      · rintro w' ⟨s0, s1, s2, s3, s4, s5⟩
                        go_simp
                        with_reducible rfl
                      rotate_left
                      · simp only [Act.put, List.setIfInBounds_toArray, List.set_cons_zero, List.set_cons_succ, i64_w, i32_w]
                        rfl
                      refine pure_ (i := 8) (N := some 38) (v := ?_) (a' := ?_) #[true, true, true, true, true, true, true, true, true, false, true, false, false, true, false, false] rfl rfl (any_of HT_.out (by kernel_rfl)) (fun _ _ _ h => h) (Or.inl ⟨by rfl, ?_⟩) ?_ ?_
                      rotate_left
                      · intro w'
                        go_simp
                        with_reducible rfl
                      rotate_left
                      · simp only [Act.put, List.setIfInBounds_toArray, List.set_cons_zero, List.set_cons_succ, i64_w, i32_w]
                        rfl
                      refine take_ (i := 11) (N := some 41) (v := ?_) (a' := ?_) #[true, true, true, true, true, true, true, true, true, false, true, true, false, true, false, false] rfl rfl (take_ofW HT_.out HW_.out (by kernel_rfl)) (fun _ _ _ h => h) (Or.inl ⟨by rfl, ?_⟩) hHeld ?_ ?_
                      rotate_left
                      · rintro w' ⟨s0, s1, s2, s3, s4, s5⟩
                        go_simp
                        with_reducible rfl
                      rotate_left
                      · simp only [Act.put, List.setIfInBounds_toArray, List.set_cons_zero, List.set_cons_succ, i64_w, i32_w]
                        rfl
                      refine pure_ (i := 12) (N := some 42) (v := ?_) (a' := ?_) #[true, true, true, true, true, true, true, true, true, false, true, true, true, true, false, false] rfl rfl (any_of HT_.out (by kernel_rfl)) (fun _ _ _ h => h) (Or.inl ⟨by rfl, ?_⟩) ?_ ?_
                      rotate_left
                      · intro w'
                        go_simp
                        with_reducible rfl
                      rotate_left
                      · simp only [Act.put, List.setIfInBounds_toArray, List.set_cons_zero, List.set_cons_succ, i64_w, i32_w]
                        rfl
                      refine one_ (i := 9) (N := some 39) #[true, true, true, true, true, true, true, true, true, true, true, true, true, true, false, false] rfl rfl (one_of HT_.out (by kernel_rfl)) (by decide) (fun K hK => ?_)
                      refine goes_ Try.func93 (by kernel_rfl) rfl #[.agg #[.int .i64 a0_0, .int .i64 a0_1, .slice A0_2 l0_2.length c0_2], .int .i64 (Int.tmod x25_2 a1_0), .int .i64 (wrap64 (Int.tdiv x25_2 a1_0))] (by rfl) rfl rfl (by (try simp only [List.map_toArray, List.map_cons, List.map_nil]); first | done | rfl | (simp only [List.length_drop, List.length_take]; rfl)) ?_
                      with_reducible refine (spec_l2Rank.calls a0_0 a0_1 _ _ l0_2 (Int.tmod x25_2 a1_0) (wrap64 (Int.tdiv x25_2 a1_0)) t1126 _ ?side1 ?side2 A41.out).mono ?_
                      (case side1 => repeat (first | exact (Kd.C_below HR0_2.out HB.out) | (with_reducible refine Kd.C_alloc ?_ _) | (with_reducible refine Kd.C_drewN ?_ _) | (with_reducible refine Kd.C_drew ?_)))
                      (case side2 => exact HC0_2.out)
                      rintro e w55 ⟨rfl, hb⟩
                      refine ⟨_, rfl, ?_⟩
                      have n0_ := Aside0.mk (Kd.R_below (by (with_reducible repeat (first | apply Kd.R_alloc | apply Kd.R_drewN | apply Kd.R_drew)); exact HO_1125002.out) hb)
                      have n1_ := Aside0.mk (blk_below (g := gb1114) (o := .cells #[.int .i64 a0_0, .int .i64 a0_1, .slice A0_2 l0_2.length c0_2] 26 (0, 0)) (by (with_reducible repeat (first | refine blk_drewN ?_ _ | refine blk_drew ?_ | refine blk_alloc ?_ _)); exact BK1114.out) hb)
                      have n2_ := Aside0.mk (blk_below (g := gb1115) (o := .cells #[.int .i64 a1_0, .int .i64 a1_1, .slice (some ad1125) l1_2.length c1_2] 41 (0, 0)) (by (with_reducible repeat (first | refine blk_drewN ?_ _ | refine blk_drew ?_ | refine blk_alloc ?_ _)); exact BK1115.out) hb)
                      have n3_ := Aside0.mk (blk_below (g := gb1116) (o := .cells #[.int .i64 0, .int .i64 0, .slice none 0 0] 41 (0, 0)) (by (with_reducible repeat (first | refine blk_drewN ?_ _ | refine blk_drew ?_ | refine blk_alloc ?_ _)); exact BK1116.out) hb)
                      have n4_ := Aside0.mk (blk_below (g := gb1124) (o := .cells #[.int .i64 t1119, .int .i64 t1120, u1125002] 41 (0, 0)) (by (with_reducible repeat (first | refine blk_drewN ?_ _ | refine blk_drew ?_ | refine blk_alloc ?_ _)); exact BK1124.out) hb)
                      have n5_ := Aside0.mk (below_step (by repeat (first | (with_reducible first | exact HB.out | apply below_alloc | apply pw_below_drewN | apply below_drew1 | refine below_set ?_ GE1114.out | refine below_set ?_ GE1115.out | refine below_set ?_ GE1116.out | refine below_set ?_ GE1124.out) | exact HB.out)) hb)
                      clear HO_1125002
                      clear BK1114
                      clear BK1115
                      clear BK1116
                      clear BK1124
                      clear HB
                      have HO_1125002 := n0_
                      have BK1114 := n1_
                      have BK1115 := n2_
                      have BK1116 := n3_
                      have BK1124 := n4_
                      have HB := n5_
                      clear n0_ n1_ n2_ n3_ n4_ n5_
                      (try clear hb)
                      (try clear hb2)
                      (try clear hk)
                      (try clear hi)
                      refine hK.out _ _ ⟨(blk_cell BK1114.out 0).trans rfl, (blk_cell BK1114.out 1).trans rfl, (blk_cell BK1114.out 2).trans rfl, (blk_cell BK1115.out 0).trans rfl, (blk_cell BK1115.out 1).trans rfl, (blk_cell BK1115.out 2).trans rfl⟩ (fun hHeld => ?_)
                      clear hK K
                      refine norm_ (a' := ?_) ?_ ?_
                      rotate_left
                      · show Act.put _ (some 39) _ = _
                        simp only [Act.put, List.setIfInBounds_toArray, List.set_cons_zero, List.set_cons_succ, i64_w, i32_w]
                        rfl
                      refine one_ (i := 14) (N := some 44) #[true, true, true, true, true, true, true, true, true, true, true, true, true, true, true, false] rfl rfl (one_of HT_.out (by kernel_rfl)) (by decide) (fun K hK => ?_)
                      refine goes_ Try.func113 (by kernel_rfl) rfl #[.int .i64 (l0_2.length : Int), .int .i64 (rd l1_2 x25_2)] (by rfl) rfl rfl (by (try simp only [List.map_toArray, List.map_cons, List.map_nil]); first | done | rfl | (simp only [List.length_drop, List.length_take]; rfl)) ?_
                      with_reducible refine (spec_l3Level.calls (l0_2.length : Int) (rd l1_2 x25_2) t1127 _ A42.out).mono ?_
                      rintro e w' ⟨rfl, ⟨nd, rfl⟩⟩
                      refine ⟨_, rfl, ?_⟩
                      refine hK.out _ _ ⟨(blk_cell BK1114.out 0).trans rfl, (blk_cell BK1114.out 1).trans rfl, (blk_cell BK1114.out 2).trans rfl, (blk_cell BK1115.out 0).trans rfl, (blk_cell BK1115.out 1).trans rfl, (blk_cell BK1115.out 2).trans rfl⟩ (fun hHeld => ?_)
                      clear hK K
                      refine norm_ (a' := ?_) ?_ ?_
                      rotate_left
                      · show Act.put _ (some 44) _ = _
                        simp only [Act.put, List.setIfInBounds_toArray, List.set_cons_zero, List.set_cons_succ, i64_w, i32_w]
                        rfl
                      refine pure_ (i := 15) (N := some 45) (v := ?_) (a' := ?_) #[true, true, true, true, true, true, true, true, true, true, true, true, true, true, true, true] rfl rfl (any_of HT_.out (by kernel_rfl)) (fun _ _ _ h => h) (Or.inl ⟨by rfl, ?_⟩) ?_ ?_
                      rotate_left
                      · intro w'
                        go_simp
                        with_reducible rfl
                      rotate_left
                      · simp only [Act.put, List.setIfInBounds_toArray, List.set_cons_zero, List.set_cons_succ, i64_w, i32_w]
                        rfl
                      refine done_ (done_of HT_.out (by kernel_rfl)) ?_
                      try go_wp2
                      go_roundg k2
                      case measure => have := HJ2.out; have := HK2.out; omega
                      case rel => exact ⟨(wrap64 (x25_2 + 1)), (x1125002_2), (u1125002), (by first | rfl | (simp; done) | (simp [*]; done)), H', ⟨by have := HJ2.out; have := HK2.out; omega⟩, ⟨by (with_reducible repeat (first | apply Kd.R_alloc | apply Kd.R_drewN | apply Kd.R_drew)); exact HO_1125002.out⟩, ⟨by (with_reducible repeat (first | refine blk_drewN ?_ _ | refine blk_drew ?_ | refine blk_alloc ?_ _)); exact BK1114.out⟩, ⟨by (with_reducible repeat (first | refine blk_drewN ?_ _ | refine blk_drew ?_ | refine blk_alloc ?_ _)); exact BK1115.out⟩, ⟨by (with_reducible repeat (first | refine blk_drewN ?_ _ | refine blk_drew ?_ | refine blk_alloc ?_ _)); exact BK1116.out⟩, ⟨by (with_reducible repeat (first | refine blk_drewN ?_ _ | refine blk_drew ?_ | refine blk_alloc ?_ _)); exact BK1124.out⟩, ⟨by repeat (first | (with_reducible first | exact HB.out | apply below_alloc | apply pw_below_drewN | apply below_drew1 | refine below_set ?_ GE1114.out | refine below_set ?_ GE1115.out | refine below_set ?_ GE1116.out | refine below_set ?_ GE1124.out) | exact HB.out)⟩⟩
                · rw [if_neg c39] at H
                  exact absurd H (by simp)
              · rw [if_neg c38] at H
                exact absurd H (by simp)
            · rw [if_neg c37] at H
              have c37b0 : decide (x25_2 < (l1_2.length : Int)) = false := decide_eq_false c37
              clear c37
              simp only [Option.some.injEq, Prod.mk.injEq] at H
              obtain ⟨rfl, rfl, rfl⟩ := H
              have hnb56 := NB1124_1114.out
              have hnc56 := NB1114_1124.out
              have hnb57 := NB1124_1115.out
              have hnc57 := NB1115_1124.out
              have hnb58 := NB1124_1116.out
              have hnc58 := NB1116_1124.out
              have hcz59_0 : wr.cell? ⟨gb1124, 0, none⟩ = some (.int .i64 t1119) := (blk_cell BK1124.out 0).trans rfl
              have hcz59_1 : wr.cell? ⟨gb1124, 1, none⟩ = some (.int .i64 t1120) := (blk_cell BK1124.out 1).trans rfl
              have hcz59_2 : wr.cell? ⟨gb1124, 2, none⟩ = some (u1125002) := (blk_cell BK1124.out 2).trans rfl
              have hfz59_0 := blk_frozen BK1124.out 0
              have hfz59_1 := blk_frozen BK1124.out 1
              have hfz59_2 := blk_frozen BK1124.out 2
              have hnb60 := NB1116_1114.out
              have hnc60 := NB1114_1116.out
              have hnb61 := NB1116_1115.out
              have hnc61 := NB1115_1116.out
              have hcz62_0 : wr.cell? ⟨gb1116, 0, none⟩ = some (.int .i64 0) := (blk_cell BK1116.out 0).trans rfl
              have hcz62_1 : wr.cell? ⟨gb1116, 1, none⟩ = some (.int .i64 0) := (blk_cell BK1116.out 1).trans rfl
              have hcz62_2 : wr.cell? ⟨gb1116, 2, none⟩ = some (.slice none 0 0) := (blk_cell BK1116.out 2).trans rfl
              have hfz62_0 := blk_frozen BK1116.out 0
              have hfz62_1 := blk_frozen BK1116.out 1
              have hfz62_2 := blk_frozen BK1116.out 2
              obtain ⟨Ao63, co63, eo63⟩ := Kd.R_slice HO_1125002.out
              subst eo63
              go_wp2
              refine bodyPost_ret (results_cell_row rfl _ _ gb1116 41 #[.int .i64 t1119, .int .i64 t1120, .slice Ao63 x1125002_2.length co63] (0, 0) _ rfl (by (with_reducible repeat (first | refine blk_drewN ?_ _ | refine blk_drew ?_ | refine blk_alloc ?_ _)); refine blk_put (cs := #[.int .i64 t1119, .int .i64 t1120, .slice none 0 0]) ?_ 2 _ rfl; (with_reducible repeat (first | refine blk_drewN ?_ _ | refine blk_drew ?_ | refine blk_alloc ?_ _)); refine blk_put (cs := #[.int .i64 t1119, .int .i64 0, .slice none 0 0]) ?_ 1 _ rfl; (with_reducible repeat (first | refine blk_drewN ?_ _ | refine blk_drew ?_ | refine blk_alloc ?_ _)); refine blk_put (cs := #[.int .i64 0, .int .i64 0, .slice none 0 0]) ?_ 0 _ rfl; (with_reducible repeat (first | refine blk_drewN ?_ _ | refine blk_drew ?_ | refine blk_alloc ?_ _)); exact BK1116.out) Try.underlying41 rfl (by kernel_rfl)) rfl ?_
              exact ⟨_, by first | rfl | (simp [errW_none, errW_some] <;> rfl) | (simp [*, errW_none, errW_some] <;> rfl), by (with_reducible repeat (first | apply Kd.R_alloc | apply Kd.R_drewN | apply Kd.R_drew)); exact Kd.R_mono (Kd.R_far (p := ⟨gb1116, 2, none⟩) (Kd.R_far (p := ⟨gb1116, 1, none⟩) (Kd.R_far (p := ⟨gb1116, 0, none⟩) (Kd.R_types HO_1125002.out BK1116.out (by decide)) (fun _ hk => hk.2) (.int .i64 t1119)) (fun _ hk => hk.2) (.int .i64 t1120)) (fun _ hk => hk.2) (.slice Ao63 x1125002_2.length co63)) (fun _ hk => trivial), by repeat (first | (with_reducible first | exact HB.out | apply below_alloc | apply pw_below_drewN | apply below_drew1 | refine below_set ?_ GE1114.out | refine below_set ?_ GE1115.out | refine below_set ?_ GE1116.out | refine below_set ?_ GE1124.out) | exact HB.out)⟩

end Go.Proofs.Ytdlehfnlibddcaa.P
