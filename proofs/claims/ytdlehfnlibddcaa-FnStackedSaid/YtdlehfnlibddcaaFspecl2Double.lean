-- Written by tools/seatprint.py (over the kit's print, changed in memory). Not trusted: Lean checks it.
import Derived.Test.YtdlehfnlibddcaaP0
import Derived.Test.YtdlehfnlibddcaaFspecl2Rank
namespace Go.Proofs.Ytdlehfnlibddcaa.P
open Go.RowKit Go.Proofs.YtdlehfnlibddcaaW.PrintWords Go.Proofs.YtdlehfnlibddcaaW.PrintLast Go.Proofs.YtdlehfnlibddcaaW.PrintMore
attribute [local go_sem] max2_int min2_int max_two min_two max_three min_three max_four min_four   -- for this text's walks alone
set_option linter.unusedVariables false
set_option linter.unusedSimpArgs false

/-! ### spec_l2Double: function 101 -/
mutual
def spec_l2Double.l0 : Nat → Int → Int → Int → List Int → Int → Int → List Int → Option (Int × Int × List Int)
  | 0, _, _, _, _, _, _, _ => none
  | k + 1, x4, x244000, x244001, x244002, x246000, x246001, x246002 => if x4 < (wrap64 (4 * (x244002.length : Int))) then (if x246000 = 0 then (none) else (if (Int.tmod x4 x246000) ≥ x244000 then (spec_l2Double.j1 k x4 (Int.tmod x4 x246000) (wrap64 (Int.tdiv x4 x246000)) 0 (decide ((wrap64 (Int.tdiv x4 x246000)) < x244001)) x244000 x244001 x244002 x246000 x246001 x246002) else (spec_l2Double.j1 k x4 (Int.tmod x4 x246000) (wrap64 (Int.tdiv x4 x246000)) 0 false x244000 x244001 x244002 x246000 x246001 x246002))) else (some (x246000, x246001, x246002))
def spec_l2Double.j1 : Nat → Int → Int → Int → Int → Bool → Int → Int → List Int → Int → Int → List Int → Option (Int × Int × List Int)
  | 0, _, _, _, _, _, _, _, _, _, _, _ => none
  | k + 1, x4, x5, x6, x7, x31, x244000, x244001, x244002, x246000, x246001, x246002 => if x31 = true then ((spec_l2Rank.f x244000 x244001 x244002 x5 x6).bind fun t246 => (if x246002.length < 17592186044416 then (spec_l2Double.l0 k (wrap64 (x4 + 1)) x244000 x244001 x244002 x246000 x246001 (x246002 ++ [wrap64 ((wrap64 (4 * t246)) + 2)])) else (none))) else (if x5 < x244000 then (spec_l2Double.j2 k x4 x5 x6 x7 (decide (x6 ≥ x244001)) x244000 x244001 x244002 x246000 x246001 x246002) else (spec_l2Double.j2 k x4 x5 x6 x7 false x244000 x244001 x244002 x246000 x246001 x246002))
def spec_l2Double.j2 : Nat → Int → Int → Int → Int → Bool → Int → Int → List Int → Int → Int → List Int → Option (Int × Int × List Int)
  | 0, _, _, _, _, _, _, _, _, _, _, _ => none
  | k + 1, x4, x5, x6, x7, x42, x244000, x244001, x244002, x246000, x246001, x246002 => if x42 = true then ((spec_l2Rank.f x244000 x244001 x244002 x5 x6).bind fun t250 => (if x246002.length < 17592186044416 then (spec_l2Double.l0 k (wrap64 (x4 + 1)) x244000 x244001 x244002 x246000 x246001 (x246002 ++ [wrap64 ((wrap64 (4 * t250)) + 3)])) else (none))) else (if x5 ≥ x244000 then (if x6 ≥ x244001 then ((spec_l2Rank.f x244000 x244001 x244002 x5 x6).bind fun t254 => (if x246002.length < 17592186044416 then (spec_l2Double.l0 k (wrap64 (x4 + 1)) x244000 x244001 x244002 x246000 x246001 (x246002 ++ [wrap64 ((wrap64 (4 * t254)) + 1)])) else (none))) else ((spec_l2Rank.f x244000 x244001 x244002 x5 x6).bind fun t258 => (if x246002.length < 17592186044416 then (spec_l2Double.l0 k (wrap64 (x4 + 1)) x244000 x244001 x244002 x246000 x246001 (x246002 ++ [wrap64 ((wrap64 (4 * t258)) + x7)])) else (none)))) else ((spec_l2Rank.f x244000 x244001 x244002 x5 x6).bind fun t262 => (if x246002.length < 17592186044416 then (spec_l2Double.l0 k (wrap64 (x4 + 1)) x244000 x244001 x244002 x246000 x246001 (x246002 ++ [wrap64 ((wrap64 (4 * t262)) + x7)])) else (none))))
end
def spec_l2Double.f (k : Nat) (a0_0 : Int) (a0_1 : Int) (l0_2 : List Int) : Option (Int × Int × List Int) := spec_l2Double.l0 k 0 a0_0 a0_1 l0_2 (wrap64 (2 * a0_0)) (wrap64 (2 * a0_1)) ([] : List Int)
theorem spec_l2Double.mono_l : ∀ k, (∀ y0 y1 y2 y3 y4 y5 y6, LeO (spec_l2Double.l0 k y0 y1 y2 y3 y4 y5 y6) (spec_l2Double.l0 (k + 1) y0 y1 y2 y3 y4 y5 y6)) ∧ (∀ y0 y1 y2 y3 y4 y5 y6 y7 y8 y9 y10, LeO (spec_l2Double.j1 k y0 y1 y2 y3 y4 y5 y6 y7 y8 y9 y10) (spec_l2Double.j1 (k + 1) y0 y1 y2 y3 y4 y5 y6 y7 y8 y9 y10)) ∧ (∀ y0 y1 y2 y3 y4 y5 y6 y7 y8 y9 y10, LeO (spec_l2Double.j2 k y0 y1 y2 y3 y4 y5 y6 y7 y8 y9 y10) (spec_l2Double.j2 (k + 1) y0 y1 y2 y3 y4 y5 y6 y7 y8 y9 y10))
  | 0 => ⟨fun _ _ _ _ _ _ _ r h => by simp [spec_l2Double.l0] at h, fun _ _ _ _ _ _ _ _ _ _ _ r h => by simp [spec_l2Double.j1] at h, fun _ _ _ _ _ _ _ _ _ _ _ r h => by simp [spec_l2Double.j2] at h⟩
  | k + 1 => by
    obtain ⟨ih0, ih1, ih2⟩ := spec_l2Double.mono_l k
    refine ⟨?_, ?_, ?_⟩
    · intro y0 y1 y2 y3 y4 y5 y6
      unfold spec_l2Double.l0
      repeat' first
      | (with_reducible exact ih0 _ _ _ _ _ _ _)
      | (with_reducible exact ih1 _ _ _ _ _ _ _ _ _ _ _)
      | (with_reducible exact ih2 _ _ _ _ _ _ _ _ _ _ _)
      | (with_reducible exact LeO.refl _)
      | (with_reducible exact LeO.none _)
      | (with_reducible refine LeO.ite ?_ ?_)
      | (with_reducible refine LeO.bind ?_ (fun _ => ?_))
      | exact ih0 _ _ _ _ _ _ _
      | exact ih1 _ _ _ _ _ _ _ _ _ _ _
      | exact ih2 _ _ _ _ _ _ _ _ _ _ _
      | exact LeO.none _
      | refine LeO.ite ?_ ?_
      | refine LeO.bind ?_ (fun _ => ?_)
    · intro y0 y1 y2 y3 y4 y5 y6 y7 y8 y9 y10
      unfold spec_l2Double.j1
      repeat' first
      | (with_reducible exact ih0 _ _ _ _ _ _ _)
      | (with_reducible exact ih1 _ _ _ _ _ _ _ _ _ _ _)
      | (with_reducible exact ih2 _ _ _ _ _ _ _ _ _ _ _)
      | (with_reducible exact LeO.refl _)
      | (with_reducible exact LeO.none _)
      | (with_reducible refine LeO.ite ?_ ?_)
      | (with_reducible refine LeO.bind ?_ (fun _ => ?_))
      | exact ih0 _ _ _ _ _ _ _
      | exact ih1 _ _ _ _ _ _ _ _ _ _ _
      | exact ih2 _ _ _ _ _ _ _ _ _ _ _
      | exact LeO.none _
      | refine LeO.ite ?_ ?_
      | refine LeO.bind ?_ (fun _ => ?_)
    · intro y0 y1 y2 y3 y4 y5 y6 y7 y8 y9 y10
      unfold spec_l2Double.j2
      repeat' first
      | (with_reducible exact ih0 _ _ _ _ _ _ _)
      | (with_reducible exact ih1 _ _ _ _ _ _ _ _ _ _ _)
      | (with_reducible exact ih2 _ _ _ _ _ _ _ _ _ _ _)
      | (with_reducible exact LeO.refl _)
      | (with_reducible exact LeO.none _)
      | (with_reducible refine LeO.ite ?_ ?_)
      | (with_reducible refine LeO.bind ?_ (fun _ => ?_))
      | exact ih0 _ _ _ _ _ _ _
      | exact ih1 _ _ _ _ _ _ _ _ _ _ _
      | exact ih2 _ _ _ _ _ _ _ _ _ _ _
      | exact LeO.none _
      | refine LeO.ite ?_ ?_
      | refine LeO.bind ?_ (fun _ => ?_)
theorem spec_l2Double.mono : ∀ a0 a1 a2 k, LeO (spec_l2Double.f k a0 a1 a2) (spec_l2Double.f (k + 1) a0 a1 a2) := by
  intro a0 a1 a2 k
  obtain ⟨ih0, ih1, ih2⟩ := spec_l2Double.mono_l k
  unfold spec_l2Double.f
  repeat' first
      | (with_reducible exact ih0 _ _ _ _ _ _ _)
      | (with_reducible exact ih1 _ _ _ _ _ _ _ _ _ _ _)
      | (with_reducible exact ih2 _ _ _ _ _ _ _ _ _ _ _)
      | (with_reducible exact LeO.refl _)
      | (with_reducible exact LeO.none _)
      | (with_reducible refine LeO.ite ?_ ?_)
      | (with_reducible refine LeO.bind ?_ (fun _ => ?_))
      | exact ih0 _ _ _ _ _ _ _
      | exact ih1 _ _ _ _ _ _ _ _ _ _ _
      | exact ih2 _ _ _ _ _ _ _ _ _ _ _
      | exact LeO.none _
      | refine LeO.ite ?_ ?_
      | refine LeO.bind ?_ (fun _ => ?_)
def spec_l2Double.T14 : Bool × List (List Nat × List Nat) := (true, [([], []), ([0], [0]), ([], []), ([], []), ([], []), ([2, 3, 4], [2, 3, 4]), ([5], [5]), ([], []), ([6, 7], [6, 7]), ([8], [8]), ([1, 9, 5], [1, 9]), ([0, 1, 2, 3, 4, 5, 6, 7, 8, 9, 10], []), ([11, 10, 10, 0, 1, 2, 3, 4, 5, 6, 7, 8, 9, 10], [10, 11])])
def spec_l2Double.B14 : List Nat := [0, 1, 0, 0, 0, 28, 60, 0, 252, 508, 1023, 2047, 4095]
theorem spec_l2Double.tab14 : rtab .any (opsOf Try.f101 14) = spec_l2Double.T14 := by kernel_rfl
theorem spec_l2Double.bits14 : waitsOk spec_l2Double.T14.2 spec_l2Double.B14 = true := by kernel_rfl
set_option maxHeartbeats 8000000 in
set_option maxRecDepth 100000 in
theorem spec_l2Double.calls (k : Nat) (a0_0 : Int) (a0_1 : Int) (A0_2 : Option Addr) (c0_2 : Nat) (l0_2 : List Int) (r1 : Int) (r2 : Int) (r3 : List Int) (w : World) (hr0_2 : Kd.C (Kd.int .i64) w A0_2 l0_2.length l0_2) (hc0_2 : l0_2.length ≤ c0_2) (h : spec_l2Double.f k a0_0 a0_1 l0_2 = some (r1, r2, r3)) :
  Calls Try.prog 101 #[.agg #[.int .i64 a0_0, .int .i64 a0_1, .slice A0_2 l0_2.length c0_2]] w fun e w' => ∃ v2_ : Value, e = .returned (.agg #[.int .i64 r1, .int .i64 r2, v2_]) ∧ Kd.R (Kd.int .i64) 3 w' w.heap.size (fun _ => True) v2_ r3 ∧ Below w.heap.size w w' := by
 have hu26 := Try.underlying26
 have HR0_2 := Aside0.mk hr0_2
 have HC0_2 := Aside0.mk hc0_2
 clear hr0_2 hc0_2
 have HB := Aside0.mk (Below.refl w.heap.size w)
 have H : (spec_l2Double.l0 k 0 a0_0 a0_1 l0_2 (wrap64 (2 * a0_0)) (wrap64 (2 * a0_1)) ([] : List Int)) = some (r1, r2, r3) := h
 clear h
 have H' := Aside0.mk H
 clear H
 go_enter Try.func101, Try.ntmps101
 go_wp2_with (first | ((with_reducible refine gate_dst (N := 1) rfl ?_); refine box_event ?hg (N := 1) ?hd (cs := #[.int .i64 a0_0, .int .i64 a0_1, .slice A0_2 l0_2.length c0_2]) (t := 26) ?hr ?_; (case hd => rfl); (case hg => rfl); (case hr => first | (go_simp; done) | (go_simp; rfl)); intro gb243 hg w2 hbox hb; have n0_ := Aside0.mk (below_step (sW_ HB.out) hb); have n1_ := Aside0.mk (hbox); have n2_ := Aside0.mk ((by rw [hg]; exact (below_size (sW_ HB.out)) : w.heap.size ≤ gb243)); have n3_ := n2_; clear HB; have HB := n0_; have BK243 := n1_; have GW243 := n2_; have GE243 := n3_; clear n0_ n1_ n2_ n3_; clear hb hbox hg) | ((with_reducible refine gate_dst (N := 2) rfl ?_); refine box_event ?hg (N := 2) ?hd (cs := #[.int .i64 0, .int .i64 0, .slice none 0 0]) (t := 26) ?hr ?_; (case hd => rfl); (case hg => rfl); (case hr => first | (go_simp; done) | (go_simp; rfl)); intro gb244 hg w3 hbox hb; have n0_ := Aside0.mk (blk_below (sB_ BK243.out) hb); have n1_ := Aside0.mk (below_step (sW_ HB.out) hb); have n2_ := Aside0.mk (hbox); have n3_ := Aside0.mk ((by rw [hg]; exact (below_size (sW_ HB.out)) : w.heap.size ≤ gb244)); have n4_ := n3_; have n5_ := Aside0.mk (sN_ hg (blk_lt (sB_ BK243.out))); have n6_ := Aside0.mk n5_.out.symm; clear BK243 HB; have BK243 := n0_; have HB := n1_; have BK244 := n2_; have GW244 := n3_; have GE244 := n4_; have NB243_244 := n5_; have NB244_243 := n6_; clear n0_ n1_ n2_ n3_ n4_ n5_ n6_; clear hb hbox hg; have hnb4 := NB243_244.out; have hnc4 := NB244_243.out; obtain ⟨hcz5_0, hcz5_1, hcz5_2, hfz5_0, hfz5_1, hfz5_2⟩ := sZ_ BK243.out) | ((with_reducible refine gate_dst (N := 3) rfl ?_); refine box_event ?hg (N := 3) ?hd (cs := #[.int .i64 0, .int .i64 0, .slice none 0 0]) (t := 26) ?hr ?_; (case hd => rfl); (case hg => rfl); (case hr => first | (go_simp; done) | (go_simp; rfl)); intro gb245 hg w6 hbox hb; have n0_ := Aside0.mk (blk_below (sB_ BK243.out) hb); have n1_ := Aside0.mk (blk_below (sB_ BK244.out) hb); have n2_ := Aside0.mk (below_step (sW_ HB.out) hb); have n3_ := Aside0.mk (hbox); have n4_ := Aside0.mk ((by rw [hg]; exact (below_size (sW_ HB.out)) : w.heap.size ≤ gb245)); have n5_ := n4_; have n6_ := Aside0.mk (sN_ hg (blk_lt (sB_ BK243.out))); have n7_ := Aside0.mk n6_.out.symm; have n8_ := Aside0.mk (sN_ hg (blk_lt (sB_ BK244.out))); have n9_ := Aside0.mk n8_.out.symm; clear BK243 BK244 HB; have BK243 := n0_; have BK244 := n1_; have HB := n2_; have BK245 := n3_; have GW245 := n4_; have GE245 := n5_; have NB243_245 := n6_; have NB245_243 := n7_; have NB244_245 := n8_; have NB245_244 := n9_; clear n0_ n1_ n2_ n3_ n4_ n5_ n6_ n7_ n8_ n9_; clear hb hbox hg; have hnb7 := NB245_243.out; have hnc7 := NB243_245.out; have hnb8 := NB245_244.out; have hnc8 := NB244_245.out; obtain ⟨hcz9_0, hcz9_1, hcz9_2, hfz9_0, hfz9_1, hfz9_2⟩ := sZ_ BK245.out))
 go_loopg [4] k (fun kq v4 w' => ∃ (x4_1 : Int) (x246002_1 : List Int) (u246002 : Value), v4 = .int .i64 x4_1 ∧ Aside0 (spec_l2Double.l0 kq x4_1 a0_0 a0_1 l0_2 (wrap64 (2 * a0_0)) (wrap64 (2 * a0_1)) x246002_1 = some (r1, r2, r3)) ∧ Aside0 (kq ≤ k) ∧ Aside0 (Kd.R (Kd.int .i64) 3 w' w.heap.size (fun _ => True) u246002 x246002_1) ∧ Aside0 (w'.heap[gb243]? = some (.cells #[.int .i64 a0_0, .int .i64 a0_1, (.slice A0_2 l0_2.length c0_2)] 26 (0, 0))) ∧ Aside0 (w'.heap[gb244]? = some (.cells #[.int .i64 0, .int .i64 0, (.slice none 0 0)] 26 (0, 0))) ∧ Aside0 (w'.heap[gb245]? = some (.cells #[.int .i64 (wrap64 (2 * a0_0)), .int .i64 (wrap64 (2 * a0_1)), u246002] 26 (0, 0))) ∧ Aside0 (Below w.heap.size w w'))
 case atStart => exact ⟨(0), (([] : List Int)), (.slice none 0 0), (by first | rfl | (simp; done) | (simp [*]; done)), H', ⟨Nat.le_refl _⟩, ⟨by first | exact Kd.R_nil _ _ _ _ _ | exact Kd.N_nil _ _ _ _ _ | exact Kd.V_nil _ _ _ _ _ | exact Kd.Q_nil _ _ _ _ _ | exact Kd.S_nil _ _ _ _ _⟩, ⟨by refine sB_ ?_; refine blk_far ?_ NB243_245.out _; refine sB_ ?_; refine blk_far ?_ NB243_245.out _; refine sB_ ?_; refine blk_far ?_ NB243_245.out _; refine sB_ ?_; exact BK243.out⟩, ⟨by refine sB_ ?_; refine blk_far ?_ NB244_245.out _; refine sB_ ?_; refine blk_far ?_ NB244_245.out _; refine sB_ ?_; refine blk_far ?_ NB244_245.out _; refine sB_ ?_; exact BK244.out⟩, ⟨by refine sB_ ?_; refine blk_put (cs := #[.int .i64 (wrap64 (2 * a0_0)), .int .i64 (wrap64 (2 * a0_1)), .slice none 0 0]) ?_ 2 _ rfl; refine sB_ ?_; refine blk_put (cs := #[.int .i64 (wrap64 (2 * a0_0)), .int .i64 0, .slice none 0 0]) ?_ 1 _ rfl; refine sB_ ?_; refine blk_put (cs := #[.int .i64 0, .int .i64 0, .slice none 0 0]) ?_ 0 _ rfl; refine sB_ ?_; exact BK245.out⟩, ⟨by repeat (first | (with_reducible first | exact HB.out | apply below_alloc | apply pw_below_drewN | apply below_drew1 | refine below_set ?_ GE243.out | refine below_set ?_ GE244.out | refine below_set ?_ GE245.out) | exact HB.out)⟩⟩
 case round =>
  clear H'
  try clear c1
  try clear p2
  try clear c4
  try clear p6
  try clear c7
  try clear c8
  try clear hcz5_0
  try clear hcz5_1
  try clear hcz5_2
  try clear hcz9_0
  try clear hcz9_1
  try clear hcz9_2
  try clear hfz5_0
  try clear hfz5_1
  try clear hfz5_2
  try clear hfz9_0
  try clear hfz9_1
  try clear hfz9_2
  obtain ⟨x4_1, x246002_1, u246002, rfl, HA, HK1, HO_246002, BK243, BK244, BK245, HB⟩ := hrel
  cases gk with
  | zero => exact absurd HA.out (by simp [spec_l2Double.l0])
  | succ k1 =>
   have H := HA.out; clear HA
   simp only [spec_l2Double.l0] at H
   by_cases c10 : x4_1 < (wrap64 (4 * (l0_2.length : Int)))
   ·rw [if_pos c10] at H
    have c10b0 : decide (x4_1 < (wrap64 (4 * (l0_2.length : Int)))) = true := decide_eq_true c10
    clear c10
    by_cases c11 : (wrap64 (2 * a0_0)) = 0
    ·rw [if_pos c11] at H
     exact absurd H (by simp)
    rw [if_neg c11] at H
    have c11b0 : ((wrap64 (2 * a0_0)) == 0) = false := beq_eq_false_iff_ne.mpr c11
    have c11b1 : ((wrap64 (2 * a0_0)) != 0) = true := bne_iff_ne.mpr c11
    have HC12 := Aside0.mk H
    clear H; have hnb13 := NB243_244.out; have hnc13 := NB244_243.out; have hnb14 := NB243_245.out; have hnc14 := NB245_243.out
    obtain ⟨hcz15_0, hcz15_1, hcz15_2, hfz15_0, hfz15_1, hfz15_2⟩ := sZ_ BK243.out
    have hnb16 := NB245_244.out; have hnc16 := NB244_245.out
    have hcz17_0 : wr.cell? ⟨gb245, 0, none⟩ = some (.int .i64 (wrap64 (2 * a0_0))) := (blk_cell BK245.out 0).trans rfl
    have hcz17_1 : wr.cell? ⟨gb245, 1, none⟩ = some (.int .i64 (wrap64 (2 * a0_1))) := (blk_cell BK245.out 1).trans rfl
    have hcz17_2 : wr.cell? ⟨gb245, 2, none⟩ = some (u246002) := (blk_cell BK245.out 2).trans rfl
    have hfz17_0 := blk_frozen BK245.out 0
    have hfz17_1 := blk_frozen BK245.out 1
    have hfz17_2 := blk_frozen BK245.out 2
    go_upto_region 8 with (fail)
    go_cut [31] (fun v31 wc => ∃ (kq : Nat) (x31_11 : Bool), v31 = .bool x31_11 ∧ Aside0 (spec_l2Double.j1 kq x4_1 (Int.tmod x4_1 (wrap64 (2 * a0_0))) (wrap64 (Int.tdiv x4_1 (wrap64 (2 * a0_0)))) 0 x31_11 a0_0 a0_1 l0_2 (wrap64 (2 * a0_0)) (wrap64 (2 * a0_1)) x246002_1 = some (r1, r2, r3)) ∧ Aside0 (kq ≤ k1) ∧ Aside0 (Kd.R (Kd.int .i64) 3 wc w.heap.size (fun _ => True) u246002 x246002_1) ∧ Aside0 (wc.heap[gb243]? = some (.cells #[.int .i64 a0_0, .int .i64 a0_1, (.slice A0_2 l0_2.length c0_2)] 26 (0, 0))) ∧ Aside0 (wc.heap[gb244]? = some (.cells #[.int .i64 0, .int .i64 0, (.slice none 0 0)] 26 (0, 0))) ∧ Aside0 (wc.heap[gb245]? = some (.cells #[.int .i64 (wrap64 (2 * a0_0)), .int .i64 (wrap64 (2 * a0_1)), u246002] 26 (0, 0))) ∧ Aside0 (Below w.heap.size w wc))
    case first =>
     have H := HC12.out; clear HC12
     by_cases c18 : (Int.tmod x4_1 (wrap64 (2 * a0_0))) ≥ a0_0
     ·rw [if_pos c18] at H
      have c18b0 : decide (a0_0 ≤ (Int.tmod x4_1 (wrap64 (2 * a0_0)))) = true := decide_eq_true c18
      clear c18
      (first | rw [c18b0] | (simp only [i64_w, i32_w]; rw [c18b0]) | skip)
      have H' := Aside0.mk H
      clear H; have hnb19 := NB243_244.out; have hnc19 := NB244_243.out; have hnb20 := NB243_245.out; have hnc20 := NB245_243.out
      obtain ⟨hcz21_0, hcz21_1, hcz21_2, hfz21_0, hfz21_1, hfz21_2⟩ := sZ_ BK243.out
      go_wp2
      go_meet
      case rel => exact ⟨_, (decide ((wrap64 (Int.tdiv x4_1 (wrap64 (2 * a0_0)))) < a0_1)), (by first | rfl | (simp; done) | (simp [*]; done)), H', ⟨by have := HK1.out; first | omega | exact Nat.le_refl _⟩, ⟨by (with_reducible repeat (first | apply Kd.R_alloc | apply Kd.R_drewN | apply Kd.R_drew)); exact HO_246002.out⟩, ⟨by refine sB_ ?_; exact BK243.out⟩, ⟨by refine sB_ ?_; exact BK244.out⟩, ⟨by refine sB_ ?_; exact BK245.out⟩, ⟨by repeat (first | (with_reducible first | exact HB.out | apply below_alloc | apply pw_below_drewN | apply below_drew1 | refine below_set ?_ GE243.out | refine below_set ?_ GE244.out | refine below_set ?_ GE245.out) | exact HB.out)⟩⟩
     rw [if_neg c18] at H
     have c18b0 : decide (a0_0 ≤ (Int.tmod x4_1 (wrap64 (2 * a0_0)))) = false := decide_eq_false c18
     clear c18
     (first | rw [c18b0] | (simp only [i64_w, i32_w]; rw [c18b0]) | skip)
     have H' := Aside0.mk H
     clear H; have hnb22 := NB243_244.out; have hnc22 := NB244_243.out; have hnb23 := NB243_245.out; have hnc23 := NB245_243.out
     obtain ⟨hcz24_0, hcz24_1, hcz24_2, hfz24_0, hfz24_1, hfz24_2⟩ := sZ_ BK243.out
     go_wp2
     go_meet
     case rel => exact ⟨_, (false), (by first | rfl | (simp; done) | (simp [*]; done)), H', ⟨by have := HK1.out; first | omega | exact Nat.le_refl _⟩, ⟨by (with_reducible repeat (first | apply Kd.R_alloc | apply Kd.R_drewN | apply Kd.R_drew)); exact HO_246002.out⟩, ⟨by refine sB_ ?_; exact BK243.out⟩, ⟨by refine sB_ ?_; exact BK244.out⟩, ⟨by refine sB_ ?_; exact BK245.out⟩, ⟨by repeat (first | (with_reducible first | exact HB.out | apply below_alloc | apply pw_below_drewN | apply below_drew1 | refine below_set ?_ GE243.out | refine below_set ?_ GE244.out | refine below_set ?_ GE245.out) | exact HB.out)⟩⟩
    case rest =>
     clear HC12
     try clear c1
     try clear c2
     try clear p2
     try clear c4
     try clear p6
     try clear c7
     try clear c8
     try clear c10
     try clear c10b0
     try clear c11
     try clear c11b0
     try clear c11b1
     try clear c13
     try clear c14
     try clear c16
     try clear c18
     try clear c18b0
     try clear c19
     try clear c20
     try clear c22
     try clear c23
     try clear hcz15_0
     try clear hcz15_1
     try clear hcz15_2
     try clear hcz17_0
     try clear hcz17_1
     try clear hcz17_2
     try clear hcz21_0
     try clear hcz21_1
     try clear hcz21_2
     try clear hcz24_0
     try clear hcz24_1
     try clear hcz24_2
     try clear hcz5_0
     try clear hcz5_1
     try clear hcz5_2
     try clear hcz9_0
     try clear hcz9_1
     try clear hcz9_2
     try clear hfz15_0
     try clear hfz15_1
     try clear hfz15_2
     try clear hfz17_0
     try clear hfz17_1
     try clear hfz17_2
     try clear hfz21_0
     try clear hfz21_1
     try clear hfz21_2
     try clear hfz24_0
     try clear hfz24_1
     try clear hfz24_2
     try clear hfz5_0
     try clear hfz5_1
     try clear hfz5_2
     try clear hfz9_0
     try clear hfz9_1
     try clear hfz9_2
     try clear p2
     try clear p6
     obtain ⟨kq, x31_11, rfl, HA, HJ11, HO_246002, BK243, BK244, BK245, HB⟩ := hcut
     cases kq with
     | zero => exact absurd HA.out (by simp [spec_l2Double.j1])
     | succ kj11 =>
      have H := HA.out; clear HA
      simp only [spec_l2Double.j1] at H
      by_cases c25 : x31_11 = true
      ·subst c25
       have H1 : ((spec_l2Rank.f a0_0 a0_1 l0_2 (Int.tmod x4_1 (wrap64 (2 * a0_0))) (wrap64 (Int.tdiv x4_1 (wrap64 (2 * a0_0))))).bind fun t246 => (if x246002_1.length < 17592186044416 then (spec_l2Double.l0 kj11 (wrap64 (x4_1 + 1)) a0_0 a0_1 l0_2 (wrap64 (2 * a0_0)) (wrap64 (2 * a0_1)) (x246002_1 ++ [wrap64 ((wrap64 (4 * t246)) + 2)])) else (none))) = some (r1, r2, r3) := by rw [if_pos rfl] at H; exact H
       clear H; have H := H1; clear H1
       replace H := Option.bind_eq_some_iff.mp H
       obtain ⟨t246, A260, H⟩ := H
       replace H : (if x246002_1.length < 17592186044416 then (spec_l2Double.l0 kj11 (wrap64 (x4_1 + 1)) a0_0 a0_1 l0_2 (wrap64 (2 * a0_0)) (wrap64 (2 * a0_1)) (x246002_1 ++ [wrap64 ((wrap64 (4 * t246)) + 2)])) else (none)) = some (r1, r2, r3) := H
       have A26 := Aside0.mk A260
       clear A260
       by_cases c27 : x246002_1.length < 17592186044416
       ·rw [if_pos c27] at H
        have LMc27 := Aside0.mk c27
        clear c27
        obtain ⟨y247, hy247⟩ : ∃ y_ : List Int, y_ = (x246002_1 ++ [wrap64 ((wrap64 (4 * t246)) + 2)]) := ⟨_, rfl⟩
        replace H : (spec_l2Double.l0 kj11 (wrap64 (x4_1 + 1)) a0_0 a0_1 l0_2 (wrap64 (2 * a0_0)) (wrap64 (2 * a0_1)) y247) = some (r1, r2, r3) := by first | (rw [hy247]; with_reducible exact H) | (have H2_ := (Option.bind_some _ _).symm.trans H; rw [hy247]; with_reducible exact H2_) | (have H2_ := (Option.bind_some _ _).symm.trans H; with_reducible exact H2_) | with_reducible exact H | (rw [hy247]; exact H) | exact H
        have Ny247 := Aside0.mk hy247
        clear hy247
        have H' := Aside0.mk H
        clear H
        try go_wp2
        have n0_ := Aside0.mk (Kd.R_drew HO_246002.out)
        have n1_ := Aside0.mk (blk_drew BK243.out)
        have n2_ := Aside0.mk (blk_drew BK244.out)
        have n3_ := Aside0.mk (blk_drew BK245.out)
        have n4_ := Aside0.mk (below_drew1 HB.out)
        clear HO_246002 BK243 BK244 BK245 HB; have HO_246002 := n0_; have BK243 := n1_; have BK244 := n2_; have BK245 := n3_; have HB := n4_; clear n0_ n1_ n2_ n3_ n4_
        refine start_ (n := 13) (S := fun w' => w'.cell? ⟨gb245, 0, none⟩ = some (.int .i64 (wrap64 (2 * a0_0))) ∧ w'.cell? ⟨gb245, 1, none⟩ = some (.int .i64 (wrap64 (2 * a0_1))) ∧ w'.cell? ⟨gb245, 2, none⟩ = some (u246002) ∧ w'.cell? ⟨gb243, 0, none⟩ = some (.int .i64 a0_0) ∧ w'.cell? ⟨gb243, 1, none⟩ = some (.int .i64 a0_1) ∧ w'.cell? ⟨gb243, 2, none⟩ = some (.slice A0_2 l0_2.length c0_2)) (ds := [12]) #[false, false, false, false, false, false, false, false, false, false, false, false, false] (by kernel_rfl) rfl rfl ⟨(blk_cell BK245.out 0).trans rfl, (blk_cell BK245.out 1).trans rfl, (blk_cell BK245.out 2).trans rfl, (blk_cell BK243.out 0).trans rfl, (blk_cell BK243.out 1).trans rfl, (blk_cell BK243.out 2).trans rfl⟩ (fun hHeld => ?_); refine with_tabW spec_l2Double.tab14 spec_l2Double.bits14 (fun HT_ HW_ => ?_)
        generalize wc.drew = w28 at HO_246002 BK243 BK244 BK245 HB hHeld ⊢
        refine pure_ (i := 0) (N := some 64) (v := ?_) (a' := ?_) #[true, false, false, false, false, false, false, false, false, false, false, false, false] rfl rfl (any_of HT_.out (by kernel_rfl)) (fun _ _ _ h => h) (Or.inl ⟨by rfl, ?_⟩) ?_ ?_
        rotate_left
        ·intro w'
         go_simp
         with_reducible rfl
        rotate_left
        ·simp only [Act.put, List.setIfInBounds_toArray, List.set_cons_zero, List.set_cons_succ, i64_w, i32_w]
         rfl
        refine pure_ (i := 3) (N := some 67) (v := ?_) (a' := ?_) #[true, false, false, true, false, false, false, false, false, false, false, false, false] rfl rfl (any_of HT_.out (by kernel_rfl)) (fun _ _ _ h => h) (Or.inl ⟨by rfl, ?_⟩) ?_ ?_
        rotate_left
        ·intro w'
         go_simp
         with_reducible rfl
        rotate_left
        ·simp only [Act.put, List.setIfInBounds_toArray, List.set_cons_zero, List.set_cons_succ, i64_w, i32_w]
         rfl
        refine pure_ (i := 4) (N := some 68) (v := ?_) (a' := ?_) #[true, false, false, true, true, false, false, false, false, false, false, false, false] rfl rfl (any_of HT_.out (by kernel_rfl)) (fun _ _ _ h => h) (Or.inl ⟨by rfl, ?_⟩) ?_ ?_
        rotate_left
        ·intro w'
         go_simp
         with_reducible rfl
        rotate_left
        ·simp only [Act.put, List.setIfInBounds_toArray, List.set_cons_zero, List.set_cons_succ, i64_w, i32_w]
         rfl
        refine pure_ (i := 7) (N := some 71) (v := ?_) (a' := ?_) #[true, false, false, true, true, false, false, true, false, false, false, false, false] rfl rfl (any_of HT_.out (by kernel_rfl)) (fun _ _ _ h => h) (Or.inl ⟨by rfl, ?_⟩) ?_ ?_
        rotate_left
        ·intro w'
         go_simp
         with_reducible rfl
        rotate_left
        ·simp only [Act.put, List.setIfInBounds_toArray, List.set_cons_zero, List.set_cons_succ, i64_w, i32_w]
         rfl
        refine take_ (i := 1) (N := some 65) (v := ?_) (a' := ?_) #[true, true, false, true, true, false, false, true, false, false, false, false, false] rfl rfl (take_ofW HT_.out HW_.out (by kernel_rfl)) (fun _ _ _ h => h) (Or.inl ⟨by rfl, ?_⟩) hHeld ?_ ?_
        rotate_left
        ·rintro w' ⟨s0, s1, s2, s3, s4, s5⟩
         go_simp
         with_reducible rfl
        rotate_left
        ·simp only [Act.put, List.setIfInBounds_toArray, List.set_cons_zero, List.set_cons_succ, i64_w, i32_w]
         rfl
        refine take_ (i := 2) (N := some 66) (v := ?_) (a' := ?_) #[true, true, true, true, true, false, false, true, false, false, false, false, false] rfl rfl (take_ofW HT_.out HW_.out (by kernel_rfl)) (fun _ _ _ h => h) (Or.inl ⟨by rfl, ?_⟩) hHeld ?_ ?_
        rotate_left
        ·rintro w' ⟨s0, s1, s2, s3, s4, s5⟩
         go_simp
         with_reducible rfl
        rotate_left
        ·simp only [Act.put, List.setIfInBounds_toArray, List.set_cons_zero, List.set_cons_succ, i64_w, i32_w]
         rfl
        refine one_ (i := 5) (N := some 69) #[true, true, true, true, true, true, false, true, false, false, false, false, false] rfl rfl (one_of HT_.out (by kernel_rfl)) (by decide) (fun K hK => ?_)
        refine goes_ Try.func93 (by kernel_rfl) rfl #[.agg #[.int .i64 a0_0, .int .i64 a0_1, .slice A0_2 l0_2.length c0_2], .int .i64 (Int.tmod x4_1 (wrap64 (2 * a0_0))), .int .i64 (wrap64 (Int.tdiv x4_1 (wrap64 (2 * a0_0))))] (by rfl) rfl rfl sL_ ?_
        with_reducible refine (spec_l2Rank.calls a0_0 a0_1 _ _ l0_2 (Int.tmod x4_1 (wrap64 (2 * a0_0))) (wrap64 (Int.tdiv x4_1 (wrap64 (2 * a0_0)))) t246 _ ?side1 ?side2 A26.out).mono ?_
        (case side1 => repeat (first | exact (Kd.C_below HR0_2.out HB.out) | (with_reducible refine Kd.C_alloc ?_ _) | (with_reducible refine Kd.C_drewN ?_ _) | (with_reducible refine Kd.C_drew ?_)))
        (case side2 => exact HC0_2.out)
        rintro e w29 ⟨rfl, hb⟩
        refine ⟨_, rfl, ?_⟩
        have n0_ := Aside0.mk (Kd.R_below (sR_ HO_246002.out) hb)
        have n1_ := Aside0.mk (blk_below (sB_ BK243.out) hb)
        have n2_ := Aside0.mk (blk_below (sB_ BK244.out) hb)
        have n3_ := Aside0.mk (blk_below (sB_ BK245.out) hb)
        have n4_ := Aside0.mk (below_step (sW_ HB.out) hb)
        clear HO_246002 BK243 BK244 BK245 HB; have HO_246002 := n0_; have BK243 := n1_; have BK244 := n2_; have BK245 := n3_; have HB := n4_; clear n0_ n1_ n2_ n3_ n4_
        (try clear hb)
        (try clear hb2)
        (try clear hk)
        (try clear hi)
        refine hK.out _ _ ⟨(blk_cell BK245.out 0).trans rfl, (blk_cell BK245.out 1).trans rfl, (blk_cell BK245.out 2).trans rfl, (blk_cell BK243.out 0).trans rfl, (blk_cell BK243.out 1).trans rfl, (blk_cell BK243.out 2).trans rfl⟩ (fun hHeld => ?_)
        clear hK K
        refine norm_ (a' := ?_) ?_ ?_
        rotate_left
        ·show Act.put _ (some 69) _ = _
         simp only [Act.put, List.setIfInBounds_toArray, List.set_cons_zero, List.set_cons_succ, i64_w, i32_w]
         rfl
        refine pure_ (i := 6) (N := some 70) (v := ?_) (a' := ?_) #[true, true, true, true, true, true, true, true, false, false, false, false, false] rfl rfl (any_of HT_.out (by kernel_rfl)) (fun _ _ _ h => h) (Or.inl ⟨by rfl, ?_⟩) ?_ ?_
        rotate_left
        ·intro w'
         go_simp
         with_reducible rfl
        rotate_left
        ·simp only [Act.put, List.setIfInBounds_toArray, List.set_cons_zero, List.set_cons_succ, i64_w, i32_w]
         rfl
        refine pure_ (i := 8) (N := some 72) (v := ?_) (a' := ?_) #[true, true, true, true, true, true, true, true, true, false, false, false, false] rfl rfl (any_of HT_.out (by kernel_rfl)) (fun _ _ _ h => h) (Or.inl ⟨by rfl, ?_⟩) ?_ ?_
        rotate_left
        ·intro w'
         go_simp
         with_reducible rfl
        rotate_left
        ·simp only [Act.put, List.setIfInBounds_toArray, List.set_cons_zero, List.set_cons_succ, i64_w, i32_w]
         rfl
        refine one_ (i := 9) (N := some 73) #[true, true, true, true, true, true, true, true, true, true, false, false, false] rfl rfl (one_of HT_.out (by kernel_rfl)) (by decide) (fun K hK => ?_)
        refine value_ (w1 := ?_) (v := ?_) (by rfl) rfl ?_ ?_
        rotate_left 2
        ·go_simp
         constructor
         ·rfl
         rfl
        refine hK.out _ _ ⟨(blk_cell (blk_alloc BK245.out _) 0).trans rfl, (blk_cell (blk_alloc BK245.out _) 1).trans rfl, (blk_cell (blk_alloc BK245.out _) 2).trans rfl, (blk_cell (blk_alloc BK243.out _) 0).trans rfl, (blk_cell (blk_alloc BK243.out _) 1).trans rfl, (blk_cell (blk_alloc BK243.out _) 2).trans rfl⟩ (fun hHeld => ?_)
        clear hK K
        refine norm_ (a' := ?_) ?_ ?_
        rotate_left
        ·show Act.put _ (some 73) _ = _
         simp only [Act.put, List.setIfInBounds_toArray, List.set_cons_zero, List.set_cons_succ, i64_w, i32_w]
         rfl
        refine one_ (i := 10) (N := some 74) #[true, true, true, true, true, true, true, true, true, true, true, false, false] rfl rfl (one_of HT_.out (by kernel_rfl)) (by decide) (fun K hK => ?_)
        refine Kd.R_append_step (Kd.int .i64) (w0 := w) w.heap.size (by rfl) (.tmp 65) (.tmp 73) 24 3 (.int .i64 0) 8 rfl Try.underlying24 info3 rfl (by decide) (by omega) u246002 x246002_1 (wrap64 ((wrap64 (4 * t246)) + 2)) [.int .i64 (wrap64 ((wrap64 (4 * t246)) + 2))] (fun _ => True) (fun _ => False) rfl rfl ?aP (fun _ hk => hk.elim) ?aF ?aO ?aB ?aS ?aL ?_
        (case aP => exact rfl)
        (case aB => exact (sW_ HB.out))
        (case aF => exact (fun _ _ => trivial))
        (case aO => exact (sR_ HO_246002.out))
        (case aS => exact (below_size (sW_ HB.out)))
        (case aL => have := LMc27.out; omega)
        intro v248 w30 ho hb hg hat
        rw [← Ny247.out] at ho
        have n0_ := Aside0.mk (blk_grown (sB_ BK243.out) hg (Kd.R_ne HO_246002.out BK243.out (by decide)))
        have n1_ := Aside0.mk (blk_grown (sB_ BK244.out) hg (Kd.R_ne HO_246002.out BK244.out (by decide)))
        have n2_ := Aside0.mk (blk_grown (sB_ BK245.out) hg (Kd.R_ne HO_246002.out BK245.out (by decide)))
        have n3_ := Aside0.mk (hb)
        have n4_ := Aside0.mk (ho)
        clear BK243 BK244 BK245 HB HO_246002; have BK243 := n0_; have BK244 := n1_; have BK245 := n2_; have HB := n3_; have HO249 := n4_; clear n0_ n1_ n2_ n3_ n4_ ho hb hg hat
        obtain ⟨Ao31, co31, eo31⟩ := Kd.R_slice HO249.out
        (first | subst eo31 | (injection eo31 with f1_ f2_ f3_; have f4_ := f1_.symm; have f5_ := f3_.symm; clear f1_ f2_ f3_; subst f4_; subst f5_))
        refine hK.out _ _ ⟨(blk_cell BK245.out 0).trans rfl, (blk_cell BK245.out 1).trans rfl, (blk_cell BK245.out 2).trans rfl, (blk_cell BK243.out 0).trans rfl, (blk_cell BK243.out 1).trans rfl, (blk_cell BK243.out 2).trans rfl⟩ (fun hHeld => ?_)
        clear hK K
        refine norm_ (a' := ?_) ?_ ?_
        rotate_left
        ·show Act.put _ (some 74) _ = _
         simp only [Act.put, List.setIfInBounds_toArray, List.set_cons_zero, List.set_cons_succ, i64_w, i32_w]
         rfl
        refine pure_ (i := 11) (N := some 75) (v := ?_) (a' := ?_) #[true, true, true, true, true, true, true, true, true, true, true, true, false] rfl rfl (any_of HT_.out (by kernel_rfl)) (fun _ _ _ h => h) (Or.inl ⟨by rfl, ?_⟩) ?_ ?_
        rotate_left
        ·intro w'
         go_simp
         with_reducible rfl
        rotate_left
        ·simp only [Act.put, List.setIfInBounds_toArray, List.set_cons_zero, List.set_cons_succ, i64_w, i32_w]
         rfl
        refine last_ (i := 12) (N := none) #[true, true, true, true, true, true, true, true, true, true, true, true, true] rfl rfl (one_of HT_.out (by kernel_rfl)) (by decide) (fun K hK => ?_)
        have hs32 : w30.cell? ⟨gb245, 2, none⟩ = some (u246002) := (blk_cell BK245.out 2).trans rfl
        have hfs32 := blk_frozen BK245.out 2
        have hns32_0 := NB243_245.out; have hns32_1 := NB244_245.out; have hms32_0 := NB245_243.out; have hms32_1 := NB245_244.out
        refine skip_ (w1 := ?_) (by rfl) rfl ?_ ?_
        rotate_left
        ·go_simp
         rfl
        refine hK.out _ _ ?_
        clear hK K
        refine done_ (done_of HT_.out (by kernel_rfl)) ?_
        try go_wp2
        go_roundg kj11
        case measure => have := HK1.out; have := HJ11.out; omega
        case rel => exact ⟨(wrap64 (x4_1 + 1)), (y247), (.slice Ao31 y247.length co31), (by first | rfl | (simp; done) | (simp [*]; done)), H', ⟨by have := HK1.out; have := HJ11.out; omega⟩, ⟨by (with_reducible repeat (first | apply Kd.R_alloc | apply Kd.R_drewN | apply Kd.R_drew)); exact Kd.R_mono (Kd.R_far (p := ⟨gb245, 2, none⟩) (Kd.R_types HO249.out BK245.out (by decide)) (fun _ hk => hk.2) (.slice Ao31 y247.length co31)) (fun _ hk => trivial)⟩, ⟨by refine sB_ ?_; refine blk_far ?_ NB243_245.out _; refine sB_ ?_; exact BK243.out⟩, ⟨by refine sB_ ?_; refine blk_far ?_ NB244_245.out _; refine sB_ ?_; exact BK244.out⟩, ⟨by refine sB_ ?_; refine blk_put (cs := #[.int .i64 (wrap64 (2 * a0_0)), .int .i64 (wrap64 (2 * a0_1)), u246002]) ?_ 2 _ rfl; refine sB_ ?_; exact BK245.out⟩, ⟨by repeat (first | (with_reducible first | exact HB.out | apply below_alloc | apply pw_below_drewN | apply below_drew1 | refine below_set ?_ GE243.out | refine below_set ?_ GE244.out | refine below_set ?_ GE245.out) | exact HB.out)⟩⟩
       rw [if_neg c27] at H
       exact absurd H (by simp)
      replace c25 := Bool.eq_false_iff.mpr c25
      subst c25
      have H1 : (if (Int.tmod x4_1 (wrap64 (2 * a0_0))) < a0_0 then (spec_l2Double.j2 kj11 x4_1 (Int.tmod x4_1 (wrap64 (2 * a0_0))) (wrap64 (Int.tdiv x4_1 (wrap64 (2 * a0_0)))) 0 (decide ((wrap64 (Int.tdiv x4_1 (wrap64 (2 * a0_0)))) ≥ a0_1)) a0_0 a0_1 l0_2 (wrap64 (2 * a0_0)) (wrap64 (2 * a0_1)) x246002_1) else (spec_l2Double.j2 kj11 x4_1 (Int.tmod x4_1 (wrap64 (2 * a0_0))) (wrap64 (Int.tdiv x4_1 (wrap64 (2 * a0_0)))) 0 false a0_0 a0_1 l0_2 (wrap64 (2 * a0_0)) (wrap64 (2 * a0_1)) x246002_1)) = some (r1, r2, r3) := by rw [if_neg (show ¬ (false = true) by decide)] at H; exact H
      clear H; have H := H1; clear H1
      have HC33 := Aside0.mk H
      clear H
      go_upto_region 10 with (fail)
      go_cut [42] (fun v42 wc => ∃ (kq : Nat) (x42_32 : Bool), v42 = .bool x42_32 ∧ Aside0 (spec_l2Double.j2 kq x4_1 (Int.tmod x4_1 (wrap64 (2 * a0_0))) (wrap64 (Int.tdiv x4_1 (wrap64 (2 * a0_0)))) 0 x42_32 a0_0 a0_1 l0_2 (wrap64 (2 * a0_0)) (wrap64 (2 * a0_1)) x246002_1 = some (r1, r2, r3)) ∧ Aside0 (kq ≤ kj11) ∧ Aside0 (Kd.R (Kd.int .i64) 3 wc w.heap.size (fun _ => True) u246002 x246002_1) ∧ Aside0 (wc.heap[gb243]? = some (.cells #[.int .i64 a0_0, .int .i64 a0_1, (.slice A0_2 l0_2.length c0_2)] 26 (0, 0))) ∧ Aside0 (wc.heap[gb244]? = some (.cells #[.int .i64 0, .int .i64 0, (.slice none 0 0)] 26 (0, 0))) ∧ Aside0 (wc.heap[gb245]? = some (.cells #[.int .i64 (wrap64 (2 * a0_0)), .int .i64 (wrap64 (2 * a0_1)), u246002] 26 (0, 0))) ∧ Aside0 (Below w.heap.size w wc))
      case first =>
       have H := HC33.out; clear HC33
       by_cases c34 : (Int.tmod x4_1 (wrap64 (2 * a0_0))) < a0_0
       ·rw [if_pos c34] at H
        have c34b0 : decide ((Int.tmod x4_1 (wrap64 (2 * a0_0))) < a0_0) = true := decide_eq_true c34
        clear c34
        (first | rw [c34b0] | (simp only [i64_w, i32_w]; rw [c34b0]) | skip)
        have H' := Aside0.mk H
        clear H; have hnb35 := NB243_244.out; have hnc35 := NB244_243.out; have hnb36 := NB243_245.out; have hnc36 := NB245_243.out
        obtain ⟨hcz37_0, hcz37_1, hcz37_2, hfz37_0, hfz37_1, hfz37_2⟩ := sZ_ BK243.out
        go_wp2
        go_meet
        case rel => exact ⟨_, (decide ((wrap64 (Int.tdiv x4_1 (wrap64 (2 * a0_0)))) ≥ a0_1)), (by first | rfl | (simp; done) | (simp [*]; done)), H', ⟨by have := HK1.out; have := HJ11.out; first | omega | exact Nat.le_refl _⟩, ⟨by (with_reducible repeat (first | apply Kd.R_alloc | apply Kd.R_drewN | apply Kd.R_drew)); exact HO_246002.out⟩, ⟨by refine sB_ ?_; exact BK243.out⟩, ⟨by refine sB_ ?_; exact BK244.out⟩, ⟨by refine sB_ ?_; exact BK245.out⟩, ⟨by repeat (first | (with_reducible first | exact HB.out | apply below_alloc | apply pw_below_drewN | apply below_drew1 | refine below_set ?_ GE243.out | refine below_set ?_ GE244.out | refine below_set ?_ GE245.out) | exact HB.out)⟩⟩
       rw [if_neg c34] at H
       have c34b0 : decide ((Int.tmod x4_1 (wrap64 (2 * a0_0))) < a0_0) = false := decide_eq_false c34
       clear c34
       (first | rw [c34b0] | (simp only [i64_w, i32_w]; rw [c34b0]) | skip)
       have H' := Aside0.mk H
       clear H; have hnb38 := NB243_244.out; have hnc38 := NB244_243.out; have hnb39 := NB243_245.out; have hnc39 := NB245_243.out
       obtain ⟨hcz40_0, hcz40_1, hcz40_2, hfz40_0, hfz40_1, hfz40_2⟩ := sZ_ BK243.out
       go_wp2
       go_meet
       case rel => exact ⟨_, (false), (by first | rfl | (simp; done) | (simp [*]; done)), H', ⟨by have := HK1.out; have := HJ11.out; first | omega | exact Nat.le_refl _⟩, ⟨by (with_reducible repeat (first | apply Kd.R_alloc | apply Kd.R_drewN | apply Kd.R_drew)); exact HO_246002.out⟩, ⟨by refine sB_ ?_; exact BK243.out⟩, ⟨by refine sB_ ?_; exact BK244.out⟩, ⟨by refine sB_ ?_; exact BK245.out⟩, ⟨by repeat (first | (with_reducible first | exact HB.out | apply below_alloc | apply pw_below_drewN | apply below_drew1 | refine below_set ?_ GE243.out | refine below_set ?_ GE244.out | refine below_set ?_ GE245.out) | exact HB.out)⟩⟩
      case rest =>
       clear HC33
       try clear c1
       try clear c2
       try clear p2
       try clear c3
       try clear c4
       try clear p6
       try clear c7
       try clear c8
       try clear c9
       try clear c10
       try clear c10b0
       try clear c11
       try clear c11b0
       try clear c11b1
       try clear c13
       try clear c14
       try clear c16
       try clear c18
       try clear c18b0
       try clear c19
       try clear c20
       try clear c22
       try clear c23
       try clear c25
       try clear c27
       try clear c34
       try clear c34b0
       try clear c35
       try clear c36
       try clear c38
       try clear c39
       try clear hcz15_0
       try clear hcz15_1
       try clear hcz15_2
       try clear hcz17_0
       try clear hcz17_1
       try clear hcz17_2
       try clear hcz21_0
       try clear hcz21_1
       try clear hcz21_2
       try clear hcz24_0
       try clear hcz24_1
       try clear hcz24_2
       try clear hcz37_0
       try clear hcz37_1
       try clear hcz37_2
       try clear hcz40_0
       try clear hcz40_1
       try clear hcz40_2
       try clear hcz5_0
       try clear hcz5_1
       try clear hcz5_2
       try clear hcz9_0
       try clear hcz9_1
       try clear hcz9_2
       try clear hfz15_0
       try clear hfz15_1
       try clear hfz15_2
       try clear hfz17_0
       try clear hfz17_1
       try clear hfz17_2
       try clear hfz21_0
       try clear hfz21_1
       try clear hfz21_2
       try clear hfz24_0
       try clear hfz24_1
       try clear hfz24_2
       try clear hfz37_0
       try clear hfz37_1
       try clear hfz37_2
       try clear hfz40_0
       try clear hfz40_1
       try clear hfz40_2
       try clear hfz5_0
       try clear hfz5_1
       try clear hfz5_2
       try clear hfz9_0
       try clear hfz9_1
       try clear hfz9_2
       try clear p2
       try clear p6
       obtain ⟨kq, x42_32, rfl, HA, HJ32, HO_246002, BK243, BK244, BK245, HB⟩ := hcut
       cases kq with
       | zero => exact absurd HA.out (by simp [spec_l2Double.j2])
       | succ kj32 =>
        have H := HA.out; clear HA
        simp only [spec_l2Double.j2] at H
        by_cases c41 : x42_32 = true
        ·subst c41
         have H1 : ((spec_l2Rank.f a0_0 a0_1 l0_2 (Int.tmod x4_1 (wrap64 (2 * a0_0))) (wrap64 (Int.tdiv x4_1 (wrap64 (2 * a0_0))))).bind fun t250 => (if x246002_1.length < 17592186044416 then (spec_l2Double.l0 kj32 (wrap64 (x4_1 + 1)) a0_0 a0_1 l0_2 (wrap64 (2 * a0_0)) (wrap64 (2 * a0_1)) (x246002_1 ++ [wrap64 ((wrap64 (4 * t250)) + 3)])) else (none))) = some (r1, r2, r3) := by rw [if_pos rfl] at H; exact H
         clear H; have H := H1; clear H1
         replace H := Option.bind_eq_some_iff.mp H
         obtain ⟨t250, A420, H⟩ := H
         replace H : (if x246002_1.length < 17592186044416 then (spec_l2Double.l0 kj32 (wrap64 (x4_1 + 1)) a0_0 a0_1 l0_2 (wrap64 (2 * a0_0)) (wrap64 (2 * a0_1)) (x246002_1 ++ [wrap64 ((wrap64 (4 * t250)) + 3)])) else (none)) = some (r1, r2, r3) := H
         have A42 := Aside0.mk A420
         clear A420
         by_cases c43 : x246002_1.length < 17592186044416
         ·rw [if_pos c43] at H
          have LMc43 := Aside0.mk c43
          clear c43
          obtain ⟨y251, hy251⟩ : ∃ y_ : List Int, y_ = (x246002_1 ++ [wrap64 ((wrap64 (4 * t250)) + 3)]) := ⟨_, rfl⟩
          replace H : (spec_l2Double.l0 kj32 (wrap64 (x4_1 + 1)) a0_0 a0_1 l0_2 (wrap64 (2 * a0_0)) (wrap64 (2 * a0_1)) y251) = some (r1, r2, r3) := by first | (rw [hy251]; with_reducible exact H) | (have H2_ := (Option.bind_some _ _).symm.trans H; rw [hy251]; with_reducible exact H2_) | (have H2_ := (Option.bind_some _ _).symm.trans H; with_reducible exact H2_) | with_reducible exact H | (rw [hy251]; exact H) | exact H
          have Ny251 := Aside0.mk hy251
          clear hy251
          have H' := Aside0.mk H
          clear H
          try go_wp2
          have n0_ := Aside0.mk (Kd.R_drew HO_246002.out)
          have n1_ := Aside0.mk (blk_drew BK243.out)
          have n2_ := Aside0.mk (blk_drew BK244.out)
          have n3_ := Aside0.mk (blk_drew BK245.out)
          have n4_ := Aside0.mk (below_drew1 HB.out)
          clear HO_246002 BK243 BK244 BK245 HB; have HO_246002 := n0_; have BK243 := n1_; have BK244 := n2_; have BK245 := n3_; have HB := n4_; clear n0_ n1_ n2_ n3_ n4_
          refine start_ (n := 13) (S := fun w' => w'.cell? ⟨gb245, 0, none⟩ = some (.int .i64 (wrap64 (2 * a0_0))) ∧ w'.cell? ⟨gb245, 1, none⟩ = some (.int .i64 (wrap64 (2 * a0_1))) ∧ w'.cell? ⟨gb245, 2, none⟩ = some (u246002) ∧ w'.cell? ⟨gb243, 0, none⟩ = some (.int .i64 a0_0) ∧ w'.cell? ⟨gb243, 1, none⟩ = some (.int .i64 a0_1) ∧ w'.cell? ⟨gb243, 2, none⟩ = some (.slice A0_2 l0_2.length c0_2)) (ds := [12]) #[false, false, false, false, false, false, false, false, false, false, false, false, false] (by kernel_rfl) rfl rfl ⟨(blk_cell BK245.out 0).trans rfl, (blk_cell BK245.out 1).trans rfl, (blk_cell BK245.out 2).trans rfl, (blk_cell BK243.out 0).trans rfl, (blk_cell BK243.out 1).trans rfl, (blk_cell BK243.out 2).trans rfl⟩ (fun hHeld => ?_); refine with_tabW spec_l2Double.tab14 spec_l2Double.bits14 (fun HT_ HW_ => ?_)
          generalize wc.drew = w44 at HO_246002 BK243 BK244 BK245 HB hHeld ⊢
          refine pure_ (i := 0) (N := some 64) (v := ?_) (a' := ?_) #[true, false, false, false, false, false, false, false, false, false, false, false, false] rfl rfl (any_of HT_.out (by kernel_rfl)) (fun _ _ _ h => h) (Or.inl ⟨by rfl, ?_⟩) ?_ ?_
          rotate_left
          ·intro w'
           go_simp
           with_reducible rfl
          rotate_left
          ·simp only [Act.put, List.setIfInBounds_toArray, List.set_cons_zero, List.set_cons_succ, i64_w, i32_w]
           rfl
          refine pure_ (i := 3) (N := some 67) (v := ?_) (a' := ?_) #[true, false, false, true, false, false, false, false, false, false, false, false, false] rfl rfl (any_of HT_.out (by kernel_rfl)) (fun _ _ _ h => h) (Or.inl ⟨by rfl, ?_⟩) ?_ ?_
          rotate_left
          ·intro w'
           go_simp
           with_reducible rfl
          rotate_left
          ·simp only [Act.put, List.setIfInBounds_toArray, List.set_cons_zero, List.set_cons_succ, i64_w, i32_w]
           rfl
          refine pure_ (i := 4) (N := some 68) (v := ?_) (a' := ?_) #[true, false, false, true, true, false, false, false, false, false, false, false, false] rfl rfl (any_of HT_.out (by kernel_rfl)) (fun _ _ _ h => h) (Or.inl ⟨by rfl, ?_⟩) ?_ ?_
          rotate_left
          ·intro w'
           go_simp
           with_reducible rfl
          rotate_left
          ·simp only [Act.put, List.setIfInBounds_toArray, List.set_cons_zero, List.set_cons_succ, i64_w, i32_w]
           rfl
          refine pure_ (i := 7) (N := some 71) (v := ?_) (a' := ?_) #[true, false, false, true, true, false, false, true, false, false, false, false, false] rfl rfl (any_of HT_.out (by kernel_rfl)) (fun _ _ _ h => h) (Or.inl ⟨by rfl, ?_⟩) ?_ ?_
          rotate_left
          ·intro w'
           go_simp
           with_reducible rfl
          rotate_left
          ·simp only [Act.put, List.setIfInBounds_toArray, List.set_cons_zero, List.set_cons_succ, i64_w, i32_w]
           rfl
          refine take_ (i := 1) (N := some 65) (v := ?_) (a' := ?_) #[true, true, false, true, true, false, false, true, false, false, false, false, false] rfl rfl (take_ofW HT_.out HW_.out (by kernel_rfl)) (fun _ _ _ h => h) (Or.inl ⟨by rfl, ?_⟩) hHeld ?_ ?_
          rotate_left
          ·rintro w' ⟨s0, s1, s2, s3, s4, s5⟩
           go_simp
           with_reducible rfl
          rotate_left
          ·simp only [Act.put, List.setIfInBounds_toArray, List.set_cons_zero, List.set_cons_succ, i64_w, i32_w]
           rfl
          refine take_ (i := 2) (N := some 66) (v := ?_) (a' := ?_) #[true, true, true, true, true, false, false, true, false, false, false, false, false] rfl rfl (take_ofW HT_.out HW_.out (by kernel_rfl)) (fun _ _ _ h => h) (Or.inl ⟨by rfl, ?_⟩) hHeld ?_ ?_
          rotate_left
          ·rintro w' ⟨s0, s1, s2, s3, s4, s5⟩
           go_simp
           with_reducible rfl
          rotate_left
          ·simp only [Act.put, List.setIfInBounds_toArray, List.set_cons_zero, List.set_cons_succ, i64_w, i32_w]
           rfl
          refine one_ (i := 5) (N := some 69) #[true, true, true, true, true, true, false, true, false, false, false, false, false] rfl rfl (one_of HT_.out (by kernel_rfl)) (by decide) (fun K hK => ?_)
          refine goes_ Try.func93 (by kernel_rfl) rfl #[.agg #[.int .i64 a0_0, .int .i64 a0_1, .slice A0_2 l0_2.length c0_2], .int .i64 (Int.tmod x4_1 (wrap64 (2 * a0_0))), .int .i64 (wrap64 (Int.tdiv x4_1 (wrap64 (2 * a0_0))))] (by rfl) rfl rfl sL_ ?_
          with_reducible refine (spec_l2Rank.calls a0_0 a0_1 _ _ l0_2 (Int.tmod x4_1 (wrap64 (2 * a0_0))) (wrap64 (Int.tdiv x4_1 (wrap64 (2 * a0_0)))) t250 _ ?side1 ?side2 A42.out).mono ?_
          (case side1 => repeat (first | exact (Kd.C_below HR0_2.out HB.out) | (with_reducible refine Kd.C_alloc ?_ _) | (with_reducible refine Kd.C_drewN ?_ _) | (with_reducible refine Kd.C_drew ?_)))
          (case side2 => exact HC0_2.out)
          rintro e w45 ⟨rfl, hb⟩
          refine ⟨_, rfl, ?_⟩
          have n0_ := Aside0.mk (Kd.R_below (sR_ HO_246002.out) hb)
          have n1_ := Aside0.mk (blk_below (sB_ BK243.out) hb)
          have n2_ := Aside0.mk (blk_below (sB_ BK244.out) hb)
          have n3_ := Aside0.mk (blk_below (sB_ BK245.out) hb)
          have n4_ := Aside0.mk (below_step (sW_ HB.out) hb)
          clear HO_246002 BK243 BK244 BK245 HB; have HO_246002 := n0_; have BK243 := n1_; have BK244 := n2_; have BK245 := n3_; have HB := n4_; clear n0_ n1_ n2_ n3_ n4_
          (try clear hb)
          (try clear hb2)
          (try clear hk)
          (try clear hi)
          refine hK.out _ _ ⟨(blk_cell BK245.out 0).trans rfl, (blk_cell BK245.out 1).trans rfl, (blk_cell BK245.out 2).trans rfl, (blk_cell BK243.out 0).trans rfl, (blk_cell BK243.out 1).trans rfl, (blk_cell BK243.out 2).trans rfl⟩ (fun hHeld => ?_)
          clear hK K
          refine norm_ (a' := ?_) ?_ ?_
          rotate_left
          ·show Act.put _ (some 69) _ = _
           simp only [Act.put, List.setIfInBounds_toArray, List.set_cons_zero, List.set_cons_succ, i64_w, i32_w]
           rfl
          refine pure_ (i := 6) (N := some 70) (v := ?_) (a' := ?_) #[true, true, true, true, true, true, true, true, false, false, false, false, false] rfl rfl (any_of HT_.out (by kernel_rfl)) (fun _ _ _ h => h) (Or.inl ⟨by rfl, ?_⟩) ?_ ?_
          rotate_left
          ·intro w'
           go_simp
           with_reducible rfl
          rotate_left
          ·simp only [Act.put, List.setIfInBounds_toArray, List.set_cons_zero, List.set_cons_succ, i64_w, i32_w]
           rfl
          refine pure_ (i := 8) (N := some 72) (v := ?_) (a' := ?_) #[true, true, true, true, true, true, true, true, true, false, false, false, false] rfl rfl (any_of HT_.out (by kernel_rfl)) (fun _ _ _ h => h) (Or.inl ⟨by rfl, ?_⟩) ?_ ?_
          rotate_left
          ·intro w'
           go_simp
           with_reducible rfl
          rotate_left
          ·simp only [Act.put, List.setIfInBounds_toArray, List.set_cons_zero, List.set_cons_succ, i64_w, i32_w]
           rfl
          refine one_ (i := 9) (N := some 73) #[true, true, true, true, true, true, true, true, true, true, false, false, false] rfl rfl (one_of HT_.out (by kernel_rfl)) (by decide) (fun K hK => ?_)
          refine value_ (w1 := ?_) (v := ?_) (by rfl) rfl ?_ ?_
          rotate_left 2
          ·go_simp
           constructor
           ·rfl
           rfl
          refine hK.out _ _ ⟨(blk_cell (blk_alloc BK245.out _) 0).trans rfl, (blk_cell (blk_alloc BK245.out _) 1).trans rfl, (blk_cell (blk_alloc BK245.out _) 2).trans rfl, (blk_cell (blk_alloc BK243.out _) 0).trans rfl, (blk_cell (blk_alloc BK243.out _) 1).trans rfl, (blk_cell (blk_alloc BK243.out _) 2).trans rfl⟩ (fun hHeld => ?_)
          clear hK K
          refine norm_ (a' := ?_) ?_ ?_
          rotate_left
          ·show Act.put _ (some 73) _ = _
           simp only [Act.put, List.setIfInBounds_toArray, List.set_cons_zero, List.set_cons_succ, i64_w, i32_w]
           rfl
          refine one_ (i := 10) (N := some 74) #[true, true, true, true, true, true, true, true, true, true, true, false, false] rfl rfl (one_of HT_.out (by kernel_rfl)) (by decide) (fun K hK => ?_)
          refine Kd.R_append_step (Kd.int .i64) (w0 := w) w.heap.size (by rfl) (.tmp 65) (.tmp 73) 24 3 (.int .i64 0) 8 rfl Try.underlying24 info3 rfl (by decide) (by omega) u246002 x246002_1 (wrap64 ((wrap64 (4 * t250)) + 3)) [.int .i64 (wrap64 ((wrap64 (4 * t250)) + 3))] (fun _ => True) (fun _ => False) rfl rfl ?aP (fun _ hk => hk.elim) ?aF ?aO ?aB ?aS ?aL ?_
          (case aP => exact rfl)
          (case aB => exact (sW_ HB.out))
          (case aF => exact (fun _ _ => trivial))
          (case aO => exact (sR_ HO_246002.out))
          (case aS => exact (below_size (sW_ HB.out)))
          (case aL => have := LMc43.out; omega)
          intro v252 w46 ho hb hg hat
          rw [← Ny251.out] at ho
          have n0_ := Aside0.mk (blk_grown (sB_ BK243.out) hg (Kd.R_ne HO_246002.out BK243.out (by decide)))
          have n1_ := Aside0.mk (blk_grown (sB_ BK244.out) hg (Kd.R_ne HO_246002.out BK244.out (by decide)))
          have n2_ := Aside0.mk (blk_grown (sB_ BK245.out) hg (Kd.R_ne HO_246002.out BK245.out (by decide)))
          have n3_ := Aside0.mk (hb)
          have n4_ := Aside0.mk (ho)
          clear BK243 BK244 BK245 HB HO_246002; have BK243 := n0_; have BK244 := n1_; have BK245 := n2_; have HB := n3_; have HO253 := n4_; clear n0_ n1_ n2_ n3_ n4_ ho hb hg hat
          obtain ⟨Ao47, co47, eo47⟩ := Kd.R_slice HO253.out
          (first | subst eo47 | (injection eo47 with f1_ f2_ f3_; have f4_ := f1_.symm; have f5_ := f3_.symm; clear f1_ f2_ f3_; subst f4_; subst f5_))
          refine hK.out _ _ ⟨(blk_cell BK245.out 0).trans rfl, (blk_cell BK245.out 1).trans rfl, (blk_cell BK245.out 2).trans rfl, (blk_cell BK243.out 0).trans rfl, (blk_cell BK243.out 1).trans rfl, (blk_cell BK243.out 2).trans rfl⟩ (fun hHeld => ?_)
          clear hK K
          refine norm_ (a' := ?_) ?_ ?_
          rotate_left
          ·show Act.put _ (some 74) _ = _
           simp only [Act.put, List.setIfInBounds_toArray, List.set_cons_zero, List.set_cons_succ, i64_w, i32_w]
           rfl
          refine pure_ (i := 11) (N := some 75) (v := ?_) (a' := ?_) #[true, true, true, true, true, true, true, true, true, true, true, true, false] rfl rfl (any_of HT_.out (by kernel_rfl)) (fun _ _ _ h => h) (Or.inl ⟨by rfl, ?_⟩) ?_ ?_
          rotate_left
          ·intro w'
           go_simp
           with_reducible rfl
          rotate_left
          ·simp only [Act.put, List.setIfInBounds_toArray, List.set_cons_zero, List.set_cons_succ, i64_w, i32_w]
           rfl
          refine last_ (i := 12) (N := none) #[true, true, true, true, true, true, true, true, true, true, true, true, true] rfl rfl (one_of HT_.out (by kernel_rfl)) (by decide) (fun K hK => ?_)
          have hs48 : w46.cell? ⟨gb245, 2, none⟩ = some (u246002) := (blk_cell BK245.out 2).trans rfl
          have hfs48 := blk_frozen BK245.out 2
          have hns48_0 := NB243_245.out; have hns48_1 := NB244_245.out; have hms48_0 := NB245_243.out; have hms48_1 := NB245_244.out
          refine skip_ (w1 := ?_) (by rfl) rfl ?_ ?_
          rotate_left
          ·go_simp
           rfl
          refine hK.out _ _ ?_
          clear hK K
          refine done_ (done_of HT_.out (by kernel_rfl)) ?_
          try go_wp2
          go_roundg kj32
          case measure => have := HK1.out; have := HJ11.out; have := HJ32.out; omega
          case rel => exact ⟨(wrap64 (x4_1 + 1)), (y251), (.slice Ao47 y251.length co47), (by first | rfl | (simp; done) | (simp [*]; done)), H', ⟨by have := HK1.out; have := HJ11.out; have := HJ32.out; omega⟩, ⟨by (with_reducible repeat (first | apply Kd.R_alloc | apply Kd.R_drewN | apply Kd.R_drew)); exact Kd.R_mono (Kd.R_far (p := ⟨gb245, 2, none⟩) (Kd.R_types HO253.out BK245.out (by decide)) (fun _ hk => hk.2) (.slice Ao47 y251.length co47)) (fun _ hk => trivial)⟩, ⟨by refine sB_ ?_; refine blk_far ?_ NB243_245.out _; refine sB_ ?_; exact BK243.out⟩, ⟨by refine sB_ ?_; refine blk_far ?_ NB244_245.out _; refine sB_ ?_; exact BK244.out⟩, ⟨by refine sB_ ?_; refine blk_put (cs := #[.int .i64 (wrap64 (2 * a0_0)), .int .i64 (wrap64 (2 * a0_1)), u246002]) ?_ 2 _ rfl; refine sB_ ?_; exact BK245.out⟩, ⟨by repeat (first | (with_reducible first | exact HB.out | apply below_alloc | apply pw_below_drewN | apply below_drew1 | refine below_set ?_ GE243.out | refine below_set ?_ GE244.out | refine below_set ?_ GE245.out) | exact HB.out)⟩⟩
         rw [if_neg c43] at H
         exact absurd H (by simp)
        replace c41 := Bool.eq_false_iff.mpr c41
        subst c41
        have H1 : (if (Int.tmod x4_1 (wrap64 (2 * a0_0))) ≥ a0_0 then (if (wrap64 (Int.tdiv x4_1 (wrap64 (2 * a0_0)))) ≥ a0_1 then ((spec_l2Rank.f a0_0 a0_1 l0_2 (Int.tmod x4_1 (wrap64 (2 * a0_0))) (wrap64 (Int.tdiv x4_1 (wrap64 (2 * a0_0))))).bind fun t254 => (if x246002_1.length < 17592186044416 then (spec_l2Double.l0 kj32 (wrap64 (x4_1 + 1)) a0_0 a0_1 l0_2 (wrap64 (2 * a0_0)) (wrap64 (2 * a0_1)) (x246002_1 ++ [wrap64 ((wrap64 (4 * t254)) + 1)])) else (none))) else ((spec_l2Rank.f a0_0 a0_1 l0_2 (Int.tmod x4_1 (wrap64 (2 * a0_0))) (wrap64 (Int.tdiv x4_1 (wrap64 (2 * a0_0))))).bind fun t258 => (if x246002_1.length < 17592186044416 then (spec_l2Double.l0 kj32 (wrap64 (x4_1 + 1)) a0_0 a0_1 l0_2 (wrap64 (2 * a0_0)) (wrap64 (2 * a0_1)) (x246002_1 ++ [wrap64 ((wrap64 (4 * t258)) + 0)])) else (none)))) else ((spec_l2Rank.f a0_0 a0_1 l0_2 (Int.tmod x4_1 (wrap64 (2 * a0_0))) (wrap64 (Int.tdiv x4_1 (wrap64 (2 * a0_0))))).bind fun t262 => (if x246002_1.length < 17592186044416 then (spec_l2Double.l0 kj32 (wrap64 (x4_1 + 1)) a0_0 a0_1 l0_2 (wrap64 (2 * a0_0)) (wrap64 (2 * a0_1)) (x246002_1 ++ [wrap64 ((wrap64 (4 * t262)) + 0)])) else (none)))) = some (r1, r2, r3) := by rw [if_neg (show ¬ (false = true) by decide)] at H; exact H
        clear H; have H := H1; clear H1
        by_cases c49 : (Int.tmod x4_1 (wrap64 (2 * a0_0))) ≥ a0_0
        ·rw [if_pos c49] at H
         have c49b0 : decide (a0_0 ≤ (Int.tmod x4_1 (wrap64 (2 * a0_0)))) = true := decide_eq_true c49
         clear c49
         by_cases c50 : (wrap64 (Int.tdiv x4_1 (wrap64 (2 * a0_0)))) ≥ a0_1
         ·rw [if_pos c50] at H
          have c50b0 : decide (a0_1 ≤ (wrap64 (Int.tdiv x4_1 (wrap64 (2 * a0_0))))) = true := decide_eq_true c50
          clear c50
          replace H := Option.bind_eq_some_iff.mp H
          obtain ⟨t254, A510, H⟩ := H
          replace H : (if x246002_1.length < 17592186044416 then (spec_l2Double.l0 kj32 (wrap64 (x4_1 + 1)) a0_0 a0_1 l0_2 (wrap64 (2 * a0_0)) (wrap64 (2 * a0_1)) (x246002_1 ++ [wrap64 ((wrap64 (4 * t254)) + 1)])) else (none)) = some (r1, r2, r3) := H
          have A51 := Aside0.mk A510
          clear A510
          by_cases c52 : x246002_1.length < 17592186044416
          ·rw [if_pos c52] at H
           have LMc52 := Aside0.mk c52
           clear c52
           obtain ⟨y255, hy255⟩ : ∃ y_ : List Int, y_ = (x246002_1 ++ [wrap64 ((wrap64 (4 * t254)) + 1)]) := ⟨_, rfl⟩
           replace H : (spec_l2Double.l0 kj32 (wrap64 (x4_1 + 1)) a0_0 a0_1 l0_2 (wrap64 (2 * a0_0)) (wrap64 (2 * a0_1)) y255) = some (r1, r2, r3) := by first | (rw [hy255]; with_reducible exact H) | (have H2_ := (Option.bind_some _ _).symm.trans H; rw [hy255]; with_reducible exact H2_) | (have H2_ := (Option.bind_some _ _).symm.trans H; with_reducible exact H2_) | with_reducible exact H | (rw [hy255]; exact H) | exact H
           have Ny255 := Aside0.mk hy255
           clear hy255
           have H' := Aside0.mk H
           clear H; have hnb53 := NB243_244.out; have hnc53 := NB244_243.out; have hnb54 := NB243_245.out; have hnc54 := NB245_243.out
           obtain ⟨hcz55_0, hcz55_1, hcz55_2, hfz55_0, hfz55_1, hfz55_2⟩ := sZ_ BK243.out
           try go_wp2
           have n0_ := Aside0.mk (Kd.R_drew HO_246002.out)
           have n1_ := Aside0.mk (blk_drew BK243.out)
           have n2_ := Aside0.mk (blk_drew BK244.out)
           have n3_ := Aside0.mk (blk_drew BK245.out)
           have n4_ := Aside0.mk (below_drew1 HB.out)
           clear HO_246002 BK243 BK244 BK245 HB; have HO_246002 := n0_; have BK243 := n1_; have BK244 := n2_; have BK245 := n3_; have HB := n4_; clear n0_ n1_ n2_ n3_ n4_
           refine start_ (n := 13) (S := fun w' => w'.cell? ⟨gb245, 0, none⟩ = some (.int .i64 (wrap64 (2 * a0_0))) ∧ w'.cell? ⟨gb245, 1, none⟩ = some (.int .i64 (wrap64 (2 * a0_1))) ∧ w'.cell? ⟨gb245, 2, none⟩ = some (u246002) ∧ w'.cell? ⟨gb243, 0, none⟩ = some (.int .i64 a0_0) ∧ w'.cell? ⟨gb243, 1, none⟩ = some (.int .i64 a0_1) ∧ w'.cell? ⟨gb243, 2, none⟩ = some (.slice A0_2 l0_2.length c0_2)) (ds := [12]) #[false, false, false, false, false, false, false, false, false, false, false, false, false] (by kernel_rfl) rfl rfl ⟨(blk_cell BK245.out 0).trans rfl, (blk_cell BK245.out 1).trans rfl, (blk_cell BK245.out 2).trans rfl, (blk_cell BK243.out 0).trans rfl, (blk_cell BK243.out 1).trans rfl, (blk_cell BK243.out 2).trans rfl⟩ (fun hHeld => ?_); refine with_tabW spec_l2Double.tab14 spec_l2Double.bits14 (fun HT_ HW_ => ?_)
           generalize wc.drew = w56 at HO_246002 BK243 BK244 BK245 HB hHeld ⊢
           refine pure_ (i := 0) (N := some 64) (v := ?_) (a' := ?_) #[true, false, false, false, false, false, false, false, false, false, false, false, false] rfl rfl (any_of HT_.out (by kernel_rfl)) (fun _ _ _ h => h) (Or.inl ⟨by rfl, ?_⟩) ?_ ?_
           rotate_left
           ·intro w'
            go_simp
            with_reducible rfl
           rotate_left
           ·simp only [Act.put, List.setIfInBounds_toArray, List.set_cons_zero, List.set_cons_succ, i64_w, i32_w]
            rfl
           refine pure_ (i := 3) (N := some 67) (v := ?_) (a' := ?_) #[true, false, false, true, false, false, false, false, false, false, false, false, false] rfl rfl (any_of HT_.out (by kernel_rfl)) (fun _ _ _ h => h) (Or.inl ⟨by rfl, ?_⟩) ?_ ?_
           rotate_left
           ·intro w'
            go_simp
            with_reducible rfl
           rotate_left
           ·simp only [Act.put, List.setIfInBounds_toArray, List.set_cons_zero, List.set_cons_succ, i64_w, i32_w]
            rfl
           refine pure_ (i := 4) (N := some 68) (v := ?_) (a' := ?_) #[true, false, false, true, true, false, false, false, false, false, false, false, false] rfl rfl (any_of HT_.out (by kernel_rfl)) (fun _ _ _ h => h) (Or.inl ⟨by rfl, ?_⟩) ?_ ?_
           rotate_left
           ·intro w'
            go_simp
            with_reducible rfl
           rotate_left
           ·simp only [Act.put, List.setIfInBounds_toArray, List.set_cons_zero, List.set_cons_succ, i64_w, i32_w]
            rfl
           refine pure_ (i := 7) (N := some 71) (v := ?_) (a' := ?_) #[true, false, false, true, true, false, false, true, false, false, false, false, false] rfl rfl (any_of HT_.out (by kernel_rfl)) (fun _ _ _ h => h) (Or.inl ⟨by rfl, ?_⟩) ?_ ?_
           rotate_left
           ·intro w'
            go_simp
            with_reducible rfl
           rotate_left
           ·simp only [Act.put, List.setIfInBounds_toArray, List.set_cons_zero, List.set_cons_succ, i64_w, i32_w]
            rfl
           refine take_ (i := 1) (N := some 65) (v := ?_) (a' := ?_) #[true, true, false, true, true, false, false, true, false, false, false, false, false] rfl rfl (take_ofW HT_.out HW_.out (by kernel_rfl)) (fun _ _ _ h => h) (Or.inl ⟨by rfl, ?_⟩) hHeld ?_ ?_
           rotate_left
           ·rintro w' ⟨s0, s1, s2, s3, s4, s5⟩
            go_simp
            with_reducible rfl
           rotate_left
           ·simp only [Act.put, List.setIfInBounds_toArray, List.set_cons_zero, List.set_cons_succ, i64_w, i32_w]
            rfl
           refine take_ (i := 2) (N := some 66) (v := ?_) (a' := ?_) #[true, true, true, true, true, false, false, true, false, false, false, false, false] rfl rfl (take_ofW HT_.out HW_.out (by kernel_rfl)) (fun _ _ _ h => h) (Or.inl ⟨by rfl, ?_⟩) hHeld ?_ ?_
           rotate_left
           ·rintro w' ⟨s0, s1, s2, s3, s4, s5⟩
            go_simp
            with_reducible rfl
           rotate_left
           ·simp only [Act.put, List.setIfInBounds_toArray, List.set_cons_zero, List.set_cons_succ, i64_w, i32_w]
            rfl
           refine one_ (i := 5) (N := some 69) #[true, true, true, true, true, true, false, true, false, false, false, false, false] rfl rfl (one_of HT_.out (by kernel_rfl)) (by decide) (fun K hK => ?_)
           refine goes_ Try.func93 (by kernel_rfl) rfl #[.agg #[.int .i64 a0_0, .int .i64 a0_1, .slice A0_2 l0_2.length c0_2], .int .i64 (Int.tmod x4_1 (wrap64 (2 * a0_0))), .int .i64 (wrap64 (Int.tdiv x4_1 (wrap64 (2 * a0_0))))] (by rfl) rfl rfl sL_ ?_
           with_reducible refine (spec_l2Rank.calls a0_0 a0_1 _ _ l0_2 (Int.tmod x4_1 (wrap64 (2 * a0_0))) (wrap64 (Int.tdiv x4_1 (wrap64 (2 * a0_0)))) t254 _ ?side1 ?side2 A51.out).mono ?_
           (case side1 => repeat (first | exact (Kd.C_below HR0_2.out HB.out) | (with_reducible refine Kd.C_alloc ?_ _) | (with_reducible refine Kd.C_drewN ?_ _) | (with_reducible refine Kd.C_drew ?_)))
           (case side2 => exact HC0_2.out)
           rintro e w57 ⟨rfl, hb⟩
           refine ⟨_, rfl, ?_⟩
           have n0_ := Aside0.mk (Kd.R_below (sR_ HO_246002.out) hb)
           have n1_ := Aside0.mk (blk_below (sB_ BK243.out) hb)
           have n2_ := Aside0.mk (blk_below (sB_ BK244.out) hb)
           have n3_ := Aside0.mk (blk_below (sB_ BK245.out) hb)
           have n4_ := Aside0.mk (below_step (sW_ HB.out) hb)
           clear HO_246002 BK243 BK244 BK245 HB; have HO_246002 := n0_; have BK243 := n1_; have BK244 := n2_; have BK245 := n3_; have HB := n4_; clear n0_ n1_ n2_ n3_ n4_
           (try clear hb)
           (try clear hb2)
           (try clear hk)
           (try clear hi)
           refine hK.out _ _ ⟨(blk_cell BK245.out 0).trans rfl, (blk_cell BK245.out 1).trans rfl, (blk_cell BK245.out 2).trans rfl, (blk_cell BK243.out 0).trans rfl, (blk_cell BK243.out 1).trans rfl, (blk_cell BK243.out 2).trans rfl⟩ (fun hHeld => ?_)
           clear hK K
           refine norm_ (a' := ?_) ?_ ?_
           rotate_left
           ·show Act.put _ (some 69) _ = _
            simp only [Act.put, List.setIfInBounds_toArray, List.set_cons_zero, List.set_cons_succ, i64_w, i32_w]
            rfl
           refine pure_ (i := 6) (N := some 70) (v := ?_) (a' := ?_) #[true, true, true, true, true, true, true, true, false, false, false, false, false] rfl rfl (any_of HT_.out (by kernel_rfl)) (fun _ _ _ h => h) (Or.inl ⟨by rfl, ?_⟩) ?_ ?_
           rotate_left
           ·intro w'
            go_simp
            with_reducible rfl
           rotate_left
           ·simp only [Act.put, List.setIfInBounds_toArray, List.set_cons_zero, List.set_cons_succ, i64_w, i32_w]
            rfl
           refine pure_ (i := 8) (N := some 72) (v := ?_) (a' := ?_) #[true, true, true, true, true, true, true, true, true, false, false, false, false] rfl rfl (any_of HT_.out (by kernel_rfl)) (fun _ _ _ h => h) (Or.inl ⟨by rfl, ?_⟩) ?_ ?_
           rotate_left
           ·intro w'
            go_simp
            with_reducible rfl
           rotate_left
           ·simp only [Act.put, List.setIfInBounds_toArray, List.set_cons_zero, List.set_cons_succ, i64_w, i32_w]
            rfl
           refine one_ (i := 9) (N := some 73) #[true, true, true, true, true, true, true, true, true, true, false, false, false] rfl rfl (one_of HT_.out (by kernel_rfl)) (by decide) (fun K hK => ?_)
           refine value_ (w1 := ?_) (v := ?_) (by rfl) rfl ?_ ?_
           rotate_left 2
           ·go_simp
            constructor
            ·rfl
            rfl
           refine hK.out _ _ ⟨(blk_cell (blk_alloc BK245.out _) 0).trans rfl, (blk_cell (blk_alloc BK245.out _) 1).trans rfl, (blk_cell (blk_alloc BK245.out _) 2).trans rfl, (blk_cell (blk_alloc BK243.out _) 0).trans rfl, (blk_cell (blk_alloc BK243.out _) 1).trans rfl, (blk_cell (blk_alloc BK243.out _) 2).trans rfl⟩ (fun hHeld => ?_)
           clear hK K
           refine norm_ (a' := ?_) ?_ ?_
           rotate_left
           ·show Act.put _ (some 73) _ = _
            simp only [Act.put, List.setIfInBounds_toArray, List.set_cons_zero, List.set_cons_succ, i64_w, i32_w]
            rfl
           refine one_ (i := 10) (N := some 74) #[true, true, true, true, true, true, true, true, true, true, true, false, false] rfl rfl (one_of HT_.out (by kernel_rfl)) (by decide) (fun K hK => ?_)
           refine Kd.R_append_step (Kd.int .i64) (w0 := w) w.heap.size (by rfl) (.tmp 65) (.tmp 73) 24 3 (.int .i64 0) 8 rfl Try.underlying24 info3 rfl (by decide) (by omega) u246002 x246002_1 (wrap64 ((wrap64 (4 * t254)) + 1)) [.int .i64 (wrap64 ((wrap64 (4 * t254)) + 1))] (fun _ => True) (fun _ => False) rfl rfl ?aP (fun _ hk => hk.elim) ?aF ?aO ?aB ?aS ?aL ?_
           (case aP => exact rfl)
           (case aB => exact (sW_ HB.out))
           (case aF => exact (fun _ _ => trivial))
           (case aO => exact (sR_ HO_246002.out))
           (case aS => exact (below_size (sW_ HB.out)))
           (case aL => have := LMc52.out; omega)
           intro v256 w58 ho hb hg hat
           rw [← Ny255.out] at ho
           have n0_ := Aside0.mk (blk_grown (sB_ BK243.out) hg (Kd.R_ne HO_246002.out BK243.out (by decide)))
           have n1_ := Aside0.mk (blk_grown (sB_ BK244.out) hg (Kd.R_ne HO_246002.out BK244.out (by decide)))
           have n2_ := Aside0.mk (blk_grown (sB_ BK245.out) hg (Kd.R_ne HO_246002.out BK245.out (by decide)))
           have n3_ := Aside0.mk (hb)
           have n4_ := Aside0.mk (ho)
           clear BK243 BK244 BK245 HB HO_246002; have BK243 := n0_; have BK244 := n1_; have BK245 := n2_; have HB := n3_; have HO257 := n4_; clear n0_ n1_ n2_ n3_ n4_ ho hb hg hat
           obtain ⟨Ao59, co59, eo59⟩ := Kd.R_slice HO257.out
           (first | subst eo59 | (injection eo59 with f1_ f2_ f3_; have f4_ := f1_.symm; have f5_ := f3_.symm; clear f1_ f2_ f3_; subst f4_; subst f5_))
           refine hK.out _ _ ⟨(blk_cell BK245.out 0).trans rfl, (blk_cell BK245.out 1).trans rfl, (blk_cell BK245.out 2).trans rfl, (blk_cell BK243.out 0).trans rfl, (blk_cell BK243.out 1).trans rfl, (blk_cell BK243.out 2).trans rfl⟩ (fun hHeld => ?_)
           clear hK K
           refine norm_ (a' := ?_) ?_ ?_
           rotate_left
           ·show Act.put _ (some 74) _ = _
            simp only [Act.put, List.setIfInBounds_toArray, List.set_cons_zero, List.set_cons_succ, i64_w, i32_w]
            rfl
           refine pure_ (i := 11) (N := some 75) (v := ?_) (a' := ?_) #[true, true, true, true, true, true, true, true, true, true, true, true, false] rfl rfl (any_of HT_.out (by kernel_rfl)) (fun _ _ _ h => h) (Or.inl ⟨by rfl, ?_⟩) ?_ ?_
           rotate_left
           ·intro w'
            go_simp
            with_reducible rfl
           rotate_left
           ·simp only [Act.put, List.setIfInBounds_toArray, List.set_cons_zero, List.set_cons_succ, i64_w, i32_w]
            rfl
           refine last_ (i := 12) (N := none) #[true, true, true, true, true, true, true, true, true, true, true, true, true] rfl rfl (one_of HT_.out (by kernel_rfl)) (by decide) (fun K hK => ?_)
           have hs60 : w58.cell? ⟨gb245, 2, none⟩ = some (u246002) := (blk_cell BK245.out 2).trans rfl
           have hfs60 := blk_frozen BK245.out 2
           have hns60_0 := NB243_245.out; have hns60_1 := NB244_245.out; have hms60_0 := NB245_243.out; have hms60_1 := NB245_244.out
           refine skip_ (w1 := ?_) (by rfl) rfl ?_ ?_
           rotate_left
           ·go_simp
            rfl
           refine hK.out _ _ ?_
           clear hK K
           refine done_ (done_of HT_.out (by kernel_rfl)) ?_
           try go_wp2
           go_roundg kj32
           case measure => have := HK1.out; have := HJ11.out; have := HJ32.out; omega
           case rel => exact ⟨(wrap64 (x4_1 + 1)), (y255), (.slice Ao59 y255.length co59), (by first | rfl | (simp; done) | (simp [*]; done)), H', ⟨by have := HK1.out; have := HJ11.out; have := HJ32.out; omega⟩, ⟨by (with_reducible repeat (first | apply Kd.R_alloc | apply Kd.R_drewN | apply Kd.R_drew)); exact Kd.R_mono (Kd.R_far (p := ⟨gb245, 2, none⟩) (Kd.R_types HO257.out BK245.out (by decide)) (fun _ hk => hk.2) (.slice Ao59 y255.length co59)) (fun _ hk => trivial)⟩, ⟨by refine sB_ ?_; refine blk_far ?_ NB243_245.out _; refine sB_ ?_; exact BK243.out⟩, ⟨by refine sB_ ?_; refine blk_far ?_ NB244_245.out _; refine sB_ ?_; exact BK244.out⟩, ⟨by refine sB_ ?_; refine blk_put (cs := #[.int .i64 (wrap64 (2 * a0_0)), .int .i64 (wrap64 (2 * a0_1)), u246002]) ?_ 2 _ rfl; refine sB_ ?_; exact BK245.out⟩, ⟨by repeat (first | (with_reducible first | exact HB.out | apply below_alloc | apply pw_below_drewN | apply below_drew1 | refine below_set ?_ GE243.out | refine below_set ?_ GE244.out | refine below_set ?_ GE245.out) | exact HB.out)⟩⟩
          rw [if_neg c52] at H
          exact absurd H (by simp)
         rw [if_neg c50] at H
         have c50b0 : decide (a0_1 ≤ (wrap64 (Int.tdiv x4_1 (wrap64 (2 * a0_0))))) = false := decide_eq_false c50
         clear c50
         replace H := Option.bind_eq_some_iff.mp H
         obtain ⟨t258, A610, H⟩ := H
         replace H : (if x246002_1.length < 17592186044416 then (spec_l2Double.l0 kj32 (wrap64 (x4_1 + 1)) a0_0 a0_1 l0_2 (wrap64 (2 * a0_0)) (wrap64 (2 * a0_1)) (x246002_1 ++ [wrap64 (wrap64 (4 * t258))])) else (none)) = some (r1, r2, r3) := by simpa only [Int.add_zero] using H
         have A61 := Aside0.mk A610
         clear A610
         by_cases c62 : x246002_1.length < 17592186044416
         ·rw [if_pos c62] at H
          have LMc62 := Aside0.mk c62
          clear c62
          obtain ⟨y259, hy259⟩ : ∃ y_ : List Int, y_ = (x246002_1 ++ [wrap64 (wrap64 (4 * t258))]) := ⟨_, rfl⟩
          replace H : (spec_l2Double.l0 kj32 (wrap64 (x4_1 + 1)) a0_0 a0_1 l0_2 (wrap64 (2 * a0_0)) (wrap64 (2 * a0_1)) y259) = some (r1, r2, r3) := by first | (rw [hy259]; with_reducible exact H) | (have H2_ := (Option.bind_some _ _).symm.trans H; rw [hy259]; with_reducible exact H2_) | (have H2_ := (Option.bind_some _ _).symm.trans H; with_reducible exact H2_) | with_reducible exact H | (rw [hy259]; exact H) | exact H
          have Ny259 := Aside0.mk hy259
          clear hy259
          have H' := Aside0.mk H
          clear H; have hnb63 := NB243_244.out; have hnc63 := NB244_243.out; have hnb64 := NB243_245.out; have hnc64 := NB245_243.out
          obtain ⟨hcz65_0, hcz65_1, hcz65_2, hfz65_0, hfz65_1, hfz65_2⟩ := sZ_ BK243.out
          try go_wp2
          have n0_ := Aside0.mk (Kd.R_drew HO_246002.out)
          have n1_ := Aside0.mk (blk_drew BK243.out)
          have n2_ := Aside0.mk (blk_drew BK244.out)
          have n3_ := Aside0.mk (blk_drew BK245.out)
          have n4_ := Aside0.mk (below_drew1 HB.out)
          clear HO_246002 BK243 BK244 BK245 HB; have HO_246002 := n0_; have BK243 := n1_; have BK244 := n2_; have BK245 := n3_; have HB := n4_; clear n0_ n1_ n2_ n3_ n4_
          refine start_ (n := 13) (S := fun w' => w'.cell? ⟨gb245, 0, none⟩ = some (.int .i64 (wrap64 (2 * a0_0))) ∧ w'.cell? ⟨gb245, 1, none⟩ = some (.int .i64 (wrap64 (2 * a0_1))) ∧ w'.cell? ⟨gb245, 2, none⟩ = some (u246002) ∧ w'.cell? ⟨gb243, 0, none⟩ = some (.int .i64 a0_0) ∧ w'.cell? ⟨gb243, 1, none⟩ = some (.int .i64 a0_1) ∧ w'.cell? ⟨gb243, 2, none⟩ = some (.slice A0_2 l0_2.length c0_2)) (ds := [12]) #[false, false, false, false, false, false, false, false, false, false, false, false, false] (by kernel_rfl) rfl rfl ⟨(blk_cell BK245.out 0).trans rfl, (blk_cell BK245.out 1).trans rfl, (blk_cell BK245.out 2).trans rfl, (blk_cell BK243.out 0).trans rfl, (blk_cell BK243.out 1).trans rfl, (blk_cell BK243.out 2).trans rfl⟩ (fun hHeld => ?_); refine with_tabW spec_l2Double.tab14 spec_l2Double.bits14 (fun HT_ HW_ => ?_)
          generalize wc.drew = w66 at HO_246002 BK243 BK244 BK245 HB hHeld ⊢
          refine pure_ (i := 0) (N := some 64) (v := ?_) (a' := ?_) #[true, false, false, false, false, false, false, false, false, false, false, false, false] rfl rfl (any_of HT_.out (by kernel_rfl)) (fun _ _ _ h => h) (Or.inl ⟨by rfl, ?_⟩) ?_ ?_
          rotate_left
          ·intro w'
           go_simp
           with_reducible rfl
          rotate_left
          ·simp only [Act.put, List.setIfInBounds_toArray, List.set_cons_zero, List.set_cons_succ, i64_w, i32_w]
           rfl
          refine pure_ (i := 3) (N := some 67) (v := ?_) (a' := ?_) #[true, false, false, true, false, false, false, false, false, false, false, false, false] rfl rfl (any_of HT_.out (by kernel_rfl)) (fun _ _ _ h => h) (Or.inl ⟨by rfl, ?_⟩) ?_ ?_
          rotate_left
          ·intro w'
           go_simp
           with_reducible rfl
          rotate_left
          ·simp only [Act.put, List.setIfInBounds_toArray, List.set_cons_zero, List.set_cons_succ, i64_w, i32_w]
           rfl
          refine pure_ (i := 4) (N := some 68) (v := ?_) (a' := ?_) #[true, false, false, true, true, false, false, false, false, false, false, false, false] rfl rfl (any_of HT_.out (by kernel_rfl)) (fun _ _ _ h => h) (Or.inl ⟨by rfl, ?_⟩) ?_ ?_
          rotate_left
          ·intro w'
           go_simp
           with_reducible rfl
          rotate_left
          ·simp only [Act.put, List.setIfInBounds_toArray, List.set_cons_zero, List.set_cons_succ, i64_w, i32_w]
           rfl
          refine pure_ (i := 7) (N := some 71) (v := ?_) (a' := ?_) #[true, false, false, true, true, false, false, true, false, false, false, false, false] rfl rfl (any_of HT_.out (by kernel_rfl)) (fun _ _ _ h => h) (Or.inl ⟨by rfl, ?_⟩) ?_ ?_
          rotate_left
          ·intro w'
           go_simp
           with_reducible rfl
          rotate_left
          ·simp only [Act.put, List.setIfInBounds_toArray, List.set_cons_zero, List.set_cons_succ, i64_w, i32_w]
           rfl
          refine take_ (i := 1) (N := some 65) (v := ?_) (a' := ?_) #[true, true, false, true, true, false, false, true, false, false, false, false, false] rfl rfl (take_ofW HT_.out HW_.out (by kernel_rfl)) (fun _ _ _ h => h) (Or.inl ⟨by rfl, ?_⟩) hHeld ?_ ?_
          rotate_left
          ·rintro w' ⟨s0, s1, s2, s3, s4, s5⟩
           go_simp
           with_reducible rfl
          rotate_left
          ·simp only [Act.put, List.setIfInBounds_toArray, List.set_cons_zero, List.set_cons_succ, i64_w, i32_w]
           rfl
          refine take_ (i := 2) (N := some 66) (v := ?_) (a' := ?_) #[true, true, true, true, true, false, false, true, false, false, false, false, false] rfl rfl (take_ofW HT_.out HW_.out (by kernel_rfl)) (fun _ _ _ h => h) (Or.inl ⟨by rfl, ?_⟩) hHeld ?_ ?_
          rotate_left
          ·rintro w' ⟨s0, s1, s2, s3, s4, s5⟩
           go_simp
           with_reducible rfl
          rotate_left
          ·simp only [Act.put, List.setIfInBounds_toArray, List.set_cons_zero, List.set_cons_succ, i64_w, i32_w]
           rfl
          refine one_ (i := 5) (N := some 69) #[true, true, true, true, true, true, false, true, false, false, false, false, false] rfl rfl (one_of HT_.out (by kernel_rfl)) (by decide) (fun K hK => ?_)
          refine goes_ Try.func93 (by kernel_rfl) rfl #[.agg #[.int .i64 a0_0, .int .i64 a0_1, .slice A0_2 l0_2.length c0_2], .int .i64 (Int.tmod x4_1 (wrap64 (2 * a0_0))), .int .i64 (wrap64 (Int.tdiv x4_1 (wrap64 (2 * a0_0))))] (by rfl) rfl rfl sL_ ?_
          with_reducible refine (spec_l2Rank.calls a0_0 a0_1 _ _ l0_2 (Int.tmod x4_1 (wrap64 (2 * a0_0))) (wrap64 (Int.tdiv x4_1 (wrap64 (2 * a0_0)))) t258 _ ?side1 ?side2 A61.out).mono ?_
          (case side1 => repeat (first | exact (Kd.C_below HR0_2.out HB.out) | (with_reducible refine Kd.C_alloc ?_ _) | (with_reducible refine Kd.C_drewN ?_ _) | (with_reducible refine Kd.C_drew ?_)))
          (case side2 => exact HC0_2.out)
          rintro e w67 ⟨rfl, hb⟩
          refine ⟨_, rfl, ?_⟩
          have n0_ := Aside0.mk (Kd.R_below (sR_ HO_246002.out) hb)
          have n1_ := Aside0.mk (blk_below (sB_ BK243.out) hb)
          have n2_ := Aside0.mk (blk_below (sB_ BK244.out) hb)
          have n3_ := Aside0.mk (blk_below (sB_ BK245.out) hb)
          have n4_ := Aside0.mk (below_step (sW_ HB.out) hb)
          clear HO_246002 BK243 BK244 BK245 HB; have HO_246002 := n0_; have BK243 := n1_; have BK244 := n2_; have BK245 := n3_; have HB := n4_; clear n0_ n1_ n2_ n3_ n4_
          (try clear hb)
          (try clear hb2)
          (try clear hk)
          (try clear hi)
          refine hK.out _ _ ⟨(blk_cell BK245.out 0).trans rfl, (blk_cell BK245.out 1).trans rfl, (blk_cell BK245.out 2).trans rfl, (blk_cell BK243.out 0).trans rfl, (blk_cell BK243.out 1).trans rfl, (blk_cell BK243.out 2).trans rfl⟩ (fun hHeld => ?_)
          clear hK K
          refine norm_ (a' := ?_) ?_ ?_
          rotate_left
          ·show Act.put _ (some 69) _ = _
           simp only [Act.put, List.setIfInBounds_toArray, List.set_cons_zero, List.set_cons_succ, i64_w, i32_w]
           rfl
          refine pure_ (i := 6) (N := some 70) (v := ?_) (a' := ?_) #[true, true, true, true, true, true, true, true, false, false, false, false, false] rfl rfl (any_of HT_.out (by kernel_rfl)) (fun _ _ _ h => h) (Or.inl ⟨by rfl, ?_⟩) ?_ ?_
          rotate_left
          ·intro w'
           go_simp
           with_reducible rfl
          rotate_left
          ·simp only [Act.put, List.setIfInBounds_toArray, List.set_cons_zero, List.set_cons_succ, i64_w, i32_w]
           rfl
          refine pure_ (i := 8) (N := some 72) (v := ?_) (a' := ?_) #[true, true, true, true, true, true, true, true, true, false, false, false, false] rfl rfl (any_of HT_.out (by kernel_rfl)) (fun _ _ _ h => h) (Or.inl ⟨by rfl, ?_⟩) ?_ ?_
          rotate_left
          ·intro w'
           go_simp
           with_reducible rfl
          rotate_left
          ·simp only [Act.put, List.setIfInBounds_toArray, List.set_cons_zero, List.set_cons_succ, i64_w, i32_w]
           rfl
          refine one_ (i := 9) (N := some 73) #[true, true, true, true, true, true, true, true, true, true, false, false, false] rfl rfl (one_of HT_.out (by kernel_rfl)) (by decide) (fun K hK => ?_)
          refine value_ (w1 := ?_) (v := ?_) (by rfl) rfl ?_ ?_
          rotate_left 2
          ·go_simp
           constructor
           ·rfl
           rfl
          refine hK.out _ _ ⟨(blk_cell (blk_alloc BK245.out _) 0).trans rfl, (blk_cell (blk_alloc BK245.out _) 1).trans rfl, (blk_cell (blk_alloc BK245.out _) 2).trans rfl, (blk_cell (blk_alloc BK243.out _) 0).trans rfl, (blk_cell (blk_alloc BK243.out _) 1).trans rfl, (blk_cell (blk_alloc BK243.out _) 2).trans rfl⟩ (fun hHeld => ?_)
          clear hK K
          refine norm_ (a' := ?_) ?_ ?_
          rotate_left
          ·show Act.put _ (some 73) _ = _
           simp only [Act.put, List.setIfInBounds_toArray, List.set_cons_zero, List.set_cons_succ, i64_w, i32_w]
           rfl
          refine one_ (i := 10) (N := some 74) #[true, true, true, true, true, true, true, true, true, true, true, false, false] rfl rfl (one_of HT_.out (by kernel_rfl)) (by decide) (fun K hK => ?_)
          refine Kd.R_append_step (Kd.int .i64) (w0 := w) w.heap.size (by rfl) (.tmp 65) (.tmp 73) 24 3 (.int .i64 0) 8 rfl Try.underlying24 info3 rfl (by decide) (by omega) u246002 x246002_1 (wrap64 (wrap64 (4 * t258))) [.int .i64 (wrap64 (wrap64 (4 * t258)))] (fun _ => True) (fun _ => False) rfl rfl ?aP (fun _ hk => hk.elim) ?aF ?aO ?aB ?aS ?aL ?_
          (case aP => exact rfl)
          (case aB => exact (sW_ HB.out))
          (case aF => exact (fun _ _ => trivial))
          (case aO => exact (sR_ HO_246002.out))
          (case aS => exact (below_size (sW_ HB.out)))
          (case aL => have := LMc62.out; omega)
          intro v260 w68 ho hb hg hat
          rw [← Ny259.out] at ho
          have n0_ := Aside0.mk (blk_grown (sB_ BK243.out) hg (Kd.R_ne HO_246002.out BK243.out (by decide)))
          have n1_ := Aside0.mk (blk_grown (sB_ BK244.out) hg (Kd.R_ne HO_246002.out BK244.out (by decide)))
          have n2_ := Aside0.mk (blk_grown (sB_ BK245.out) hg (Kd.R_ne HO_246002.out BK245.out (by decide)))
          have n3_ := Aside0.mk (hb)
          have n4_ := Aside0.mk (ho)
          clear BK243 BK244 BK245 HB HO_246002; have BK243 := n0_; have BK244 := n1_; have BK245 := n2_; have HB := n3_; have HO261 := n4_; clear n0_ n1_ n2_ n3_ n4_ ho hb hg hat
          obtain ⟨Ao69, co69, eo69⟩ := Kd.R_slice HO261.out
          (first | subst eo69 | (injection eo69 with f1_ f2_ f3_; have f4_ := f1_.symm; have f5_ := f3_.symm; clear f1_ f2_ f3_; subst f4_; subst f5_))
          refine hK.out _ _ ⟨(blk_cell BK245.out 0).trans rfl, (blk_cell BK245.out 1).trans rfl, (blk_cell BK245.out 2).trans rfl, (blk_cell BK243.out 0).trans rfl, (blk_cell BK243.out 1).trans rfl, (blk_cell BK243.out 2).trans rfl⟩ (fun hHeld => ?_)
          clear hK K
          refine norm_ (a' := ?_) ?_ ?_
          rotate_left
          ·show Act.put _ (some 74) _ = _
           simp only [Act.put, List.setIfInBounds_toArray, List.set_cons_zero, List.set_cons_succ, i64_w, i32_w]
           rfl
          refine pure_ (i := 11) (N := some 75) (v := ?_) (a' := ?_) #[true, true, true, true, true, true, true, true, true, true, true, true, false] rfl rfl (any_of HT_.out (by kernel_rfl)) (fun _ _ _ h => h) (Or.inl ⟨by rfl, ?_⟩) ?_ ?_
          rotate_left
          ·intro w'
           go_simp
           with_reducible rfl
          rotate_left
          ·simp only [Act.put, List.setIfInBounds_toArray, List.set_cons_zero, List.set_cons_succ, i64_w, i32_w]
           rfl
          refine last_ (i := 12) (N := none) #[true, true, true, true, true, true, true, true, true, true, true, true, true] rfl rfl (one_of HT_.out (by kernel_rfl)) (by decide) (fun K hK => ?_)
          have hs70 : w68.cell? ⟨gb245, 2, none⟩ = some (u246002) := (blk_cell BK245.out 2).trans rfl
          have hfs70 := blk_frozen BK245.out 2
          have hns70_0 := NB243_245.out; have hns70_1 := NB244_245.out; have hms70_0 := NB245_243.out; have hms70_1 := NB245_244.out
          refine skip_ (w1 := ?_) (by rfl) rfl ?_ ?_
          rotate_left
          ·go_simp
           rfl
          refine hK.out _ _ ?_
          clear hK K
          refine done_ (done_of HT_.out (by kernel_rfl)) ?_
          try go_wp2
          go_roundg kj32
          case measure => have := HK1.out; have := HJ11.out; have := HJ32.out; omega
          case rel => exact ⟨(wrap64 (x4_1 + 1)), (y259), (.slice Ao69 y259.length co69), (by first | rfl | (simp; done) | (simp [*]; done)), H', ⟨by have := HK1.out; have := HJ11.out; have := HJ32.out; omega⟩, ⟨by (with_reducible repeat (first | apply Kd.R_alloc | apply Kd.R_drewN | apply Kd.R_drew)); exact Kd.R_mono (Kd.R_far (p := ⟨gb245, 2, none⟩) (Kd.R_types HO261.out BK245.out (by decide)) (fun _ hk => hk.2) (.slice Ao69 y259.length co69)) (fun _ hk => trivial)⟩, ⟨by refine sB_ ?_; refine blk_far ?_ NB243_245.out _; refine sB_ ?_; exact BK243.out⟩, ⟨by refine sB_ ?_; refine blk_far ?_ NB244_245.out _; refine sB_ ?_; exact BK244.out⟩, ⟨by refine sB_ ?_; refine blk_put (cs := #[.int .i64 (wrap64 (2 * a0_0)), .int .i64 (wrap64 (2 * a0_1)), u246002]) ?_ 2 _ rfl; refine sB_ ?_; exact BK245.out⟩, ⟨by repeat (first | (with_reducible first | exact HB.out | apply below_alloc | apply pw_below_drewN | apply below_drew1 | refine below_set ?_ GE243.out | refine below_set ?_ GE244.out | refine below_set ?_ GE245.out) | exact HB.out)⟩⟩
         rw [if_neg c62] at H
         exact absurd H (by simp)
        rw [if_neg c49] at H
        have c49b0 : decide (a0_0 ≤ (Int.tmod x4_1 (wrap64 (2 * a0_0)))) = false := decide_eq_false c49
        clear c49
        replace H := Option.bind_eq_some_iff.mp H
        obtain ⟨t262, A710, H⟩ := H
        replace H : (if x246002_1.length < 17592186044416 then (spec_l2Double.l0 kj32 (wrap64 (x4_1 + 1)) a0_0 a0_1 l0_2 (wrap64 (2 * a0_0)) (wrap64 (2 * a0_1)) (x246002_1 ++ [wrap64 (wrap64 (4 * t262))])) else (none)) = some (r1, r2, r3) := by simpa only [Int.add_zero] using H
        have A71 := Aside0.mk A710
        clear A710
        by_cases c72 : x246002_1.length < 17592186044416
        ·rw [if_pos c72] at H
         have LMc72 := Aside0.mk c72
         clear c72
         obtain ⟨y263, hy263⟩ : ∃ y_ : List Int, y_ = (x246002_1 ++ [wrap64 (wrap64 (4 * t262))]) := ⟨_, rfl⟩
         replace H : (spec_l2Double.l0 kj32 (wrap64 (x4_1 + 1)) a0_0 a0_1 l0_2 (wrap64 (2 * a0_0)) (wrap64 (2 * a0_1)) y263) = some (r1, r2, r3) := by first | (rw [hy263]; with_reducible exact H) | (have H2_ := (Option.bind_some _ _).symm.trans H; rw [hy263]; with_reducible exact H2_) | (have H2_ := (Option.bind_some _ _).symm.trans H; with_reducible exact H2_) | with_reducible exact H | (rw [hy263]; exact H) | exact H
         have Ny263 := Aside0.mk hy263
         clear hy263
         have H' := Aside0.mk H
         clear H; have hnb73 := NB243_244.out; have hnc73 := NB244_243.out; have hnb74 := NB243_245.out; have hnc74 := NB245_243.out
         obtain ⟨hcz75_0, hcz75_1, hcz75_2, hfz75_0, hfz75_1, hfz75_2⟩ := sZ_ BK243.out
         try go_wp2
         have n0_ := Aside0.mk (Kd.R_drew HO_246002.out)
         have n1_ := Aside0.mk (blk_drew BK243.out)
         have n2_ := Aside0.mk (blk_drew BK244.out)
         have n3_ := Aside0.mk (blk_drew BK245.out)
         have n4_ := Aside0.mk (below_drew1 HB.out)
         clear HO_246002 BK243 BK244 BK245 HB; have HO_246002 := n0_; have BK243 := n1_; have BK244 := n2_; have BK245 := n3_; have HB := n4_; clear n0_ n1_ n2_ n3_ n4_
         refine start_ (n := 13) (S := fun w' => w'.cell? ⟨gb245, 0, none⟩ = some (.int .i64 (wrap64 (2 * a0_0))) ∧ w'.cell? ⟨gb245, 1, none⟩ = some (.int .i64 (wrap64 (2 * a0_1))) ∧ w'.cell? ⟨gb245, 2, none⟩ = some (u246002) ∧ w'.cell? ⟨gb243, 0, none⟩ = some (.int .i64 a0_0) ∧ w'.cell? ⟨gb243, 1, none⟩ = some (.int .i64 a0_1) ∧ w'.cell? ⟨gb243, 2, none⟩ = some (.slice A0_2 l0_2.length c0_2)) (ds := [12]) #[false, false, false, false, false, false, false, false, false, false, false, false, false] (by kernel_rfl) rfl rfl ⟨(blk_cell BK245.out 0).trans rfl, (blk_cell BK245.out 1).trans rfl, (blk_cell BK245.out 2).trans rfl, (blk_cell BK243.out 0).trans rfl, (blk_cell BK243.out 1).trans rfl, (blk_cell BK243.out 2).trans rfl⟩ (fun hHeld => ?_); refine with_tabW spec_l2Double.tab14 spec_l2Double.bits14 (fun HT_ HW_ => ?_)
         generalize wc.drew = w76 at HO_246002 BK243 BK244 BK245 HB hHeld ⊢
         refine pure_ (i := 0) (N := some 64) (v := ?_) (a' := ?_) #[true, false, false, false, false, false, false, false, false, false, false, false, false] rfl rfl (any_of HT_.out (by kernel_rfl)) (fun _ _ _ h => h) (Or.inl ⟨by rfl, ?_⟩) ?_ ?_
         rotate_left
         ·intro w'
          go_simp
          with_reducible rfl
         rotate_left
         ·simp only [Act.put, List.setIfInBounds_toArray, List.set_cons_zero, List.set_cons_succ, i64_w, i32_w]
          rfl
         refine pure_ (i := 3) (N := some 67) (v := ?_) (a' := ?_) #[true, false, false, true, false, false, false, false, false, false, false, false, false] rfl rfl (any_of HT_.out (by kernel_rfl)) (fun _ _ _ h => h) (Or.inl ⟨by rfl, ?_⟩) ?_ ?_
         rotate_left
         ·intro w'
          go_simp
          with_reducible rfl
         rotate_left
         ·simp only [Act.put, List.setIfInBounds_toArray, List.set_cons_zero, List.set_cons_succ, i64_w, i32_w]
          rfl
         refine pure_ (i := 4) (N := some 68) (v := ?_) (a' := ?_) #[true, false, false, true, true, false, false, false, false, false, false, false, false] rfl rfl (any_of HT_.out (by kernel_rfl)) (fun _ _ _ h => h) (Or.inl ⟨by rfl, ?_⟩) ?_ ?_
         rotate_left
         ·intro w'
          go_simp
          with_reducible rfl
         rotate_left
         ·simp only [Act.put, List.setIfInBounds_toArray, List.set_cons_zero, List.set_cons_succ, i64_w, i32_w]
          rfl
         refine pure_ (i := 7) (N := some 71) (v := ?_) (a' := ?_) #[true, false, false, true, true, false, false, true, false, false, false, false, false] rfl rfl (any_of HT_.out (by kernel_rfl)) (fun _ _ _ h => h) (Or.inl ⟨by rfl, ?_⟩) ?_ ?_
         rotate_left
         ·intro w'
          go_simp
          with_reducible rfl
         rotate_left
         ·simp only [Act.put, List.setIfInBounds_toArray, List.set_cons_zero, List.set_cons_succ, i64_w, i32_w]
          rfl
         refine take_ (i := 1) (N := some 65) (v := ?_) (a' := ?_) #[true, true, false, true, true, false, false, true, false, false, false, false, false] rfl rfl (take_ofW HT_.out HW_.out (by kernel_rfl)) (fun _ _ _ h => h) (Or.inl ⟨by rfl, ?_⟩) hHeld ?_ ?_
         rotate_left
         ·rintro w' ⟨s0, s1, s2, s3, s4, s5⟩
          go_simp
          with_reducible rfl
         rotate_left
         ·simp only [Act.put, List.setIfInBounds_toArray, List.set_cons_zero, List.set_cons_succ, i64_w, i32_w]
          rfl
         refine take_ (i := 2) (N := some 66) (v := ?_) (a' := ?_) #[true, true, true, true, true, false, false, true, false, false, false, false, false] rfl rfl (take_ofW HT_.out HW_.out (by kernel_rfl)) (fun _ _ _ h => h) (Or.inl ⟨by rfl, ?_⟩) hHeld ?_ ?_
         rotate_left
         ·rintro w' ⟨s0, s1, s2, s3, s4, s5⟩
          go_simp
          with_reducible rfl
         rotate_left
         ·simp only [Act.put, List.setIfInBounds_toArray, List.set_cons_zero, List.set_cons_succ, i64_w, i32_w]
          rfl
         refine one_ (i := 5) (N := some 69) #[true, true, true, true, true, true, false, true, false, false, false, false, false] rfl rfl (one_of HT_.out (by kernel_rfl)) (by decide) (fun K hK => ?_)
         refine goes_ Try.func93 (by kernel_rfl) rfl #[.agg #[.int .i64 a0_0, .int .i64 a0_1, .slice A0_2 l0_2.length c0_2], .int .i64 (Int.tmod x4_1 (wrap64 (2 * a0_0))), .int .i64 (wrap64 (Int.tdiv x4_1 (wrap64 (2 * a0_0))))] (by rfl) rfl rfl sL_ ?_
         with_reducible refine (spec_l2Rank.calls a0_0 a0_1 _ _ l0_2 (Int.tmod x4_1 (wrap64 (2 * a0_0))) (wrap64 (Int.tdiv x4_1 (wrap64 (2 * a0_0)))) t262 _ ?side1 ?side2 A71.out).mono ?_
         (case side1 => repeat (first | exact (Kd.C_below HR0_2.out HB.out) | (with_reducible refine Kd.C_alloc ?_ _) | (with_reducible refine Kd.C_drewN ?_ _) | (with_reducible refine Kd.C_drew ?_)))
         (case side2 => exact HC0_2.out)
         rintro e w77 ⟨rfl, hb⟩
         refine ⟨_, rfl, ?_⟩
         have n0_ := Aside0.mk (Kd.R_below (sR_ HO_246002.out) hb)
         have n1_ := Aside0.mk (blk_below (sB_ BK243.out) hb)
         have n2_ := Aside0.mk (blk_below (sB_ BK244.out) hb)
         have n3_ := Aside0.mk (blk_below (sB_ BK245.out) hb)
         have n4_ := Aside0.mk (below_step (sW_ HB.out) hb)
         clear HO_246002 BK243 BK244 BK245 HB; have HO_246002 := n0_; have BK243 := n1_; have BK244 := n2_; have BK245 := n3_; have HB := n4_; clear n0_ n1_ n2_ n3_ n4_
         (try clear hb)
         (try clear hb2)
         (try clear hk)
         (try clear hi)
         refine hK.out _ _ ⟨(blk_cell BK245.out 0).trans rfl, (blk_cell BK245.out 1).trans rfl, (blk_cell BK245.out 2).trans rfl, (blk_cell BK243.out 0).trans rfl, (blk_cell BK243.out 1).trans rfl, (blk_cell BK243.out 2).trans rfl⟩ (fun hHeld => ?_)
         clear hK K
         refine norm_ (a' := ?_) ?_ ?_
         rotate_left
         ·show Act.put _ (some 69) _ = _
          simp only [Act.put, List.setIfInBounds_toArray, List.set_cons_zero, List.set_cons_succ, i64_w, i32_w]
          rfl
         refine pure_ (i := 6) (N := some 70) (v := ?_) (a' := ?_) #[true, true, true, true, true, true, true, true, false, false, false, false, false] rfl rfl (any_of HT_.out (by kernel_rfl)) (fun _ _ _ h => h) (Or.inl ⟨by rfl, ?_⟩) ?_ ?_
         rotate_left
         ·intro w'
          go_simp
          with_reducible rfl
         rotate_left
         ·simp only [Act.put, List.setIfInBounds_toArray, List.set_cons_zero, List.set_cons_succ, i64_w, i32_w]
          rfl
         refine pure_ (i := 8) (N := some 72) (v := ?_) (a' := ?_) #[true, true, true, true, true, true, true, true, true, false, false, false, false] rfl rfl (any_of HT_.out (by kernel_rfl)) (fun _ _ _ h => h) (Or.inl ⟨by rfl, ?_⟩) ?_ ?_
         rotate_left
         ·intro w'
          go_simp
          with_reducible rfl
         rotate_left
         ·simp only [Act.put, List.setIfInBounds_toArray, List.set_cons_zero, List.set_cons_succ, i64_w, i32_w]
          rfl
         refine one_ (i := 9) (N := some 73) #[true, true, true, true, true, true, true, true, true, true, false, false, false] rfl rfl (one_of HT_.out (by kernel_rfl)) (by decide) (fun K hK => ?_)
         refine value_ (w1 := ?_) (v := ?_) (by rfl) rfl ?_ ?_
         rotate_left 2
         ·go_simp
          constructor
          ·rfl
          rfl
         refine hK.out _ _ ⟨(blk_cell (blk_alloc BK245.out _) 0).trans rfl, (blk_cell (blk_alloc BK245.out _) 1).trans rfl, (blk_cell (blk_alloc BK245.out _) 2).trans rfl, (blk_cell (blk_alloc BK243.out _) 0).trans rfl, (blk_cell (blk_alloc BK243.out _) 1).trans rfl, (blk_cell (blk_alloc BK243.out _) 2).trans rfl⟩ (fun hHeld => ?_)
         clear hK K
         refine norm_ (a' := ?_) ?_ ?_
         rotate_left
         ·show Act.put _ (some 73) _ = _
          simp only [Act.put, List.setIfInBounds_toArray, List.set_cons_zero, List.set_cons_succ, i64_w, i32_w]
          rfl
         refine one_ (i := 10) (N := some 74) #[true, true, true, true, true, true, true, true, true, true, true, false, false] rfl rfl (one_of HT_.out (by kernel_rfl)) (by decide) (fun K hK => ?_)
         refine Kd.R_append_step (Kd.int .i64) (w0 := w) w.heap.size (by rfl) (.tmp 65) (.tmp 73) 24 3 (.int .i64 0) 8 rfl Try.underlying24 info3 rfl (by decide) (by omega) u246002 x246002_1 (wrap64 (wrap64 (4 * t262))) [.int .i64 (wrap64 (wrap64 (4 * t262)))] (fun _ => True) (fun _ => False) rfl rfl ?aP (fun _ hk => hk.elim) ?aF ?aO ?aB ?aS ?aL ?_
         (case aP => exact rfl)
         (case aB => exact (sW_ HB.out))
         (case aF => exact (fun _ _ => trivial))
         (case aO => exact (sR_ HO_246002.out))
         (case aS => exact (below_size (sW_ HB.out)))
         (case aL => have := LMc72.out; omega)
         intro v264 w78 ho hb hg hat
         rw [← Ny263.out] at ho
         have n0_ := Aside0.mk (blk_grown (sB_ BK243.out) hg (Kd.R_ne HO_246002.out BK243.out (by decide)))
         have n1_ := Aside0.mk (blk_grown (sB_ BK244.out) hg (Kd.R_ne HO_246002.out BK244.out (by decide)))
         have n2_ := Aside0.mk (blk_grown (sB_ BK245.out) hg (Kd.R_ne HO_246002.out BK245.out (by decide)))
         have n3_ := Aside0.mk (hb)
         have n4_ := Aside0.mk (ho)
         clear BK243 BK244 BK245 HB HO_246002; have BK243 := n0_; have BK244 := n1_; have BK245 := n2_; have HB := n3_; have HO265 := n4_; clear n0_ n1_ n2_ n3_ n4_ ho hb hg hat
         obtain ⟨Ao79, co79, eo79⟩ := Kd.R_slice HO265.out
         (first | subst eo79 | (injection eo79 with f1_ f2_ f3_; have f4_ := f1_.symm; have f5_ := f3_.symm; clear f1_ f2_ f3_; subst f4_; subst f5_))
         refine hK.out _ _ ⟨(blk_cell BK245.out 0).trans rfl, (blk_cell BK245.out 1).trans rfl, (blk_cell BK245.out 2).trans rfl, (blk_cell BK243.out 0).trans rfl, (blk_cell BK243.out 1).trans rfl, (blk_cell BK243.out 2).trans rfl⟩ (fun hHeld => ?_)
         clear hK K
         refine norm_ (a' := ?_) ?_ ?_
         rotate_left
         ·show Act.put _ (some 74) _ = _
          simp only [Act.put, List.setIfInBounds_toArray, List.set_cons_zero, List.set_cons_succ, i64_w, i32_w]
          rfl
         refine pure_ (i := 11) (N := some 75) (v := ?_) (a' := ?_) #[true, true, true, true, true, true, true, true, true, true, true, true, false] rfl rfl (any_of HT_.out (by kernel_rfl)) (fun _ _ _ h => h) (Or.inl ⟨by rfl, ?_⟩) ?_ ?_
         rotate_left
         ·intro w'
          go_simp
          with_reducible rfl
         rotate_left
         ·simp only [Act.put, List.setIfInBounds_toArray, List.set_cons_zero, List.set_cons_succ, i64_w, i32_w]
          rfl
         refine last_ (i := 12) (N := none) #[true, true, true, true, true, true, true, true, true, true, true, true, true] rfl rfl (one_of HT_.out (by kernel_rfl)) (by decide) (fun K hK => ?_)
         have hs80 : w78.cell? ⟨gb245, 2, none⟩ = some (u246002) := (blk_cell BK245.out 2).trans rfl
         have hfs80 := blk_frozen BK245.out 2
         have hns80_0 := NB243_245.out; have hns80_1 := NB244_245.out; have hms80_0 := NB245_243.out; have hms80_1 := NB245_244.out
         refine skip_ (w1 := ?_) (by rfl) rfl ?_ ?_
         rotate_left
         ·go_simp
          rfl
         refine hK.out _ _ ?_
         clear hK K
         refine done_ (done_of HT_.out (by kernel_rfl)) ?_
         try go_wp2
         go_roundg kj32
         case measure => have := HK1.out; have := HJ11.out; have := HJ32.out; omega
         case rel => exact ⟨(wrap64 (x4_1 + 1)), (y263), (.slice Ao79 y263.length co79), (by first | rfl | (simp; done) | (simp [*]; done)), H', ⟨by have := HK1.out; have := HJ11.out; have := HJ32.out; omega⟩, ⟨by (with_reducible repeat (first | apply Kd.R_alloc | apply Kd.R_drewN | apply Kd.R_drew)); exact Kd.R_mono (Kd.R_far (p := ⟨gb245, 2, none⟩) (Kd.R_types HO265.out BK245.out (by decide)) (fun _ hk => hk.2) (.slice Ao79 y263.length co79)) (fun _ hk => trivial)⟩, ⟨by refine sB_ ?_; refine blk_far ?_ NB243_245.out _; refine sB_ ?_; exact BK243.out⟩, ⟨by refine sB_ ?_; refine blk_far ?_ NB244_245.out _; refine sB_ ?_; exact BK244.out⟩, ⟨by refine sB_ ?_; refine blk_put (cs := #[.int .i64 (wrap64 (2 * a0_0)), .int .i64 (wrap64 (2 * a0_1)), u246002]) ?_ 2 _ rfl; refine sB_ ?_; exact BK245.out⟩, ⟨by repeat (first | (with_reducible first | exact HB.out | apply below_alloc | apply pw_below_drewN | apply below_drew1 | refine below_set ?_ GE243.out | refine below_set ?_ GE244.out | refine below_set ?_ GE245.out) | exact HB.out)⟩⟩
        rw [if_neg c72] at H
        exact absurd H (by simp)
   rw [if_neg c10] at H
   have c10b0 : decide (x4_1 < (wrap64 (4 * (l0_2.length : Int)))) = false := decide_eq_false c10
   clear c10
   simp only [Option.some.injEq, Prod.mk.injEq] at H
   obtain ⟨rfl, rfl, rfl⟩ := H
   have hnb81 := NB243_244.out; have hnc81 := NB244_243.out; have hnb82 := NB243_245.out; have hnc82 := NB245_243.out
   obtain ⟨hcz83_0, hcz83_1, hcz83_2, hfz83_0, hfz83_1, hfz83_2⟩ := sZ_ BK243.out
   have hnb84 := NB245_244.out; have hnc84 := NB244_245.out
   have hcz85_0 : wr.cell? ⟨gb245, 0, none⟩ = some (.int .i64 (wrap64 (2 * a0_0))) := (blk_cell BK245.out 0).trans rfl
   have hcz85_1 : wr.cell? ⟨gb245, 1, none⟩ = some (.int .i64 (wrap64 (2 * a0_1))) := (blk_cell BK245.out 1).trans rfl
   have hcz85_2 : wr.cell? ⟨gb245, 2, none⟩ = some (u246002) := (blk_cell BK245.out 2).trans rfl
   have hfz85_0 := blk_frozen BK245.out 0
   have hfz85_1 := blk_frozen BK245.out 1
   have hfz85_2 := blk_frozen BK245.out 2
   obtain ⟨hcz86_0, hcz86_1, hcz86_2, hfz86_0, hfz86_1, hfz86_2⟩ := sZ_ BK244.out
   obtain ⟨Ao87, co87, eo87⟩ := Kd.R_slice HO_246002.out
   subst eo87
   go_wp2
   refine bodyPost_ret (results_cell_row rfl _ _ gb244 26 #[.int .i64 (wrap64 (2 * a0_0)), .int .i64 (wrap64 (2 * a0_1)), .slice Ao87 x246002_1.length co87] (0, 0) _ rfl (by refine sB_ ?_; refine blk_put (cs := #[.int .i64 (wrap64 (2 * a0_0)), .int .i64 (wrap64 (2 * a0_1)), .slice none 0 0]) ?_ 2 _ rfl; refine sB_ ?_; refine blk_put (cs := #[.int .i64 (wrap64 (2 * a0_0)), .int .i64 0, .slice none 0 0]) ?_ 1 _ rfl; refine sB_ ?_; refine blk_put (cs := #[.int .i64 0, .int .i64 0, .slice none 0 0]) ?_ 0 _ rfl; refine sB_ ?_; exact BK244.out) Try.underlying26 rfl (by kernel_rfl)) rfl ?_
   exact ⟨_, by first | rfl | (simp [errW_none, errW_some] <;> rfl) | (simp [*, errW_none, errW_some] <;> rfl), by (with_reducible repeat (first | apply Kd.R_alloc | apply Kd.R_drewN | apply Kd.R_drew)); exact Kd.R_mono (Kd.R_far (p := ⟨gb244, 2, none⟩) (Kd.R_far (p := ⟨gb244, 1, none⟩) (Kd.R_far (p := ⟨gb244, 0, none⟩) (Kd.R_types HO_246002.out BK244.out (by decide)) (fun _ hk => hk.2) (.int .i64 (wrap64 (2 * a0_0)))) (fun _ hk => hk.2) (.int .i64 (wrap64 (2 * a0_1)))) (fun _ hk => hk.2) (.slice Ao87 x246002_1.length co87)) (fun _ hk => trivial), by repeat (first | (with_reducible first | exact HB.out | apply below_alloc | apply pw_below_drewN | apply below_drew1 | refine below_set ?_ GE243.out | refine below_set ?_ GE244.out | refine below_set ?_ GE245.out) | exact HB.out)⟩

end Go.Proofs.Ytdlehfnlibddcaa.P
