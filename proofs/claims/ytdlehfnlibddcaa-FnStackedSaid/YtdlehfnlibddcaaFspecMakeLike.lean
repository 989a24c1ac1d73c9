-- Written by tools/seatprint.py (over the kit's print, changed in memory). Not trusted: Lean checks it.
import Derived.Test.YtdlehfnlibddcaaP0
import Derived.Test.YtdlehfnlibddcaaFspecl01Byte
import Derived.Test.YtdlehfnlibddcaaFspecl01Below
import Derived.Test.YtdlehfnlibddcaaFspecl01New
import Derived.Test.YtdlehfnlibddcaaFspecl1Empty
namespace Go.Proofs.Ytdlehfnlibddcaa.P
open Go.RowKit Go.Proofs.YtdlehfnlibddcaaW.PrintWords Go.Proofs.YtdlehfnlibddcaaW.PrintLast Go.Proofs.YtdlehfnlibddcaaW.PrintMore
attribute [local go_sem] max2_int min2_int max_two min_two max_three min_three max_four min_four   -- for this text's walks alone
set_option linter.unusedVariables false
set_option linter.unusedSimpArgs false

/-! ### spec_MakeLike: function 80 -/
def spec_MakeLike.l0 : Nat → Int → Int → List Int → Int → Int → Int → Int → List Int → Option (Int × Int × List Int)
  | 0, _, _, _, _, _, _, _, _ => none
  | k + 1, x17, x18, x1393000, x1393001, x1393002, x1399000, x1399001, x1399002 => if x18 < x17 then ((spec_l01Below.f x1393000 x1393001 x1393002 2).bind fun bt1399 => (if 0 ≤ x18 then (if x18 < (x1399002.length : Int) then (spec_MakeLike.l0 k x17 (wrap64 (x18 + 1)) x1393000 bt1399.2.1 bt1399.2.2 x1399000 x1399001 (x1399002.set (x18 : Int).toNat bt1399.1)) else (none)) else (none))) else (some (x1399000, x1399001, x1399002))
def spec_MakeLike.f (k : Nat) (l0 : List Int) (a1_0 : Int) (a1_1 : Int) (l1_2 : List Int) : Option (Int × Int × List Int) := (spec_l01New.f k l0).bind fun bt1389 => ((spec_l1Empty.f a1_0 a1_1).bind fun bt1393 => (spec_MakeLike.l0 k (bt1393.2.2.length : Int) 0 bt1389.1 bt1389.2.1 bt1389.2.2 bt1393.1 bt1393.2.1 bt1393.2.2))
theorem spec_MakeLike.mono_l : ∀ k, (∀ y0 y1 y2 y3 y4 y5 y6 y7, LeO (spec_MakeLike.l0 k y0 y1 y2 y3 y4 y5 y6 y7) (spec_MakeLike.l0 (k + 1) y0 y1 y2 y3 y4 y5 y6 y7))
  | 0 => fun _ _ _ _ _ _ _ _ r h => by simp [spec_MakeLike.l0] at h
  | k + 1 => by
    have ih0 := spec_MakeLike.mono_l k
    · intro y0 y1 y2 y3 y4 y5 y6 y7
      unfold spec_MakeLike.l0
      repeat' first
      | (with_reducible exact ih0 _ _ _ _ _ _ _ _)
      | (with_reducible exact spec_l01New.mono _ _)
      | (with_reducible exact LeO.refl _)
      | (with_reducible exact LeO.none _)
      | (with_reducible refine LeO.ite ?_ ?_)
      | (with_reducible refine LeO.bind ?_ (fun _ => ?_))
      | exact ih0 _ _ _ _ _ _ _ _
      | exact spec_l01New.mono _ _
      | exact LeO.none _
      | refine LeO.ite ?_ ?_
      | refine LeO.bind ?_ (fun _ => ?_)
theorem spec_MakeLike.mono : ∀ a0 a1 a2 a3 k, LeO (spec_MakeLike.f k a0 a1 a2 a3) (spec_MakeLike.f (k + 1) a0 a1 a2 a3) := by
  intro a0 a1 a2 a3 k
  have ih0 := spec_MakeLike.mono_l k
  unfold spec_MakeLike.f
  repeat' first
      | (with_reducible exact ih0 _ _ _ _ _ _ _ _)
      | (with_reducible exact spec_l01New.mono _ _)
      | (with_reducible exact LeO.refl _)
      | (with_reducible exact LeO.none _)
      | (with_reducible refine LeO.ite ?_ ?_)
      | (with_reducible refine LeO.bind ?_ (fun _ => ?_))
      | exact ih0 _ _ _ _ _ _ _ _
      | exact spec_l01New.mono _ _
      | exact LeO.none _
      | refine LeO.ite ?_ ?_
      | refine LeO.bind ?_ (fun _ => ?_)
set_option maxHeartbeats 8000000 in
set_option maxRecDepth 100000 in
theorem spec_MakeLike.calls (k : Nat) (A0 : Option Addr) (c0 : Nat) (l0 : List Int) (a1_0 : Int) (a1_1 : Int) (A1_2 : Option Addr) (c1_2 : Nat) (l1_2 : List Int) (r1 : Int) (r2 : Int) (r3 : List Int) (w : World) (hr0 : Kd.C (Kd.int .u8) w A0 l0.length l0) (hc0 : l0.length ≤ c0) (hr1_2 : Kd.C (Kd.int .i64) w A1_2 l1_2.length l1_2) (hc1_2 : l1_2.length ≤ c1_2) (h : spec_MakeLike.f k l0 a1_0 a1_1 l1_2 = some (r1, r2, r3)) :
  Calls Try.prog 80 #[.slice A0 l0.length c0, .agg #[.int .i64 a1_0, .int .i64 a1_1, .slice A1_2 l1_2.length c1_2]] w fun e w' => ∃ v2_ : Value, e = .returned (.agg #[.int .i64 r1, .int .i64 r2, v2_]) ∧ Kd.R (Kd.int .i64) 3 w' w.heap.size (fun _ => True) v2_ r3 ∧ Below w.heap.size w w' := by
 have hu41 := Try.underlying41
 have HR0 := Aside0.mk hr0
 have HC0 := Aside0.mk hc0
 clear hr0 hc0
 have HR1_2 := Aside0.mk hr1_2
 have HC1_2 := Aside0.mk hc1_2
 clear hr1_2 hc1_2
 have HB := Aside0.mk (Below.refl w.heap.size w)
 have H : ((spec_l01New.f k l0).bind fun bt1389 => ((spec_l1Empty.f a1_0 a1_1).bind fun bt1393 => (spec_MakeLike.l0 k (bt1393.2.2.length : Int) 0 bt1389.1 bt1389.2.1 bt1389.2.2 bt1393.1 bt1393.2.1 bt1393.2.2))) = some (r1, r2, r3) := h
 clear h
 replace H := Option.bind_eq_some_iff.mp H
 obtain ⟨⟨t1389, t1390, t1391⟩, A30, H⟩ := H
 replace H : ((spec_l1Empty.f a1_0 a1_1).bind fun bt1393 => (spec_MakeLike.l0 k (bt1393.2.2.length : Int) 0 t1389 t1390 t1391 bt1393.1 bt1393.2.1 bt1393.2.2)) = some (r1, r2, r3) := H
 have A3 := Aside0.mk A30
 clear A30
 replace H := Option.bind_eq_some_iff.mp H
 obtain ⟨⟨t1393, t1394, t1395⟩, A40, H⟩ := H
 replace H : (spec_MakeLike.l0 k (t1395.length : Int) 0 t1389 t1390 t1391 t1393 t1394 t1395) = some (r1, r2, r3) := H
 have A4 := Aside0.mk A40
 clear A40
 have H' := Aside0.mk H
 clear H
 go_enter Try.func80, Try.ntmps80
 go_wp2_with (first | ((with_reducible refine gate_dst (N := 3) rfl ?_); refine box_event ?hg (N := 3) ?hd (cs := #[.int .i64 a1_0, .int .i64 a1_1, .slice A1_2 l1_2.length c1_2]) (t := 41) ?hr ?_; (case hd => rfl); (case hg => rfl); (case hr => first | (go_simp; done) | (go_simp; rfl)); intro gb1387 hg w5 hbox hb; have n0_ := Aside0.mk (below_step (sW_ HB.out) hb); have n1_ := Aside0.mk (hbox); have n2_ := Aside0.mk ((by rw [hg]; exact (below_size (sW_ HB.out)) : w.heap.size ≤ gb1387)); have n3_ := n2_; clear HB; have HB := n0_; have BK1387 := n1_; have GW1387 := n2_; have GE1387 := n3_; clear n0_ n1_ n2_ n3_; clear hb hbox hg) | ((with_reducible refine gate_dst (N := 4) rfl ?_); refine box_event ?hg (N := 4) ?hd (cs := #[.int .i64 0, .int .i64 0, .slice none 0 0]) (t := 41) ?hr ?_; (case hd => rfl); (case hg => rfl); (case hr => first | (go_simp; done) | (go_simp; rfl)); intro gb1388 hg w6 hbox hb; have n0_ := Aside0.mk (blk_below (sB_ BK1387.out) hb); have n1_ := Aside0.mk (below_step (sW_ HB.out) hb); have n2_ := Aside0.mk (hbox); have n3_ := Aside0.mk ((by rw [hg]; exact (below_size (sW_ HB.out)) : w.heap.size ≤ gb1388)); have n4_ := n3_; have n5_ := Aside0.mk (sN_ hg (blk_lt (sB_ BK1387.out))); have n6_ := Aside0.mk n5_.out.symm; clear BK1387 HB; have BK1387 := n0_; have HB := n1_; have BK1388 := n2_; have GW1388 := n3_; have GE1388 := n4_; have NB1387_1388 := n5_; have NB1388_1387 := n6_; clear n0_ n1_ n2_ n3_ n4_ n5_ n6_; clear hb hbox hg) | ((with_reducible refine gate_callee (f := 92) rfl ?_); refine goesL_ (some 9) rfl rfl Try.func92 (by kernel_rfl) rfl #[.slice A0 l0.length c0] rfl sL_ ?_; (with_reducible refine (spec_l01New.calls k _ _ l0 t1389 t1390 t1391 w _ ?side1 ?side2 ?side3 A3.out).mono ?_); (case side1 => repeat (first | (with_reducible first | exact HB.out | apply below_alloc | apply pw_below_drewN | apply below_drew1 | refine below_set ?_ GE1387.out | refine below_set ?_ GE1388.out) | exact HB.out)); (case side2 => exact HR0.out); (case side3 => exact HC0.out); rintro e w7 ⟨g1392, rfl, hi, hb, hb2⟩; refine ⟨_, rfl, ?_⟩; have n0_ := Aside0.mk (blk_below (sB_ BK1387.out) hb2); have n1_ := Aside0.mk (blk_below (sB_ BK1388.out) hb2); have n2_ := Aside0.mk (hb); have n3_ := Aside0.mk (hi); have n4_ := Aside0.mk (IsS98.ne_blk hi (blk_below (sB_ BK1387.out) hb2) (by decide)); have n5_ := Aside0.mk (Ne.symm (IsS98.ne_blk hi (blk_below (sB_ BK1387.out) hb2) (by decide))); have n6_ := Aside0.mk (IsS98.ne_blk hi (blk_below (sB_ BK1388.out) hb2) (by decide)); have n7_ := Aside0.mk (Ne.symm (IsS98.ne_blk hi (blk_below (sB_ BK1388.out) hb2) (by decide))); clear BK1387 BK1388 HB; have BK1387 := n0_; have BK1388 := n1_; have HB := n2_; have HI1392 := n3_; have NB1392_1387 := n4_; have NB1387_1392 := n5_; have NB1392_1388 := n6_; have NB1388_1392 := n7_; clear n0_ n1_ n2_ n3_ n4_ n5_ n6_ n7_; (try clear hb); (try clear hb2); (try clear hk); (try clear hi); have hnb8 := NB1387_1388.out; have hnc8 := NB1388_1387.out; have hnb9 := NB1387_1392.out; have hnc9 := NB1392_1387.out; obtain ⟨hcz10_0, hcz10_1, hcz10_2, hfz10_0, hfz10_1, hfz10_2⟩ := sZ_ BK1387.out) | ((with_reducible refine gate_callee (f := 104) rfl ?_); refine goesL_ (some 14) rfl rfl Try.func104 (by kernel_rfl) rfl #[.int .i64 a1_0, .int .i64 a1_1] rfl sL_ ?_; (with_reducible refine (spec_l1Empty.calls a1_0 a1_1 t1393 t1394 t1395 _ A4.out).mono ?_); rintro e w11 ⟨v1396, rfl, ho0, hb⟩; refine ⟨_, rfl, ?_⟩; have n0_ := Aside0.mk (Kd.R_lower ho0 (below_size (by repeat (first | (with_reducible first | exact HB.out | apply below_alloc | apply pw_below_drewN | apply below_drew1 | refine below_set ?_ (IsS98.ge HI1392.out) | refine below_set ?_ GE1387.out | refine below_set ?_ GE1388.out) | exact HB.out)))); have n1_ := Aside0.mk (blk_below (sB_ BK1387.out) hb); have n2_ := Aside0.mk (blk_below (sB_ BK1388.out) hb); have n3_ := Aside0.mk (IsS98.below (by repeat (first | (with_reducible first | exact HI1392.out | apply IsS98.alloc | apply IsS98.drewN | apply IsS98.drew | apply IsS98.set_1 | apply IsS98.set_2 | refine IsS98.far ?_ NB1392_1387.out _ | refine IsS98.far ?_ NB1392_1388.out _) | exact HI1392.out)) hb); have n4_ := Aside0.mk (below_step (by repeat (first | (with_reducible first | exact HB.out | apply below_alloc | apply pw_below_drewN | apply below_drew1 | refine below_set ?_ (IsS98.ge HI1392.out) | refine below_set ?_ GE1387.out | refine below_set ?_ GE1388.out) | exact HB.out)) hb); clear BK1387 BK1388 HI1392 HB; have HO1397 := n0_; have BK1387 := n1_; have BK1388 := n2_; have HI1392 := n3_; have HB := n4_; clear n0_ n1_ n2_ n3_ n4_; (try clear hb); (try clear hb2); (try clear hk); (try clear hi); (try clear ho0)) | ((with_reducible refine gate_dst (N := 6) rfl ?_); refine box_event ?hg (N := 6) ?hd (cs := #[.int .i64 0, .int .i64 0, .slice none 0 0]) (t := 41) ?hr ?_; (case hd => rfl); (case hg => rfl); (case hr => first | (go_simp; done) | (go_simp; rfl)); intro gb1398 hg w12 hbox hb; have n0_ := Aside0.mk (Kd.R_below (sR_ HO1397.out) hb); have n1_ := Aside0.mk (blk_below (sB_ BK1387.out) hb); have n2_ := Aside0.mk (blk_below (sB_ BK1388.out) hb); have n3_ := Aside0.mk (IsS98.below (by repeat (first | (with_reducible first | exact HI1392.out | apply IsS98.alloc | apply IsS98.drewN | apply IsS98.drew | apply IsS98.set_1 | apply IsS98.set_2 | refine IsS98.far ?_ NB1392_1387.out _ | refine IsS98.far ?_ NB1392_1388.out _) | exact HI1392.out)) hb); have n4_ := Aside0.mk (below_step (by repeat (first | (with_reducible first | exact HB.out | apply below_alloc | apply pw_below_drewN | apply below_drew1 | refine below_set ?_ (IsS98.ge HI1392.out) | refine below_set ?_ GE1387.out | refine below_set ?_ GE1388.out) | exact HB.out)) hb); have n5_ := Aside0.mk (hbox); have n6_ := Aside0.mk ((by rw [hg]; exact (below_size (by repeat (first | (with_reducible first | exact HB.out | apply below_alloc | apply pw_below_drewN | apply below_drew1 | refine below_set ?_ (IsS98.ge HI1392.out) | refine below_set ?_ GE1387.out | refine below_set ?_ GE1388.out) | exact HB.out))) : w.heap.size ≤ gb1398)); have n7_ := Aside0.mk ((by rw [hg]; exact (below_size (by repeat (first | (with_reducible first | exact HB.out | apply below_alloc | apply pw_below_drewN | apply below_drew1 | refine below_set ?_ (IsS98.ge HI1392.out) | refine below_set ?_ GE1387.out | refine below_set ?_ GE1388.out) | exact HB.out))) : w.heap.size ≤ gb1398)); have n8_ := Aside0.mk (sN_ hg (blk_lt (sB_ BK1387.out))); have n9_ := Aside0.mk n8_.out.symm; have n10_ := Aside0.mk (sN_ hg (blk_lt (sB_ BK1388.out))); have n11_ := Aside0.mk n10_.out.symm; have n12_ := Aside0.mk ((by rw [hg]; exact Nat.ne_of_lt (IsS98.lt (show IsS98 w _ g1392 t1389 t1390 t1391 from by repeat (first | (with_reducible first | exact HI1392.out | apply IsS98.alloc | apply IsS98.drewN | apply IsS98.drew | apply IsS98.set_1 | apply IsS98.set_2 | refine IsS98.far ?_ NB1392_1387.out _ | refine IsS98.far ?_ NB1392_1388.out _) | exact HI1392.out))) : g1392 ≠ gb1398)); have n13_ := Aside0.mk ((by rw [hg]; exact Nat.ne_of_gt (IsS98.lt (show IsS98 w _ g1392 t1389 t1390 t1391 from by repeat (first | (with_reducible first | exact HI1392.out | apply IsS98.alloc | apply IsS98.drewN | apply IsS98.drew | apply IsS98.set_1 | apply IsS98.set_2 | refine IsS98.far ?_ NB1392_1387.out _ | refine IsS98.far ?_ NB1392_1388.out _) | exact HI1392.out))) : gb1398 ≠ g1392)); clear HO1397 BK1387 BK1388 HI1392 HB; have HO1397 := n0_; have BK1387 := n1_; have BK1388 := n2_; have HI1392 := n3_; have HB := n4_; have BK1398 := n5_; have GW1398 := n6_; have GE1398 := n7_; have NB1387_1398 := n8_; have NB1398_1387 := n9_; have NB1388_1398 := n10_; have NB1398_1388 := n11_; have NB1392_1398 := n12_; have NB1398_1392 := n13_; clear n0_ n1_ n2_ n3_ n4_ n5_ n6_ n7_ n8_ n9_ n10_ n11_ n12_ n13_; clear hb hbox hg; have hnb13 := NB1398_1387.out; have hnc13 := NB1387_1398.out; have hnb14 := NB1398_1388.out; have hnc14 := NB1388_1398.out; have hnb15 := NB1398_1392.out; have hnc15 := NB1392_1398.out; obtain ⟨hcz16_0, hcz16_1, hcz16_2, hfz16_0, hfz16_1, hfz16_2⟩ := sZ_ BK1398.out; obtain ⟨Ao17, co17, eo17⟩ := Kd.R_slice HO1397.out; subst eo17))
 go_loopg [18] k (fun kq v18 w' => ∃ (x18_1 : Int) (x1393001_1 : Int) (x1393002_1 : Int) (x1399002_1 : List Int) (u1399002 : Value), v18 = .int .i64 x18_1 ∧ Aside0 (spec_MakeLike.l0 kq (t1395.length : Int) x18_1 t1389 x1393001_1 x1393002_1 t1393 t1394 x1399002_1 = some (r1, r2, r3)) ∧ Aside0 (kq ≤ k) ∧ Aside0 (Kd.R (Kd.int .i64) 3 w' w.heap.size (fun _ => True) u1399002 x1399002_1) ∧ Aside0 (w'.heap[gb1387]? = some (.cells #[.int .i64 a1_0, .int .i64 a1_1, (.slice A1_2 l1_2.length c1_2)] 41 (0, 0))) ∧ Aside0 (w'.heap[gb1388]? = some (.cells #[.int .i64 0, .int .i64 0, (.slice none 0 0)] 41 (0, 0))) ∧ Aside0 (w'.heap[gb1398]? = some (.cells #[.int .i64 t1393, .int .i64 t1394, u1399002] 41 (0, 0))) ∧ Aside0 (IsS98 w w' g1392 t1389 x1393001_1 x1393002_1) ∧ Aside0 (Below w.heap.size w w'))
 case atStart => exact ⟨(0), (t1390), (t1391), (t1395), (.slice Ao17 t1395.length co17), (by first | rfl | (simp; done) | (simp [*]; done)), H', ⟨Nat.le_refl _⟩, ⟨by (with_reducible repeat (first | apply Kd.R_alloc | apply Kd.R_drewN | apply Kd.R_drew)); exact Kd.R_mono (Kd.R_far (p := ⟨gb1398, 2, none⟩) (Kd.R_far (p := ⟨gb1398, 1, none⟩) (Kd.R_far (p := ⟨gb1398, 0, none⟩) (Kd.R_types HO1397.out BK1398.out (by decide)) (fun _ hk => hk.2) (.int .i64 t1393)) (fun _ hk => hk.2) (.int .i64 t1394)) (fun _ hk => hk.2) (.slice Ao17 t1395.length co17)) (fun _ hk => trivial)⟩, ⟨by refine sB_ ?_; refine blk_far ?_ NB1387_1398.out _; refine sB_ ?_; refine blk_far ?_ NB1387_1398.out _; refine sB_ ?_; refine blk_far ?_ NB1387_1398.out _; refine sB_ ?_; exact BK1387.out⟩, ⟨by refine sB_ ?_; refine blk_far ?_ NB1388_1398.out _; refine sB_ ?_; refine blk_far ?_ NB1388_1398.out _; refine sB_ ?_; refine blk_far ?_ NB1388_1398.out _; refine sB_ ?_; exact BK1388.out⟩, ⟨by refine sB_ ?_; refine blk_put (cs := #[.int .i64 t1393, .int .i64 t1394, .slice none 0 0]) ?_ 2 _ rfl; refine sB_ ?_; refine blk_put (cs := #[.int .i64 t1393, .int .i64 0, .slice none 0 0]) ?_ 1 _ rfl; refine sB_ ?_; refine blk_put (cs := #[.int .i64 0, .int .i64 0, .slice none 0 0]) ?_ 0 _ rfl; refine sB_ ?_; exact BK1398.out⟩, ⟨by repeat (first | (with_reducible first | exact HI1392.out | apply IsS98.alloc | apply IsS98.drewN | apply IsS98.drew | apply IsS98.set_1 | apply IsS98.set_2 | refine IsS98.far ?_ NB1392_1387.out _ | refine IsS98.far ?_ NB1392_1388.out _ | refine IsS98.far ?_ NB1392_1398.out _) | exact HI1392.out)⟩, ⟨by repeat (first | (with_reducible first | exact HB.out | apply below_alloc | apply pw_below_drewN | apply below_drew1 | refine below_set ?_ (IsS98.ge HI1392.out) | refine below_set ?_ GE1387.out | refine below_set ?_ GE1388.out | refine below_set ?_ GE1398.out) | exact HB.out)⟩⟩
 case round =>
  clear H'
  try clear c1
  try clear p2
  try clear c8
  try clear c9
  try clear c10
  try clear c13
  try clear c14
  try clear c15
  try clear hcz10_0
  try clear hcz10_1
  try clear hcz10_2
  try clear hcz16_0
  try clear hcz16_1
  try clear hcz16_2
  try clear hfz10_0
  try clear hfz10_1
  try clear hfz10_2
  try clear hfz16_0
  try clear hfz16_1
  try clear hfz16_2
  obtain ⟨x18_1, x1393001_1, x1393002_1, x1399002_1, u1399002, rfl, HA, HK1, HO_1399002, BK1387, BK1388, BK1398, HI1392, HB⟩ := hrel
  cases gk with
  | zero => exact absurd HA.out (by simp [spec_MakeLike.l0])
  | succ k1 =>
   have H := HA.out; clear HA
   simp only [spec_MakeLike.l0] at H
   by_cases c18 : x18_1 < (t1395.length : Int)
   ·rw [if_pos c18] at H
    have c18b0 : decide (x18_1 < (t1395.length : Int)) = true := decide_eq_true c18
    clear c18
    replace H := Option.bind_eq_some_iff.mp H
    obtain ⟨⟨t1399, t1400, t1401⟩, A190, H⟩ := H
    replace H : (if 0 ≤ x18_1 then (if x18_1 < (x1399002_1.length : Int) then (spec_MakeLike.l0 k1 (t1395.length : Int) (wrap64 (x18_1 + 1)) t1389 t1400 t1401 t1393 t1394 (x1399002_1.set (x18_1 : Int).toNat t1399)) else (none)) else (none)) = some (r1, r2, r3) := H
    have A19 := Aside0.mk A190
    clear A190
    by_cases c20 : 0 ≤ x18_1
    ·rw [if_pos c20] at H
     have c20b0 : decide (0 ≤ x18_1) = true := decide_eq_true c20
     clear c20
     by_cases c21 : x18_1 < (x1399002_1.length : Int)
     ·rw [if_pos c21] at H
      have c21b0 : decide (x18_1 < (x1399002_1.length : Int)) = true := decide_eq_true c21
      clear c21
      obtain ⟨y1402, hy1402⟩ : ∃ y_ : List Int, y_ = (x1399002_1.set (x18_1 : Int).toNat t1399) := ⟨_, rfl⟩
      replace H : (spec_MakeLike.l0 k1 (t1395.length : Int) (wrap64 (x18_1 + 1)) t1389 t1400 t1401 t1393 t1394 y1402) = some (r1, r2, r3) := by first | (rw [hy1402]; with_reducible exact H) | (have H2_ := (Option.bind_some _ _).symm.trans H; rw [hy1402]; with_reducible exact H2_) | (have H2_ := (Option.bind_some _ _).symm.trans H; with_reducible exact H2_) | with_reducible exact H | (rw [hy1402]; exact H) | exact H
      have Ny1402 := Aside0.mk hy1402
      clear hy1402
      have H' := Aside0.mk H
      clear H
      try go_wp2
      have n0_ := Aside0.mk (Kd.R_drew HO_1399002.out)
      have n1_ := Aside0.mk (blk_drew BK1387.out)
      have n2_ := Aside0.mk (blk_drew BK1388.out)
      have n3_ := Aside0.mk (blk_drew BK1398.out)
      have n4_ := Aside0.mk (IsS98.drew HI1392.out)
      have n5_ := Aside0.mk (below_drew1 HB.out)
      clear HO_1399002 BK1387 BK1388 BK1398 HI1392 HB; have HO_1399002 := n0_; have BK1387 := n1_; have BK1388 := n2_; have BK1398 := n3_; have HI1392 := n4_; have HB := n5_; clear n0_ n1_ n2_ n3_ n4_ n5_
      refine start_ (n := 7) (S := fun w' => w'.cell? ⟨gb1398, 0, none⟩ = some (.int .i64 t1393) ∧ w'.cell? ⟨gb1398, 1, none⟩ = some (.int .i64 t1394) ∧ w'.cell? ⟨gb1398, 2, none⟩ = some (u1399002)) (ds := [6]) #[false, false, false, false, false, false, false] (by kernel_rfl) rfl rfl ⟨(blk_cell BK1398.out 0).trans rfl, (blk_cell BK1398.out 1).trans rfl, (blk_cell BK1398.out 2).trans rfl⟩ (fun hHeld => ?_)
      generalize wr.drew = w23 at HO_1399002 BK1387 BK1388 BK1398 HI1392 HB hHeld ⊢
      refine pure_ (i := 0) (N := some 21) (v := ?_) (a' := ?_) #[true, false, false, false, false, false, false] rfl rfl (by kernel_rfl) (fun _ _ _ h => h) (Or.inl ⟨by rfl, ?_⟩) ?_ ?_
      rotate_left
      ·intro w'
       go_simp
       with_reducible rfl
      rotate_left
      ·simp only [Act.put, List.setIfInBounds_toArray, List.set_cons_zero, List.set_cons_succ, i64_w, i32_w]
       rfl
      refine pure_ (i := 2) (N := some 23) (v := ?_) (a' := ?_) #[true, false, true, false, false, false, false] rfl rfl (by kernel_rfl) (fun _ _ _ h => h) (Or.inl ⟨by rfl, ?_⟩) ?_ ?_
      rotate_left
      ·intro w'
       go_simp
       with_reducible rfl
      rotate_left
      ·simp only [Act.put, List.setIfInBounds_toArray, List.set_cons_zero, List.set_cons_succ, i64_w, i32_w]
       rfl
      refine pure_ (i := 3) (N := some 24) (v := ?_) (a' := ?_) #[true, false, true, true, false, false, false] rfl rfl (by kernel_rfl) (fun _ _ _ h => h) (Or.inl ⟨by rfl, ?_⟩) ?_ ?_
      rotate_left
      ·intro w'
       go_simp
       with_reducible rfl
      rotate_left
      ·simp only [Act.put, List.setIfInBounds_toArray, List.set_cons_zero, List.set_cons_succ, i64_w, i32_w]
       rfl
      refine take_ (i := 1) (N := some 22) (v := ?_) (a' := ?_) #[true, true, true, true, false, false, false] rfl rfl (by kernel_rfl) (fun _ _ _ h => h) (Or.inl ⟨by rfl, ?_⟩) hHeld ?_ ?_
      rotate_left
      ·rintro w' ⟨s0, s1, s2⟩
       go_simp
       with_reducible rfl
      rotate_left
      ·simp only [Act.put, List.setIfInBounds_toArray, List.set_cons_zero, List.set_cons_succ, i64_w, i32_w]
       rfl
      refine one_ (i := 4) (N := some 25) #[true, true, true, true, true, false, false] rfl rfl (by kernel_rfl) (by decide) (fun K hK => ?_)
      refine goes_ Try.func122 (by kernel_rfl) rfl #[.pointer (some ⟨g1392, 0, none⟩), .int .i64 2] (by rfl) rfl rfl sL_ ?_
      with_reducible refine (spec_l01Below.calls g1392 t1389 x1393001_1 x1393002_1 2 t1399 t1400 t1401 w _ ?side1 ?side2 A19.out).mono ?_
      (case side1 => repeat (first | (with_reducible first | exact HI1392.out | apply IsS98.alloc | apply IsS98.drewN | apply IsS98.drew | apply IsS98.set_1 | apply IsS98.set_2 | refine IsS98.far ?_ NB1392_1387.out _ | refine IsS98.far ?_ NB1392_1388.out _ | refine IsS98.far ?_ NB1392_1398.out _) | exact HI1392.out))
      (case side2 => repeat (first | (with_reducible first | exact HB.out | apply below_alloc | apply pw_below_drewN | apply below_drew1 | refine below_set ?_ (IsS98.ge HI1392.out) | refine below_set ?_ GE1387.out | refine below_set ?_ GE1388.out | refine below_set ?_ GE1398.out) | exact HB.out))
      rintro e w24 ⟨rfl, hi, hb, hk⟩
      refine ⟨_, rfl, ?_⟩
      have n0_ := Aside0.mk (Kd.R_mono (Kd.R_keep (IsS98.apart (show IsS98 w _ g1392 t1389 x1393001_1 x1393002_1 from by repeat (first | (with_reducible first | exact HI1392.out | apply IsS98.alloc | apply IsS98.drewN | apply IsS98.drew | apply IsS98.set_1 | apply IsS98.set_2 | refine IsS98.far ?_ NB1392_1387.out _ | refine IsS98.far ?_ NB1392_1388.out _ | refine IsS98.far ?_ NB1392_1398.out _) | exact HI1392.out)) (sR_ HO_1399002.out) (by decide)) hk (fun _ h => h.2)) (fun _ h => h.1))
      have n1_ := Aside0.mk (KeepBut.blk hk (g' := gb1387) (o := .cells #[.int .i64 a1_0, .int .i64 a1_1, .slice A1_2 l1_2.length c1_2] 41 (0, 0)) (sB_ BK1387.out) NB1387_1392.out (by simp))
      have n2_ := Aside0.mk (KeepBut.blk hk (g' := gb1388) (o := .cells #[.int .i64 0, .int .i64 0, .slice none 0 0] 41 (0, 0)) (sB_ BK1388.out) NB1388_1392.out (by simp))
      have n3_ := Aside0.mk (KeepBut.blk hk (g' := gb1398) (o := .cells #[.int .i64 t1393, .int .i64 t1394, u1399002] 41 (0, 0)) (sB_ BK1398.out) NB1398_1392.out (by simp))
      have n4_ := Aside0.mk (hb)
      have n5_ := Aside0.mk (hi)
      clear HO_1399002 BK1387 BK1388 BK1398 HB HI1392; have HO_1399002 := n0_; have BK1387 := n1_; have BK1388 := n2_; have BK1398 := n3_; have HB := n4_; have HI1392 := n5_; clear n0_ n1_ n2_ n3_ n4_ n5_
      (try clear hb)
      (try clear hb2)
      (try clear hk)
      (try clear hi)
      have p22 : 0 ≤ (x18_1 : Int) := of_decide_eq_true (by first | (with_reducible assumption) | assumption)
      have q22 : (x18_1 : Int) < ((x1399002_1.length : Int) : Int) := of_decide_eq_true (by first | (with_reducible assumption) | assumption)
      obtain ⟨go22, co22, eo22, gb22, gl22, cl22, HG22⟩ := Kd.R_form HO_1399002.out (by omega)
      (first | cases eo22 | (injection eo22 with ea_ en_ ec_; (first | subst ea_ | (injection ea_ with ea_; subst ea_)); subst ec_; clear en_))
      have GB22 := Aside0.mk gb22
      have GG22 := Aside0.mk HG22
      clear gb22 gl22 HG22
      obtain ⟨hx22_0, hf22_0⟩ := Kd.R_celln 0 HO_1399002.out (x18_1 : Int) p22 q22
      replace p22 := eq_true p22
      replace q22 := eq_true q22
      have HN1392_go22 := Aside0.mk (show g1392 ≠ go22 from by have h_ := IsS98.own_ne HI1392.out HO_1399002.out (by decide); intro e_; exact h_ (by rw [e_]; rfl))
      have HP25 := Kd.R_putn HO_1399002.out (x18_1 : Int) t1399
      rw [← Ny1402.out] at HP25
      have HQ25 := Aside0.mk HP25
      clear HP25
      refine hK.out _ _ ⟨(blk_cell BK1398.out 0).trans rfl, (blk_cell BK1398.out 1).trans rfl, (blk_cell BK1398.out 2).trans rfl⟩ (fun hHeld => ?_)
      clear hK K
      refine norm_ (a' := ?_) ?_ ?_
      rotate_left
      ·show Act.put _ (some 25) _ = _
       simp only [Act.put, List.setIfInBounds_toArray, List.set_cons_zero, List.set_cons_succ, i64_w, i32_w]
       rfl
      refine pure_ (i := 5) (N := some 26) (v := ?_) (a' := ?_) #[true, true, true, true, true, true, false] rfl rfl (by kernel_rfl) (fun _ _ _ h => h) (Or.inl ⟨by rfl, ?_⟩) ?_ ?_
      rotate_left
      ·intro w'
       go_simp
       with_reducible rfl
      rotate_left
      ·simp only [Act.put, List.setIfInBounds_toArray, List.set_cons_zero, List.set_cons_succ, i64_w, i32_w]
       rfl
      refine last_ (i := 6) (N := none) #[true, true, true, true, true, true, true] rfl rfl (by kernel_rfl) (by decide) (fun K hK => ?_)
      refine skip_ (w1 := ?_) (by rfl) rfl ?_ ?_
      rotate_left
      ·go_simp
       rfl
      refine hK.out _ _ ?_
      clear hK K
      refine done_ (by kernel_rfl) ?_
      try go_wp2
      go_roundg k1
      case measure => have := HK1.out; omega
      case rel => exact ⟨(wrap64 (x18_1 + 1)), (t1400), (t1401), (y1402), (.slice (some ⟨go22, 0, none⟩) x1399002_1.length co22), (by first | rfl | (simp; done) | (simp [*]; done)), H', ⟨by have := HK1.out; omega⟩, ⟨by (with_reducible repeat (first | apply Kd.R_alloc | apply Kd.R_drewN | apply Kd.R_drew)); exact HQ25.out⟩, ⟨by refine sB_ ?_; refine blk_far ?_ (by have h_ := Kd.R_ne HO_1399002.out BK1387.out (by decide); intro e_; exact h_ (by rw [e_]; rfl)) _; refine sB_ ?_; exact BK1387.out⟩, ⟨by refine sB_ ?_; refine blk_far ?_ (by have h_ := Kd.R_ne HO_1399002.out BK1388.out (by decide); intro e_; exact h_ (by rw [e_]; rfl)) _; refine sB_ ?_; exact BK1388.out⟩, ⟨by refine sB_ ?_; refine blk_far ?_ (by have h_ := Kd.R_ne HO_1399002.out BK1398.out (by decide); intro e_; exact h_ (by rw [e_]; rfl)) _; refine sB_ ?_; exact BK1398.out⟩, ⟨by repeat (first | (with_reducible first | exact HI1392.out | apply IsS98.alloc | apply IsS98.drewN | apply IsS98.drew | apply IsS98.set_1 | apply IsS98.set_2 | refine IsS98.far ?_ HN1392_go22.out _ | refine IsS98.far ?_ NB1392_1387.out _ | refine IsS98.far ?_ NB1392_1388.out _ | refine IsS98.far ?_ NB1392_1398.out _) | exact HI1392.out)⟩, ⟨by repeat (first | (with_reducible first | exact HB.out | apply below_alloc | apply pw_below_drewN | apply below_drew1 | refine below_set ?_ GB22.out | refine below_set ?_ (IsS98.ge HI1392.out) | refine below_set ?_ GE1387.out | refine below_set ?_ GE1388.out | refine below_set ?_ GE1398.out) | exact HB.out)⟩⟩
     rw [if_neg c21] at H
     exact absurd H (by simp)
    rw [if_neg c20] at H
    exact absurd H (by simp)
   rw [if_neg c18] at H
   have c18b0 : decide (x18_1 < (t1395.length : Int)) = false := decide_eq_false c18
   clear c18
   simp only [Option.some.injEq, Prod.mk.injEq] at H
   obtain ⟨rfl, rfl, rfl⟩ := H
   have hnb26 := NB1398_1387.out; have hnc26 := NB1387_1398.out; have hnb27 := NB1398_1388.out; have hnc27 := NB1388_1398.out; have hnb28 := NB1398_1392.out; have hnc28 := NB1392_1398.out
   obtain ⟨hcz29_0, hcz29_1, hcz29_2, hfz29_0, hfz29_1, hfz29_2⟩ := sZ_ BK1398.out
   have hnb30 := NB1388_1387.out; have hnc30 := NB1387_1388.out; have hnb31 := NB1388_1392.out; have hnc31 := NB1392_1388.out
   obtain ⟨hcz32_0, hcz32_1, hcz32_2, hfz32_0, hfz32_1, hfz32_2⟩ := sZ_ BK1388.out
   obtain ⟨Ao33, co33, eo33⟩ := Kd.R_slice HO_1399002.out
   subst eo33
   go_wp2
   refine bodyPost_ret (results_cell_row rfl _ _ gb1388 41 #[.int .i64 t1393, .int .i64 t1394, .slice Ao33 x1399002_1.length co33] (0, 0) _ rfl (by refine sB_ ?_; refine blk_put (cs := #[.int .i64 t1393, .int .i64 t1394, .slice none 0 0]) ?_ 2 _ rfl; refine sB_ ?_; refine blk_put (cs := #[.int .i64 t1393, .int .i64 0, .slice none 0 0]) ?_ 1 _ rfl; refine sB_ ?_; refine blk_put (cs := #[.int .i64 0, .int .i64 0, .slice none 0 0]) ?_ 0 _ rfl; refine sB_ ?_; exact BK1388.out) Try.underlying41 rfl (by kernel_rfl)) rfl ?_
   exact ⟨_, by first | rfl | (simp [errW_none, errW_some] <;> rfl) | (simp [*, errW_none, errW_some] <;> rfl), by (with_reducible repeat (first | apply Kd.R_alloc | apply Kd.R_drewN | apply Kd.R_drew)); exact Kd.R_mono (Kd.R_far (p := ⟨gb1388, 2, none⟩) (Kd.R_far (p := ⟨gb1388, 1, none⟩) (Kd.R_far (p := ⟨gb1388, 0, none⟩) (Kd.R_types HO_1399002.out BK1388.out (by decide)) (fun _ hk => hk.2) (.int .i64 t1393)) (fun _ hk => hk.2) (.int .i64 t1394)) (fun _ hk => hk.2) (.slice Ao33 x1399002_1.length co33)) (fun _ hk => trivial), by repeat (first | (with_reducible first | exact HB.out | apply below_alloc | apply pw_below_drewN | apply below_drew1 | refine below_set ?_ (IsS98.ge HI1392.out) | refine below_set ?_ GE1387.out | refine below_set ?_ GE1388.out | refine below_set ?_ GE1398.out) | exact HB.out)⟩

end Go.Proofs.Ytdlehfnlibddcaa.P
