-- Written by tools/seatprint.py (over the kit's print, changed in memory). Not trusted: Lean checks it.
import Derived.Test.YtdlehfnlibddcaaP0
import Derived.Test.YtdlehfnlibddcaaFimplShiftMatrix
import Derived.Test.YtdlehfnlibddcaaFimplScreenPicture
namespace Go.Proofs.Ytdlehfnlibddcaa.P
open Go.RowKit Go.Proofs.YtdlehfnlibddcaaW.PrintWords Go.Proofs.YtdlehfnlibddcaaW.PrintLast Go.Proofs.YtdlehfnlibddcaaW.PrintMore
attribute [local go_sem] max2_int min2_int max_two min_two max_three min_three max_four min_four   -- for this text's walks alone
set_option linter.unusedVariables false
set_option linter.unusedSimpArgs false

/-! ### impl_ScreenShifted: function 78 -/
def impl_ScreenShifted.f (a0_0 : Int) (a0_1 : Int) (l0_2 : List Int) (a1_0 : Int) (a1_1 : Int) (l1_2 : List Int) (a2 : Int) (a3 : Int) : Option (Int × Int × List Int) := (impl_ShiftMatrix.f a0_0 a0_1 l0_2 a2 a3).bind fun bt1283 => ((impl_ScreenPicture.f bt1283.1 bt1283.2.1 bt1283.2.2 a1_0 a1_1 l1_2).bind fun bt1288 => (some (bt1288.1, bt1288.2.1, bt1288.2.2)))
set_option maxHeartbeats 8000000 in
set_option maxRecDepth 100000 in
theorem impl_ScreenShifted.calls (a0_0 : Int) (a0_1 : Int) (A0_2 : Option Addr) (c0_2 : Nat) (l0_2 : List Int) (a1_0 : Int) (a1_1 : Int) (A1_2 : Option Addr) (c1_2 : Nat) (l1_2 : List Int) (a2 : Int) (a3 : Int) (r1 : Int) (r2 : Int) (r3 : List Int) (w : World) (hr0_2 : Kd.C (Kd.int .i64) w A0_2 l0_2.length l0_2) (hc0_2 : l0_2.length ≤ c0_2) (hr1_2 : Kd.C (Kd.int .i64) w A1_2 l1_2.length l1_2) (hc1_2 : l1_2.length ≤ c1_2) (h : impl_ScreenShifted.f a0_0 a0_1 l0_2 a1_0 a1_1 l1_2 a2 a3 = some (r1, r2, r3)) :
    Calls Try.prog 78 #[.agg #[.int .i64 a0_0, .int .i64 a0_1, .slice A0_2 l0_2.length c0_2], .agg #[.int .i64 a1_0, .int .i64 a1_1, .slice A1_2 l1_2.length c1_2], .int .i64 a2, .int .i64 a3] w fun e w' => ∃ v2_ : Value, e = .returned (.agg #[.int .i64 r1, .int .i64 r2, v2_]) ∧ Kd.R (Kd.int .i64) 3 w' w.heap.size (fun _ => True) v2_ r3 ∧ Below w.heap.size w w' := by
  have hu26 := Try.underlying26
  have hu41 := Try.underlying41
  have HR0_2 := Aside0.mk hr0_2
  have HC0_2 := Aside0.mk hc0_2
  clear hr0_2 hc0_2
  have HR1_2 := Aside0.mk hr1_2
  have HC1_2 := Aside0.mk hc1_2
  clear hr1_2 hc1_2
  have HB := Aside0.mk (Below.refl w.heap.size w)
  have H : ((impl_ShiftMatrix.f a0_0 a0_1 l0_2 a2 a3).bind fun bt1283 => ((impl_ScreenPicture.f bt1283.1 bt1283.2.1 bt1283.2.2 a1_0 a1_1 l1_2).bind fun bt1288 => (some (bt1288.1, bt1288.2.1, bt1288.2.2)))) = some (r1, r2, r3) := h
  clear h
  replace H := Option.bind_eq_some_iff.mp H
  obtain ⟨⟨t1283, t1284, t1285⟩, A50, H⟩ := H
  replace H : ((impl_ScreenPicture.f t1283 t1284 t1285 a1_0 a1_1 l1_2).bind fun bt1288 => (some (bt1288.1, bt1288.2.1, bt1288.2.2))) = some (r1, r2, r3) := H
  have A5 := Aside0.mk A50
  clear A50
  replace H := Option.bind_eq_some_iff.mp H
  obtain ⟨⟨t1288, t1289, t1290⟩, A60, H⟩ := H
  replace H : (some (t1288, t1289, t1290)) = some (r1, r2, r3) := H
  have A6 := Aside0.mk A60
  clear A60
  simp only [Option.some.injEq, Prod.mk.injEq] at H
  obtain ⟨rfl, rfl, rfl⟩ := H
  go_enter Try.func78, Try.ntmps78
  try go_wp2_with (first | ((with_reducible refine gate_dst (N := 4) rfl ?_); refine box_event ?hg (N := 4) ?hd (cs := #[.int .i64 a0_0, .int .i64 a0_1, .slice A0_2 l0_2.length c0_2]) (t := 26) ?hr ?_; (case hd => rfl); (case hg => rfl); (case hr => first | (go_simp; done) | (go_simp; rfl)); intro gb1280 hg w7 hbox hb; have n0_ := Aside0.mk (below_step (by repeat (first | (with_reducible first | exact HB.out | apply below_alloc | apply pw_below_drewN | apply below_drew1) | exact HB.out)) hb); have n1_ := Aside0.mk (hbox); have n2_ := Aside0.mk ((by rw [hg]; exact (below_size (by repeat (first | (with_reducible first | exact HB.out | apply below_alloc | apply pw_below_drewN | apply below_drew1) | exact HB.out))) : w.heap.size ≤ gb1280)); have n3_ := Aside0.mk ((by rw [hg]; exact (below_size (by repeat (first | (with_reducible first | exact HB.out | apply below_alloc | apply pw_below_drewN | apply below_drew1) | exact HB.out))) : w.heap.size ≤ gb1280)); clear HB; have HB := n0_; have BK1280 := n1_; have GW1280 := n2_; have GE1280 := n3_; clear n0_ n1_ n2_ n3_; clear hb hbox hg) | ((with_reducible refine gate_dst (N := 5) rfl ?_); refine box_event ?hg (N := 5) ?hd (cs := #[.int .i64 a1_0, .int .i64 a1_1, .slice A1_2 l1_2.length c1_2]) (t := 41) ?hr ?_; (case hd => rfl); (case hg => rfl); (case hr => first | (go_simp; done) | (go_simp; rfl)); intro gb1281 hg w8 hbox hb; have n0_ := Aside0.mk (blk_below (g := gb1280) (o := .cells #[.int .i64 a0_0, .int .i64 a0_1, .slice A0_2 l0_2.length c0_2] 26 (0, 0)) (by (with_reducible repeat (first | refine blk_drewN ?_ _ | refine blk_drew ?_ | refine blk_alloc ?_ _)); exact BK1280.out) hb); have n1_ := Aside0.mk (below_step (by repeat (first | (with_reducible first | exact HB.out | apply below_alloc | apply pw_below_drewN | apply below_drew1 | refine below_set ?_ GE1280.out) | exact HB.out)) hb); have n2_ := Aside0.mk (hbox); have n3_ := Aside0.mk ((by rw [hg]; exact (below_size (by repeat (first | (with_reducible first | exact HB.out | apply below_alloc | apply pw_below_drewN | apply below_drew1 | refine below_set ?_ GE1280.out) | exact HB.out))) : w.heap.size ≤ gb1281)); have n4_ := Aside0.mk ((by rw [hg]; exact (below_size (by repeat (first | (with_reducible first | exact HB.out | apply below_alloc | apply pw_below_drewN | apply below_drew1 | refine below_set ?_ GE1280.out) | exact HB.out))) : w.heap.size ≤ gb1281)); have n5_ := Aside0.mk ((by rw [hg]; exact Nat.ne_of_lt (blk_lt (g := gb1280) (o := .cells #[.int .i64 a0_0, .int .i64 a0_1, .slice A0_2 l0_2.length c0_2] 26 (0, 0)) (by (with_reducible repeat (first | refine blk_drewN ?_ _ | refine blk_drew ?_ | refine blk_alloc ?_ _)); exact BK1280.out)) : gb1280 ≠ gb1281)); have n6_ := Aside0.mk ((by rw [hg]; exact Nat.ne_of_gt (blk_lt (g := gb1280) (o := .cells #[.int .i64 a0_0, .int .i64 a0_1, .slice A0_2 l0_2.length c0_2] 26 (0, 0)) (by (with_reducible repeat (first | refine blk_drewN ?_ _ | refine blk_drew ?_ | refine blk_alloc ?_ _)); exact BK1280.out)) : gb1281 ≠ gb1280)); clear BK1280; clear HB; have BK1280 := n0_; have HB := n1_; have BK1281 := n2_; have GW1281 := n3_; have GE1281 := n4_; have NB1280_1281 := n5_; have NB1281_1280 := n6_; clear n0_ n1_ n2_ n3_ n4_ n5_ n6_; clear hb hbox hg) | ((with_reducible refine gate_dst (N := 8) rfl ?_); refine box_event ?hg (N := 8) ?hd (cs := #[.int .i64 0, .int .i64 0, .slice none 0 0]) (t := 41) ?hr ?_; (case hd => rfl); (case hg => rfl); (case hr => first | (go_simp; done) | (go_simp; rfl)); intro gb1282 hg w9 hbox hb; have n0_ := Aside0.mk (blk_below (g := gb1280) (o := .cells #[.int .i64 a0_0, .int .i64 a0_1, .slice A0_2 l0_2.length c0_2] 26 (0, 0)) (by (with_reducible repeat (first | refine blk_drewN ?_ _ | refine blk_drew ?_ | refine blk_alloc ?_ _)); exact BK1280.out) hb); have n1_ := Aside0.mk (blk_below (g := gb1281) (o := .cells #[.int .i64 a1_0, .int .i64 a1_1, .slice A1_2 l1_2.length c1_2] 41 (0, 0)) (by (with_reducible repeat (first | refine blk_drewN ?_ _ | refine blk_drew ?_ | refine blk_alloc ?_ _)); exact BK1281.out) hb); have n2_ := Aside0.mk (below_step (by repeat (first | (with_reducible first | exact HB.out | apply below_alloc | apply pw_below_drewN | apply below_drew1 | refine below_set ?_ GE1280.out | refine below_set ?_ GE1281.out) | exact HB.out)) hb); have n3_ := Aside0.mk (hbox); have n4_ := Aside0.mk ((by rw [hg]; exact (below_size (by repeat (first | (with_reducible first | exact HB.out | apply below_alloc | apply pw_below_drewN | apply below_drew1 | refine below_set ?_ GE1280.out | refine below_set ?_ GE1281.out) | exact HB.out))) : w.heap.size ≤ gb1282)); have n5_ := Aside0.mk ((by rw [hg]; exact (below_size (by repeat (first | (with_reducible first | exact HB.out | apply below_alloc | apply pw_below_drewN | apply below_drew1 | refine below_set ?_ GE1280.out | refine below_set ?_ GE1281.out) | exact HB.out))) : w.heap.size ≤ gb1282)); have n6_ := Aside0.mk ((by rw [hg]; exact Nat.ne_of_lt (blk_lt (g := gb1280) (o := .cells #[.int .i64 a0_0, .int .i64 a0_1, .slice A0_2 l0_2.length c0_2] 26 (0, 0)) (by (with_reducible repeat (first | refine blk_drewN ?_ _ | refine blk_drew ?_ | refine blk_alloc ?_ _)); exact BK1280.out)) : gb1280 ≠ gb1282)); have n7_ := Aside0.mk ((by rw [hg]; exact Nat.ne_of_gt (blk_lt (g := gb1280) (o := .cells #[.int .i64 a0_0, .int .i64 a0_1, .slice A0_2 l0_2.length c0_2] 26 (0, 0)) (by (with_reducible repeat (first | refine blk_drewN ?_ _ | refine blk_drew ?_ | refine blk_alloc ?_ _)); exact BK1280.out)) : gb1282 ≠ gb1280)); have n8_ := Aside0.mk ((by rw [hg]; exact Nat.ne_of_lt (blk_lt (g := gb1281) (o := .cells #[.int .i64 a1_0, .int .i64 a1_1, .slice A1_2 l1_2.length c1_2] 41 (0, 0)) (by (with_reducible repeat (first | refine blk_drewN ?_ _ | refine blk_drew ?_ | refine blk_alloc ?_ _)); exact BK1281.out)) : gb1281 ≠ gb1282)); have n9_ := Aside0.mk ((by rw [hg]; exact Nat.ne_of_gt (blk_lt (g := gb1281) (o := .cells #[.int .i64 a1_0, .int .i64 a1_1, .slice A1_2 l1_2.length c1_2] 41 (0, 0)) (by (with_reducible repeat (first | refine blk_drewN ?_ _ | refine blk_drew ?_ | refine blk_alloc ?_ _)); exact BK1281.out)) : gb1282 ≠ gb1281)); clear BK1280; clear BK1281; clear HB; have BK1280 := n0_; have BK1281 := n1_; have HB := n2_; have BK1282 := n3_; have GW1282 := n4_; have GE1282 := n5_; have NB1280_1282 := n6_; have NB1282_1280 := n7_; have NB1281_1282 := n8_; have NB1282_1281 := n9_; clear n0_ n1_ n2_ n3_ n4_ n5_ n6_ n7_ n8_ n9_; clear hb hbox hg))
  have n0_ := Aside0.mk (blk_drew BK1280.out)
  have n1_ := Aside0.mk (blk_drew BK1281.out)
  have n2_ := Aside0.mk (blk_drew BK1282.out)
  have n3_ := Aside0.mk (below_drew1 HB.out)
  clear BK1280
  clear BK1281
  clear BK1282
  clear HB
  have BK1280 := n0_
  have BK1281 := n1_
  have BK1282 := n2_
  have HB := n3_
  clear n0_ n1_ n2_ n3_
  refine start_ (n := 7) (S := fun w' => w'.cell? ⟨gb1280, 0, none⟩ = some (.int .i64 a0_0) ∧ w'.cell? ⟨gb1280, 1, none⟩ = some (.int .i64 a0_1) ∧ w'.cell? ⟨gb1280, 2, none⟩ = some (.slice A0_2 l0_2.length c0_2) ∧ w'.cell? ⟨gb1281, 0, none⟩ = some (.int .i64 a1_0) ∧ w'.cell? ⟨gb1281, 1, none⟩ = some (.int .i64 a1_1) ∧ w'.cell? ⟨gb1281, 2, none⟩ = some (.slice A1_2 l1_2.length c1_2)) (ds := []) #[false, false, false, false, false, false, false] (by kernel_rfl) rfl rfl ⟨(blk_cell BK1280.out 0).trans rfl, (blk_cell BK1280.out 1).trans rfl, (blk_cell BK1280.out 2).trans rfl, (blk_cell BK1281.out 0).trans rfl, (blk_cell BK1281.out 1).trans rfl, (blk_cell BK1281.out 2).trans rfl⟩ (fun hHeld => ?_)
  generalize w9.drew = w10 at BK1280 BK1281 BK1282 HB hHeld ⊢
  refine pure_ (i := 1) (N := some 10) (v := ?_) (a' := ?_) #[false, true, false, false, false, false, false] rfl rfl (by kernel_rfl) (fun _ _ _ h => h) (Or.inl ⟨by rfl, ?_⟩) ?_ ?_
  rotate_left
  · intro w'
    go_simp
    with_reducible rfl
  rotate_left
  · simp only [Act.put, List.setIfInBounds_toArray, List.set_cons_zero, List.set_cons_succ, i64_w, i32_w]
    rfl
  refine pure_ (i := 2) (N := some 11) (v := ?_) (a' := ?_) #[false, true, true, false, false, false, false] rfl rfl (by kernel_rfl) (fun _ _ _ h => h) (Or.inl ⟨by rfl, ?_⟩) ?_ ?_
  rotate_left
  · intro w'
    go_simp
    with_reducible rfl
  rotate_left
  · simp only [Act.put, List.setIfInBounds_toArray, List.set_cons_zero, List.set_cons_succ, i64_w, i32_w]
    rfl
  refine take_ (i := 0) (N := some 9) (v := ?_) (a' := ?_) #[true, true, true, false, false, false, false] rfl rfl (by kernel_rfl) (fun _ _ _ h => h) (Or.inl ⟨by rfl, ?_⟩) hHeld ?_ ?_
  rotate_left
  · rintro w' ⟨s0, s1, s2, s3, s4, s5⟩
    go_simp
    with_reducible rfl
  rotate_left
  · simp only [Act.put, List.setIfInBounds_toArray, List.set_cons_zero, List.set_cons_succ, i64_w, i32_w]
    rfl
  refine take_ (i := 4) (N := some 13) (v := ?_) (a' := ?_) #[true, true, true, false, true, false, false] rfl rfl (by kernel_rfl) (fun _ _ _ h => h) (Or.inl ⟨by rfl, ?_⟩) hHeld ?_ ?_
  rotate_left
  · rintro w' ⟨s0, s1, s2, s3, s4, s5⟩
    go_simp
    with_reducible rfl
  rotate_left
  · simp only [Act.put, List.setIfInBounds_toArray, List.set_cons_zero, List.set_cons_succ, i64_w, i32_w]
    rfl
  refine one_ (i := 3) (N := some 12) #[true, true, true, true, true, false, false] rfl rfl (by kernel_rfl) (by decide) (fun K hK => ?_)
  refine goes_ Try.func61 (by kernel_rfl) rfl #[.agg #[.int .i64 a0_0, .int .i64 a0_1, .slice A0_2 l0_2.length c0_2], .int .i64 a2, .int .i64 a3] (by rfl) rfl rfl (by (try simp only [List.map_toArray, List.map_cons, List.map_nil]); first | done | rfl | (simp only [List.length_drop, List.length_take]; rfl)) ?_
  with_reducible refine (impl_ShiftMatrix.calls a0_0 a0_1 _ _ l0_2 a2 a3 t1283 t1284 t1285 _ ?side1 ?side2 A5.out).mono ?_
  (case side1 => repeat (first | exact (Kd.C_below HR0_2.out HB.out) | (with_reducible refine Kd.C_alloc ?_ _) | (with_reducible refine Kd.C_drewN ?_ _) | (with_reducible refine Kd.C_drew ?_)))
  (case side2 => exact HC0_2.out)
  rintro e w11 ⟨v1286, rfl, ho0, hb⟩
  refine ⟨_, rfl, ?_⟩
  have n0_ := Aside0.mk (Kd.R_lower ho0 (below_size (by repeat (first | (with_reducible first | exact HB.out | apply below_alloc | apply pw_below_drewN | apply below_drew1 | refine below_set ?_ GE1280.out | refine below_set ?_ GE1281.out | refine below_set ?_ GE1282.out) | exact HB.out))))
  have n1_ := Aside0.mk (blk_below (g := gb1280) (o := .cells #[.int .i64 a0_0, .int .i64 a0_1, .slice A0_2 l0_2.length c0_2] 26 (0, 0)) (by (with_reducible repeat (first | refine blk_drewN ?_ _ | refine blk_drew ?_ | refine blk_alloc ?_ _)); exact BK1280.out) hb)
  have n2_ := Aside0.mk (blk_below (g := gb1281) (o := .cells #[.int .i64 a1_0, .int .i64 a1_1, .slice A1_2 l1_2.length c1_2] 41 (0, 0)) (by (with_reducible repeat (first | refine blk_drewN ?_ _ | refine blk_drew ?_ | refine blk_alloc ?_ _)); exact BK1281.out) hb)
  have n3_ := Aside0.mk (blk_below (g := gb1282) (o := .cells #[.int .i64 0, .int .i64 0, .slice none 0 0] 41 (0, 0)) (by (with_reducible repeat (first | refine blk_drewN ?_ _ | refine blk_drew ?_ | refine blk_alloc ?_ _)); exact BK1282.out) hb)
  have n4_ := Aside0.mk (below_step (by repeat (first | (with_reducible first | exact HB.out | apply below_alloc | apply pw_below_drewN | apply below_drew1 | refine below_set ?_ GE1280.out | refine below_set ?_ GE1281.out | refine below_set ?_ GE1282.out) | exact HB.out)) hb)
  clear BK1280
  clear BK1281
  clear BK1282
  clear HB
  have HO1287 := n0_
  have BK1280 := n1_
  have BK1281 := n2_
  have BK1282 := n3_
  have HB := n4_
  clear n0_ n1_ n2_ n3_ n4_
  (try clear hb)
  (try clear hb2)
  (try clear hk)
  (try clear hi)
  (try clear ho0)
  obtain ⟨Ao12, co12, eo12⟩ := Kd.R_slice HO1287.out
  (first | subst eo12 | (injection eo12 with f1_ f2_ f3_; have f4_ := f1_.symm; have f5_ := f3_.symm; clear f1_ f2_ f3_; subst f4_; subst f5_))
  refine hK.out _ _ ⟨(blk_cell BK1280.out 0).trans rfl, (blk_cell BK1280.out 1).trans rfl, (blk_cell BK1280.out 2).trans rfl, (blk_cell BK1281.out 0).trans rfl, (blk_cell BK1281.out 1).trans rfl, (blk_cell BK1281.out 2).trans rfl⟩ (fun hHeld => ?_)
  clear hK K
  refine norm_ (a' := ?_) ?_ ?_
  rotate_left
  · show Act.put _ (some 12) _ = _
    simp only [Act.put, List.setIfInBounds_toArray, List.set_cons_zero, List.set_cons_succ, i64_w, i32_w]
    rfl
  refine one_ (i := 5) (N := some 14) #[true, true, true, true, true, true, false] rfl rfl (by kernel_rfl) (by decide) (fun K hK => ?_)
  refine goes_ Try.func72 (by kernel_rfl) rfl #[.agg #[.int .i64 t1283, .int .i64 t1284, .slice Ao12 t1285.length co12], .agg #[.int .i64 a1_0, .int .i64 a1_1, .slice A1_2 l1_2.length c1_2]] (by rfl) rfl rfl (by (try simp only [List.map_toArray, List.map_cons, List.map_nil]); first | done | rfl | (simp only [List.length_drop, List.length_take]; rfl)) ?_
  with_reducible refine (impl_ScreenPicture.calls t1283 t1284 _ _ t1285 a1_0 a1_1 _ _ l1_2 t1288 t1289 t1290 _ ?side1 ?side2 ?side3 ?side4 A6.out).mono ?_
  (case side1 => repeat (first | exact (Kd.R_reads' HO1287.out).2.2 | (with_reducible refine Kd.C_alloc ?_ _) | (with_reducible refine Kd.C_drewN ?_ _) | (with_reducible refine Kd.C_drew ?_)))
  (case side2 => exact (Kd.R_reads' HO1287.out).2.1)
  (case side3 => repeat (first | exact (Kd.C_below HR1_2.out HB.out) | (with_reducible refine Kd.C_alloc ?_ _) | (with_reducible refine Kd.C_drewN ?_ _) | (with_reducible refine Kd.C_drew ?_)))
  (case side4 => exact HC1_2.out)
  rintro e w13 ⟨v1291, rfl, ho0, hb⟩
  refine ⟨_, rfl, ?_⟩
  have n0_ := Aside0.mk (Kd.R_elder' (by (with_reducible repeat (first | apply Kd.R_alloc | apply Kd.R_drewN | apply Kd.R_drew)); exact HO1287.out) (Kd.R_base ho0) hb)
  have n1_ := Aside0.mk (Kd.R_lower (Kd.R_new' ho0 (Kd.R_lt (by (with_reducible repeat (first | apply Kd.R_alloc | apply Kd.R_drewN | apply Kd.R_drew)); exact HO1287.out))) (below_size (by repeat (first | (with_reducible first | exact HB.out | apply below_alloc | apply pw_below_drewN | apply below_drew1 | refine below_set ?_ GE1280.out | refine below_set ?_ GE1281.out | refine below_set ?_ GE1282.out) | exact HB.out))))
  have n2_ := Aside0.mk (blk_below (g := gb1280) (o := .cells #[.int .i64 a0_0, .int .i64 a0_1, .slice A0_2 l0_2.length c0_2] 26 (0, 0)) (by (with_reducible repeat (first | refine blk_drewN ?_ _ | refine blk_drew ?_ | refine blk_alloc ?_ _)); exact BK1280.out) hb)
  have n3_ := Aside0.mk (blk_below (g := gb1281) (o := .cells #[.int .i64 a1_0, .int .i64 a1_1, .slice A1_2 l1_2.length c1_2] 41 (0, 0)) (by (with_reducible repeat (first | refine blk_drewN ?_ _ | refine blk_drew ?_ | refine blk_alloc ?_ _)); exact BK1281.out) hb)
  have n4_ := Aside0.mk (blk_below (g := gb1282) (o := .cells #[.int .i64 0, .int .i64 0, .slice none 0 0] 41 (0, 0)) (by (with_reducible repeat (first | refine blk_drewN ?_ _ | refine blk_drew ?_ | refine blk_alloc ?_ _)); exact BK1282.out) hb)
  have n5_ := Aside0.mk (below_step (by repeat (first | (with_reducible first | exact HB.out | apply below_alloc | apply pw_below_drewN | apply below_drew1 | refine below_set ?_ GE1280.out | refine below_set ?_ GE1281.out | refine below_set ?_ GE1282.out) | exact HB.out)) hb)
  clear HO1287
  clear BK1280
  clear BK1281
  clear BK1282
  clear HB
  have HO1287 := n0_
  have HO1292 := n1_
  have BK1280 := n2_
  have BK1281 := n3_
  have BK1282 := n4_
  have HB := n5_
  clear n0_ n1_ n2_ n3_ n4_ n5_
  (try clear hb)
  (try clear hb2)
  (try clear hk)
  (try clear hi)
  (try clear ho0)
  obtain ⟨Ao16, co16, eo16⟩ := Kd.R_slice HO1292.out
  (first | subst eo16 | (injection eo16 with f1_ f2_ f3_; have f4_ := f1_.symm; have f5_ := f3_.symm; clear f1_ f2_ f3_; subst f4_; subst f5_))
  refine hK.out _ _ ⟨(blk_cell BK1280.out 0).trans rfl, (blk_cell BK1280.out 1).trans rfl, (blk_cell BK1280.out 2).trans rfl, (blk_cell BK1281.out 0).trans rfl, (blk_cell BK1281.out 1).trans rfl, (blk_cell BK1281.out 2).trans rfl⟩ (fun hHeld => ?_)
  clear hK K
  refine norm_ (a' := ?_) ?_ ?_
  rotate_left
  · show Act.put _ (some 14) _ = _
    simp only [Act.put, List.setIfInBounds_toArray, List.set_cons_zero, List.set_cons_succ, i64_w, i32_w]
    rfl
  refine one_ (i := 6) (N := none) #[true, true, true, true, true, true, true] rfl rfl (by kernel_rfl) (by decide) (fun K hK => ?_)
  have hs14 : w13.cell? ⟨gb1282, 0, none⟩ = some (.int .i64 0) := (blk_cell BK1282.out 0).trans rfl
  have hfs14 := blk_frozen BK1282.out 0
  have hns14_0 := NB1280_1282.out
  have hns14_1 := NB1281_1282.out
  have hms14_0 := NB1282_1280.out
  have hms14_1 := NB1282_1281.out
  have hs15 : w13.cell? ⟨gb1282, 1, none⟩ = some (.int .i64 0) := (blk_cell BK1282.out 1).trans rfl
  have hfs15 := blk_frozen BK1282.out 1
  have hns15_0 := NB1280_1282.out
  have hns15_1 := NB1281_1282.out
  have hms15_0 := NB1282_1280.out
  have hms15_1 := NB1282_1281.out
  have hs17 : w13.cell? ⟨gb1282, 2, none⟩ = some (.slice none 0 0) := (blk_cell BK1282.out 2).trans rfl
  have hfs17 := blk_frozen BK1282.out 2
  have hns17_0 := NB1280_1282.out
  have hns17_1 := NB1281_1282.out
  have hms17_0 := NB1282_1280.out
  have hms17_1 := NB1282_1281.out
  refine skip_ (w1 := ?_) (by rfl) rfl ?_ ?_
  rotate_left
  · go_simp
    rfl
  refine hK.out _ _ ⟨((cell_far (p := ⟨gb1282, _, none⟩) NB1280_1282.out _).trans (((cell_far (p := ⟨gb1282, _, none⟩) NB1280_1282.out _).trans (((cell_far (p := ⟨gb1282, _, none⟩) NB1280_1282.out _).trans (hHeld.1)))))), ((cell_far (p := ⟨gb1282, _, none⟩) NB1280_1282.out _).trans (((cell_far (p := ⟨gb1282, _, none⟩) NB1280_1282.out _).trans (((cell_far (p := ⟨gb1282, _, none⟩) NB1280_1282.out _).trans (hHeld.2.1)))))), ((cell_far (p := ⟨gb1282, _, none⟩) NB1280_1282.out _).trans (((cell_far (p := ⟨gb1282, _, none⟩) NB1280_1282.out _).trans (((cell_far (p := ⟨gb1282, _, none⟩) NB1280_1282.out _).trans (hHeld.2.2.1)))))), ((cell_far (p := ⟨gb1282, _, none⟩) NB1281_1282.out _).trans (((cell_far (p := ⟨gb1282, _, none⟩) NB1281_1282.out _).trans (((cell_far (p := ⟨gb1282, _, none⟩) NB1281_1282.out _).trans (hHeld.2.2.2.1)))))), ((cell_far (p := ⟨gb1282, _, none⟩) NB1281_1282.out _).trans (((cell_far (p := ⟨gb1282, _, none⟩) NB1281_1282.out _).trans (((cell_far (p := ⟨gb1282, _, none⟩) NB1281_1282.out _).trans (hHeld.2.2.2.2.1)))))), ((cell_far (p := ⟨gb1282, _, none⟩) NB1281_1282.out _).trans (((cell_far (p := ⟨gb1282, _, none⟩) NB1281_1282.out _).trans (((cell_far (p := ⟨gb1282, _, none⟩) NB1281_1282.out _).trans (hHeld.2.2.2.2.2))))))⟩ (fun hHeld => ?_)
  clear hK K
  refine done_ (by kernel_rfl) ?_
  try go_wp2
  refine bodyPost_ret (results_cell_row rfl _ _ gb1282 41 #[.int .i64 t1288, .int .i64 t1289, .slice Ao16 t1290.length co16] (0, 0) _ rfl (by (with_reducible repeat (first | refine blk_drewN ?_ _ | refine blk_drew ?_ | refine blk_alloc ?_ _)); refine blk_put (cs := #[.int .i64 t1288, .int .i64 t1289, .slice none 0 0]) ?_ 2 _ rfl; (with_reducible repeat (first | refine blk_drewN ?_ _ | refine blk_drew ?_ | refine blk_alloc ?_ _)); refine blk_put (cs := #[.int .i64 t1288, .int .i64 0, .slice none 0 0]) ?_ 1 _ rfl; (with_reducible repeat (first | refine blk_drewN ?_ _ | refine blk_drew ?_ | refine blk_alloc ?_ _)); refine blk_put (cs := #[.int .i64 0, .int .i64 0, .slice none 0 0]) ?_ 0 _ rfl; (with_reducible repeat (first | refine blk_drewN ?_ _ | refine blk_drew ?_ | refine blk_alloc ?_ _)); exact BK1282.out) Try.underlying41 rfl (by kernel_rfl)) rfl ?_
  exact ⟨_, by first | rfl | (simp [errW_none, errW_some] <;> rfl) | (simp [*, errW_none, errW_some] <;> rfl), by (with_reducible repeat (first | apply Kd.R_alloc | apply Kd.R_drewN | apply Kd.R_drew)); exact Kd.R_mono (Kd.R_far (p := ⟨gb1282, 2, none⟩) (Kd.R_far (p := ⟨gb1282, 1, none⟩) (Kd.R_far (p := ⟨gb1282, 0, none⟩) (Kd.R_types HO1292.out BK1282.out (by decide)) (fun _ hk => hk.2) (.int .i64 t1288)) (fun _ hk => hk.2) (.int .i64 t1289)) (fun _ hk => hk.2) (.slice Ao16 t1290.length co16)) (fun _ hk => trivial), by repeat (first | (with_reducible first | exact HB.out | apply below_alloc | apply pw_below_drewN | apply below_drew1 | refine below_set ?_ GE1280.out | refine below_set ?_ GE1281.out | refine below_set ?_ GE1282.out) | exact HB.out)⟩

end Go.Proofs.Ytdlehfnlibddcaa.P
